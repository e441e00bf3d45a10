import PyProof.Rows.All
import Wide.All
import OpenK.AllK
import Wide.FinOn
import HandS.ForMost
import HandS.Flow
import HandS.Style
import HandS.Wide
import HandS.WideMore
import HandS.IsInst
import HandS.Evl
import HandS.Walk
import HandS.Defaults
import HandS.Head0
import HandS.Head1
import HandS.Head2
import HandS.HeadEnd
import HandS.HeadHook1
import HandS.HeadHook2
import HandS.HeadHook3
import KE.KExcSuper
import KE.KExcPX
import HandS.Exc
import HandS.ExcSuper
import HandS.ExcInit
import HandS.ExcField
import HandS.TryMany
import HandS.TryOnly
import HandS.SuiteRaise
import HandS.ExcInitHot
import HandS.RaiseFrom
import HandS.FStr
import HandS.TupAny
import KE.KUnpackStar
import HandS.Star
import HandS.More
import HandS.Small
import HandS.RaiseMore
import HandS.WordsExc
import HandS.DeepEq
import HandS.DictComp
import HandS.Codes
import HandS.MakeKwOnly
import HandS.Property
import HandS.OwnEq
import HandS.ListEq
import HandS.DictEq
import KE.KEqNest
import KE.KCallOwn
import KE.GoesMore
import KE.GoesEnum
import HandS.TupLe
import HandS.StrSplit
import HandS.RaiseFrom
import HandS.SortInts
import HandS.SortOrd
import HandS.Zip
import HandS.Text
import HandS.StrMore
import HandS.Set
import HandS.SetFor
import HandS.SetIn
import HandS.Replace
import HandS.Remove
import PySem.Challenge.RW_shiftparts_k18_texts_of_strengths
set_option Elab.async false
set_option linter.all false
set_option maxRecDepth 100000
set_option maxHeartbeats 4000000
/-! == and != of data at any depth: items by identity or by ==, lists and tuples of any length -/
namespace Z
open PySem PySem.Spec PyProof.Rows L2 Evl
def scB : V → V → Bool
  | .non, .non | .non, .int _ | .int _, .non | .non, .bl _ | .bl _, .non | .non, .str _ | .str _, .non => true
  | .int _, .int _ | .bl _, .bl _ | .str _, .str _ | .int _, .str _ | .str _, .int _ | .bl _, .str _ | .str _, .bl _ => true
  | _, _ => false
def isS : V → Bool
  | .non | .bl _ | .int _ | .str _ => true
  | _ => false
/-- items one by one, as far as both go -/
inductive EqZ (E : V → V → Bool → Prop) : List V → List V → List Bool → Prop
  | nil : EqZ E [] [] []
  | nilL {y : V} {ys : List V} : EqZ E [] (y :: ys) []
  | nilR {x : V} {xs : List V} : EqZ E (x :: xs) [] []
  | cons {x y : V} {xs ys : List V} {b : Bool} {e : List Bool} : E x y b → EqZ E xs ys e → EqZ E (x :: xs) (y :: ys) (b :: e)
/-- x == y gives b, items by E -/
inductive EqR (K : PySem.W.Frag) (H : Hp) (E : V → V → Bool → Prop) : V → V → Bool → Prop
  | sc {x y : V} : scB x y = true → EqR K H E x y (decide (x = y))
  | bi (a : Bool) (j : Int) : EqR K H E (.bl a) (.int j) ((if a then 1 else 0) == j)
  | ib (i : Int) (b : Bool) : EqR K H E (.int i) (.bl b) (i == (if b then 1 else 0))
  | ll {a b : Addr} {xs ys : List V} : SqL K H a xs → SqL K H b ys → xs.length ≠ ys.length → EqR K H E (.ref a) (.ref b) false
  | lst {a b : Addr} {xs ys : List V} {e : List Bool} : SqL K H a xs → SqL K H b ys → xs.length = ys.length → EqZ E xs ys e → EqR K H E (.ref a) (.ref b) (e.all id)
  | tup {a b : Addr} {xs ys : List V} {e : List Bool} : SqT K H a xs → SqT K H b ys → EqZ E xs ys e → EqR K H E (.ref a) (.ref b) (e.all id && decide (xs.length = ys.length))
  | lt {a b : Addr} {xs ys : List V} : SqL K H a xs → SqT K H b ys → EqR K H E (.ref a) (.ref b) false
  | tl {a b : Addr} {xs ys : List V} : SqT K H a xs → SqL K H b ys → EqR K H E (.ref a) (.ref b) false
  | ls {a : Addr} {xs : List V} {y : V} : SqL K H a xs → isS y = true → EqR K H E (.ref a) y false
  | sl {a : Addr} {xs : List V} {y : V} : SqL K H a xs → isS y = true → EqR K H E y (.ref a) false
  | ts {a : Addr} {xs : List V} {y : V} : SqT K H a xs → isS y = true → EqR K H E (.ref a) y false
  | st {a : Addr} {xs : List V} {y : V} : SqT K H a xs → isS y = true → EqR K H E y (.ref a) false
/-- two items: the same object, or equal by == -/
def EqI (K : PySem.W.Frag) (H : Hp) : Nat → V → V → Bool → Prop
  | 0 => fun _ _ _ => False
  | n + 1 => fun x y b => (∃ a, x = .ref a ∧ y = .ref a ∧ b = true) ∨ (EqR K H (EqI K H n) x y b ∧ ∀ a, x = .ref a → y ≠ .ref a)
theorem EqI.same {K : PySem.W.Frag} {H : Hp} {n : Nat} (a : Addr) : EqI K H (n + 1) (.ref a) (.ref a) true := .inl ⟨a, rfl, rfl, rfl⟩
theorem EqI.sc {K : PySem.W.Frag} {H : Hp} {n : Nat} {x y : V} (h : scB x y = true) : EqI K H (n + 1) x y (decide (x = y)) := .inr ⟨.sc h, fun a e => by
  subst e
  cases h⟩
theorem EqI.rc {K : PySem.W.Frag} {H : Hp} {n : Nat} {a b : Addr} {k : Bool} (h : EqR K H (EqI K H n) (.ref a) (.ref b) k) (ne : a ≠ b) : EqI K H (n + 1) (.ref a) (.ref b) k := .inr ⟨h, fun c e f => by
  injection e with e
  injection f with f
  exact ne (e.trans f.symm)⟩
section
variable {X : Cx} {pins : List (Addr × Obj)} {σ : L2.St} {H : Hp} {s : Shared}
theorem sc_rc {A : Around} {x y : V} {v u : Value} (h : scB x y = true) (rx : RelV x v) (ry : RelV y u) : SeqAt.RcAt A s v u (decide (x = y)) := by
  have beqd : ∀ (a b : Bool), decide (V.bl a = V.bl b) = (a == b) := fun a b => by cases a <;> cases b <;> rfl
  have beqi : ∀ (a b : Int), decide (V.int a = V.int b) = (a == b) := fun a b => by
    rw [Bool.beq_eq_decide_eq]
    simp
  have beqs : ∀ (a b : Str), decide (V.str a = V.str b) = (a == b) := fun a b => by
    rw [Bool.beq_eq_decide_eq]
    simp
  cases x <;> cases y <;> first | (exact absurd (show false = true from h) Bool.false_ne_true) | skip
  · cases rx; cases ry; exact SeqAt.RcAt.none_none
  · cases rx; cases ry; exact SeqAt.RcAt.none_bool _
  · cases rx; obtain ⟨t, rfl⟩ := ry; exact SeqAt.RcAt.none_int _ _
  · cases rx; obtain ⟨t, rfl⟩ := ry; exact SeqAt.RcAt.none_str _ _
  · cases rx; cases ry; exact SeqAt.RcAt.bool_none _
  · cases rx; cases ry; rw [beqd]; exact SeqAt.RcAt.bool_bool _ _
  · cases rx; obtain ⟨t, rfl⟩ := ry; exact SeqAt.RcAt.bool_str _ _ _
  · cases ry; obtain ⟨t, rfl⟩ := rx; exact SeqAt.RcAt.int_none _ _
  · obtain ⟨t, rfl⟩ := rx; obtain ⟨t', rfl⟩ := ry; rw [beqi]; exact SeqAt.RcAt.int_int _ _ _ _
  · obtain ⟨t, rfl⟩ := rx; obtain ⟨t', rfl⟩ := ry; exact SeqAt.RcAt.int_str _ _ _ _
  · cases ry; obtain ⟨t, rfl⟩ := rx; exact SeqAt.RcAt.str_none _ _
  · cases ry; obtain ⟨t, rfl⟩ := rx; exact SeqAt.RcAt.str_bool _ _ _
  · obtain ⟨t, rfl⟩ := rx; obtain ⟨t', rfl⟩ := ry; exact SeqAt.RcAt.str_int _ _ _ _
  · obtain ⟨t, rfl⟩ := rx; obtain ⟨t', rfl⟩ := ry; rw [beqs]; exact SeqAt.RcAt.str_str _ _ _ _
theorem sc_eq {A : Around} {x y : V} {v u : Value} (h : scB x y = true) (rx : RelV x v) (ry : RelV y u) : SeqAt.EqAt A s v u (decide (x = y)) := by
  have beqd : ∀ (a b : Bool), decide (V.bl a = V.bl b) = (a == b) := fun a b => by cases a <;> cases b <;> rfl
  have beqi : ∀ (a b : Int), decide (V.int a = V.int b) = (a == b) := fun a b => by
    rw [Bool.beq_eq_decide_eq]
    simp
  have beqs : ∀ (a b : Str), decide (V.str a = V.str b) = (a == b) := fun a b => by
    rw [Bool.beq_eq_decide_eq]
    simp
  cases x <;> cases y <;> first | (exact absurd (show false = true from h) Bool.false_ne_true) | skip
  · cases rx; cases ry; exact SeqAt.EqAt.same _
  · cases rx; cases ry; exact SeqAt.EqAt.none_bool _
  · cases rx; obtain ⟨t, rfl⟩ := ry; exact SeqAt.EqAt.none_int _ _
  · cases rx; obtain ⟨t, rfl⟩ := ry; exact SeqAt.EqAt.none_str _ _
  · cases rx; cases ry; exact SeqAt.EqAt.bool_none _
  · cases rx; cases ry; rw [beqd]; exact SeqAt.EqAt.bool_bool _ _
  · cases rx; obtain ⟨t, rfl⟩ := ry; exact SeqAt.EqAt.bool_str _ _ _
  · cases ry; obtain ⟨t, rfl⟩ := rx; exact SeqAt.EqAt.int_none _ _
  · obtain ⟨t, rfl⟩ := rx; obtain ⟨t', rfl⟩ := ry; rw [beqi]; exact SeqAt.EqAt.int_int _ _ _ _
  · obtain ⟨t, rfl⟩ := rx; obtain ⟨t', rfl⟩ := ry; exact SeqAt.EqAt.int_str _ _ _ _
  · cases ry; obtain ⟨t, rfl⟩ := rx; exact SeqAt.EqAt.str_none _ _
  · cases ry; obtain ⟨t, rfl⟩ := rx; exact SeqAt.EqAt.str_bool _ _ _
  · obtain ⟨t, rfl⟩ := rx; obtain ⟨t', rfl⟩ := ry; exact SeqAt.EqAt.str_int _ _ _ _
  · obtain ⟨t, rfl⟩ := rx; obtain ⟨t', rfl⟩ := ry; rw [beqs]; exact SeqAt.EqAt.str_str _ _ _ _
theorem sc_ne {A : Around} {x y : V} {v u : Value} (h : scB x y = true) (rx : RelV x v) (ry : RelV y u) : SeqAt.RcNeAt A s v u (!decide (x = y)) := by
  have beqd : ∀ (a b : Bool), decide (V.bl a = V.bl b) = (a == b) := fun a b => by cases a <;> cases b <;> rfl
  have beqi : ∀ (a b : Int), decide (V.int a = V.int b) = (a == b) := fun a b => by
    rw [Bool.beq_eq_decide_eq]
    simp
  have beqs : ∀ (a b : Str), decide (V.str a = V.str b) = (a == b) := fun a b => by
    rw [Bool.beq_eq_decide_eq]
    simp
  cases x <;> cases y <;> first | (exact absurd (show false = true from h) Bool.false_ne_true) | skip
  · cases rx; cases ry; exact SeqAt.RcNeAt.none_none
  · cases rx; cases ry; exact SeqAt.RcNeAt.none_bool _
  · cases rx; obtain ⟨t, rfl⟩ := ry; exact SeqAt.RcNeAt.none_int _ _
  · cases rx; obtain ⟨t, rfl⟩ := ry; exact SeqAt.RcNeAt.none_str _ _
  · cases rx; cases ry; exact SeqAt.RcNeAt.bool_none _
  · cases rx; cases ry; rw [beqd]; exact SeqAt.RcNeAt.bool_bool _ _
  · cases rx; obtain ⟨t, rfl⟩ := ry; exact SeqAt.RcNeAt.bool_str _ _ _
  · cases ry; obtain ⟨t, rfl⟩ := rx; exact SeqAt.RcNeAt.int_none _ _
  · obtain ⟨t, rfl⟩ := rx; obtain ⟨t', rfl⟩ := ry; rw [beqi]; exact SeqAt.RcNeAt.int_int _ _ _ _
  · obtain ⟨t, rfl⟩ := rx; obtain ⟨t', rfl⟩ := ry; exact SeqAt.RcNeAt.int_str _ _ _ _
  · cases ry; obtain ⟨t, rfl⟩ := rx; exact SeqAt.RcNeAt.str_none _ _
  · cases ry; obtain ⟨t, rfl⟩ := rx; exact SeqAt.RcNeAt.str_bool _ _ _
  · obtain ⟨t, rfl⟩ := rx; obtain ⟨t', rfl⟩ := ry; exact SeqAt.RcNeAt.str_int _ _ _ _
  · obtain ⟨t, rfl⟩ := rx; obtain ⟨t', rfl⟩ := ry; rw [beqs]; exact SeqAt.RcNeAt.str_str _ _ _ _
theorem range_all : ∀ e : List Bool, (List.range e.length).all (fun i => e.getD i false) = e.all id
  | [] => rfl
  | b :: e => by
    rw [List.length_cons, List.range_succ_eq_map, List.all_cons, List.all_map, List.all_cons, ← range_all e]
    rfl
theorem EqZ.len {E : V → V → Bool → Prop} {xs ys : List V} {e : List Bool} (h : EqZ E xs ys e) : e.length = min xs.length ys.length := by
  induction h with
  | nil => rfl
  | nilL => simp
  | nilR => simp
  | cons _ _ ih =>
    simp only [List.length_cons]
    omega
theorem EqZ.run {E : V → V → Bool → Prop} {A : Around} (ih : ∀ {x y : V} {b : Bool} {v u : Value}, E x y b → RelV x v → RelV y u → SeqAt.EqAt A s v u b) {xs ys : List V} {e : List Bool} (h : EqZ E xs ys e) : ∀ {us ws : List Value}, Vals xs us → Vals ys ws →
    ∀ j (h1 : j < us.length) (h2 : j < ws.length), SeqAt.EqAt A s us[j] ws[j] (e.getD j false) := by
  induction h with
  | nil => intro us ws r1 r2 j h1 h2; cases r1; exact absurd h1 (Nat.not_lt_zero j)
  | nilL => intro us ws r1 r2 j h1 h2; cases r1; exact absurd h1 (Nat.not_lt_zero j)
  | nilR => intro us ws r1 r2 j h1 h2; cases r2; exact absurd h2 (Nat.not_lt_zero j)
  | cons h _ k =>
    intro us ws r1 r2 j h1 h2
    cases r1 with
    | cons a1 b1 =>
      cases r2 with
      | cons a2 b2 =>
        cases j with
        | zero => exact ih h a1 a2
        | succ j => exact k b1 b2 j (Nat.lt_of_succ_lt_succ h1) (Nat.lt_of_succ_lt_succ h2)
theorem EqR.run (I : Inv X pins σ H s) {E : V → V → Bool → Prop} {A : Around} (hu : A.units < cLine) (ih : ∀ {x y : V} {b : Bool} {v u : Value}, E x y b → RelV x v → RelV y u → SeqAt.EqAt A.in1 s v u b)
    {x y : V} {b : Bool} {v u : Value} (h : EqR X.K H E x y b) (rx : RelV x v) (ry : RelV y u) : SeqAt.RcAt A s v u b := by
  cases h with
  | sc h => exact sc_rc h rx ry
  | bi a j => cases rx; obtain ⟨t, rfl⟩ := ry; exact SeqAt.RcAt.bool_int _ _ _
  | ib i b => cases ry; obtain ⟨t, rfl⟩ := rx; exact SeqAt.RcAt.int_bool _ _ _
  | ll h1 h2 hn =>
    cases rx; cases ry
    obtain ⟨i1, r1, p1, _⟩ := I.list h1
    obtain ⟨i2, r2, p2, _⟩ := I.list h2
    refine SeqAt.RcAt.lists_lengths p1.isList p2.isList ?_ hu
    have e1 := r1.length
    have e2 := r2.length
    simp only [List.size_toArray, bne_iff_ne]
    omega
  | @lst a b xs ys e h1 h2 hl hz =>
    cases rx; cases ry
    obtain ⟨i1, r1, p1, _⟩ := I.list h1
    obtain ⟨i2, r2, p2, _⟩ := I.list h2
    have e1 := r1.length
    have e2 := r2.length
    have el := hz.len
    have q := SeqAt.RcAt.lists (A := A) (e := fun i => e.getD i false) p1.isList p2.isList (by simp only [List.size_toArray]; omega) hu
      (fun j h1 h2 => hz.run ih r1 r2 j (by simpa using h1) (by simpa using h2))
    rw [show i1.toArray.size = e.length by simp only [List.size_toArray]; omega, range_all] at q
    exact q
  | @tup a b xs ys e h1 h2 hz =>
    cases rx; cases ry
    obtain ⟨i1, r1, p1, _⟩ := I.tuple h1
    obtain ⟨i2, r2, p2, _⟩ := I.tuple h2
    have e1 := r1.length
    have e2 := r2.length
    have el := hz.len
    have q := SeqAt.RcAt.tuples (A := A) (e := fun i => e.getD i false) p1 p2 hu
      (fun j h1 h2 => hz.run ih r1 r2 j (by simpa using h1) (by simpa using h2))
    rw [show min i1.toArray.size i2.toArray.size = e.length by simp only [List.size_toArray]; omega, range_all] at q
    have q2 : (i1.toArray.size == i2.toArray.size) = decide (xs.length = ys.length) := by
      rw [Bool.beq_eq_decide_eq]
      simp only [List.size_toArray]
      rw [e1, e2]
    rw [q2] at q
    exact q
  | lt h1 h2 =>
    cases rx; cases ry
    obtain ⟨i1, r1, p1, _⟩ := I.list h1
    obtain ⟨i2, r2, p2, _⟩ := I.tuple h2
    exact SeqAt.RcAt.list_tuple p1.isList p2 hu
  | tl h1 h2 =>
    cases rx; cases ry
    obtain ⟨i1, r1, p1, _⟩ := I.tuple h1
    obtain ⟨i2, r2, p2, _⟩ := I.list h2
    exact SeqAt.RcAt.tuple_list p1 p2.isList hu
  | ls h1 hs =>
    cases rx
    obtain ⟨i1, r1, p1, _⟩ := I.list h1
    cases y with
    | non => cases ry; exact SeqAt.RcAt.list_none p1.isList hu
    | bl b => cases ry; exact SeqAt.RcAt.list_bool _ p1.isList hu
    | int i => obtain ⟨t, rfl⟩ := ry; exact SeqAt.RcAt.list_int _ _ p1.isList hu
    | str z => obtain ⟨t, rfl⟩ := ry; exact SeqAt.RcAt.list_str _ _ p1.isList hu
    | _ => cases hs
  | sl h1 hs =>
    cases ry
    obtain ⟨i1, r1, p1, _⟩ := I.list h1
    cases x with
    | non => cases rx; exact SeqAt.RcAt.none_list p1.isList hu
    | bl b => cases rx; exact SeqAt.RcAt.bool_list _ p1.isList hu
    | int i => obtain ⟨t, rfl⟩ := rx; exact SeqAt.RcAt.int_list _ _ p1.isList hu
    | str z => obtain ⟨t, rfl⟩ := rx; exact SeqAt.RcAt.str_list _ _ p1.isList hu
    | _ => cases hs
  | ts h1 hs =>
    cases rx
    obtain ⟨i1, r1, p1, _⟩ := I.tuple h1
    cases y with
    | non => cases ry; exact SeqAt.RcAt.tuple_none p1 hu
    | bl b => cases ry; exact SeqAt.RcAt.tuple_bool _ p1 hu
    | int i => obtain ⟨t, rfl⟩ := ry; exact SeqAt.RcAt.tuple_int _ _ p1 hu
    | str z => obtain ⟨t, rfl⟩ := ry; exact SeqAt.RcAt.tuple_str _ _ p1 hu
    | _ => cases hs
  | st h1 hs =>
    cases ry
    obtain ⟨i1, r1, p1, _⟩ := I.tuple h1
    cases x with
    | non => cases rx; exact SeqAt.RcAt.none_tuple p1 hu
    | bl b => cases rx; exact SeqAt.RcAt.bool_tuple _ p1 hu
    | int i => obtain ⟨t, rfl⟩ := rx; exact SeqAt.RcAt.int_tuple _ _ p1 hu
    | str z => obtain ⟨t, rfl⟩ := rx; exact SeqAt.RcAt.str_tuple _ _ p1 hu
    | _ => cases hs
theorem EqR.runNe (I : Inv X pins σ H s) {E : V → V → Bool → Prop} {A : Around} (hu : A.units < cLine) (ih : ∀ {x y : V} {b : Bool} {v u : Value}, E x y b → RelV x v → RelV y u → SeqAt.EqAt A.in1 s v u b)
    {x y : V} {b : Bool} {v u : Value} (h : EqR X.K H E x y b) (rx : RelV x v) (ry : RelV y u) : SeqAt.RcNeAt A s v u (!b) := by
  cases h with
  | sc h => exact sc_ne h rx ry
  | bi a j => cases rx; obtain ⟨t, rfl⟩ := ry; exact SeqAt.RcNeAt.bool_int _ _ _
  | ib i b => cases ry; obtain ⟨t, rfl⟩ := rx; exact SeqAt.RcNeAt.int_bool _ _ _
  | ll h1 h2 hn =>
    cases rx; cases ry
    obtain ⟨i1, r1, p1, _⟩ := I.list h1
    obtain ⟨i2, r2, p2, _⟩ := I.list h2
    refine SeqAt.RcNeAt.lists_lengths p1.isList p2.isList ?_ hu
    have e1 := r1.length
    have e2 := r2.length
    simp only [List.size_toArray, bne_iff_ne]
    omega
  | @lst a b xs ys e h1 h2 hl hz =>
    cases rx; cases ry
    obtain ⟨i1, r1, p1, _⟩ := I.list h1
    obtain ⟨i2, r2, p2, _⟩ := I.list h2
    have e1 := r1.length
    have e2 := r2.length
    have el := hz.len
    have q := SeqAt.RcNeAt.lists (A := A) (e := fun i => e.getD i false) p1.isList p2.isList (by simp only [List.size_toArray]; omega) hu
      (fun j h1 h2 => hz.run ih r1 r2 j (by simpa using h1) (by simpa using h2))
    rw [show i1.toArray.size = e.length by simp only [List.size_toArray]; omega, range_all] at q
    exact q
  | @tup a b xs ys e h1 h2 hz =>
    cases rx; cases ry
    obtain ⟨i1, r1, p1, _⟩ := I.tuple h1
    obtain ⟨i2, r2, p2, _⟩ := I.tuple h2
    have e1 := r1.length
    have e2 := r2.length
    have el := hz.len
    have q := SeqAt.RcNeAt.tuples (A := A) (e := fun i => e.getD i false) p1 p2 hu
      (fun j h1 h2 => hz.run ih r1 r2 j (by simpa using h1) (by simpa using h2))
    rw [show min i1.toArray.size i2.toArray.size = e.length by simp only [List.size_toArray]; omega, range_all] at q
    have q2 : (i1.toArray.size == i2.toArray.size) = decide (xs.length = ys.length) := by
      rw [Bool.beq_eq_decide_eq]
      simp only [List.size_toArray]
      rw [e1, e2]
    rw [q2] at q
    exact q
  | lt h1 h2 =>
    cases rx; cases ry
    obtain ⟨i1, r1, p1, _⟩ := I.list h1
    obtain ⟨i2, r2, p2, _⟩ := I.tuple h2
    exact SeqAt.RcNeAt.list_tuple p1.isList p2 hu
  | tl h1 h2 =>
    cases rx; cases ry
    obtain ⟨i1, r1, p1, _⟩ := I.tuple h1
    obtain ⟨i2, r2, p2, _⟩ := I.list h2
    exact SeqAt.RcNeAt.tuple_list p1 p2.isList hu
  | ls h1 hs =>
    cases rx
    obtain ⟨i1, r1, p1, _⟩ := I.list h1
    cases y with
    | non => cases ry; exact SeqAt.RcNeAt.list_none p1.isList hu
    | bl b => cases ry; exact SeqAt.RcNeAt.list_bool _ p1.isList hu
    | int i => obtain ⟨t, rfl⟩ := ry; exact SeqAt.RcNeAt.list_int _ _ p1.isList hu
    | str z => obtain ⟨t, rfl⟩ := ry; exact SeqAt.RcNeAt.list_str _ _ p1.isList hu
    | _ => cases hs
  | sl h1 hs =>
    cases ry
    obtain ⟨i1, r1, p1, _⟩ := I.list h1
    cases x with
    | non => cases rx; exact SeqAt.RcNeAt.none_list p1.isList hu
    | bl b => cases rx; exact SeqAt.RcNeAt.bool_list _ p1.isList hu
    | int i => obtain ⟨t, rfl⟩ := rx; exact SeqAt.RcNeAt.int_list _ _ p1.isList hu
    | str z => obtain ⟨t, rfl⟩ := rx; exact SeqAt.RcNeAt.str_list _ _ p1.isList hu
    | _ => cases hs
  | ts h1 hs =>
    cases rx
    obtain ⟨i1, r1, p1, _⟩ := I.tuple h1
    cases y with
    | non => cases ry; exact SeqAt.RcNeAt.tuple_none p1 hu
    | bl b => cases ry; exact SeqAt.RcNeAt.tuple_bool _ p1 hu
    | int i => obtain ⟨t, rfl⟩ := ry; exact SeqAt.RcNeAt.tuple_int _ _ p1 hu
    | str z => obtain ⟨t, rfl⟩ := ry; exact SeqAt.RcNeAt.tuple_str _ _ p1 hu
    | _ => cases hs
  | st h1 hs =>
    cases ry
    obtain ⟨i1, r1, p1, _⟩ := I.tuple h1
    cases x with
    | non => cases rx; exact SeqAt.RcNeAt.none_tuple p1 hu
    | bl b => cases rx; exact SeqAt.RcNeAt.bool_tuple _ p1 hu
    | int i => obtain ⟨t, rfl⟩ := rx; exact SeqAt.RcNeAt.int_tuple _ _ p1 hu
    | str z => obtain ⟨t, rfl⟩ := rx; exact SeqAt.RcNeAt.str_tuple _ _ p1 hu
    | _ => cases hs
theorem EqI.run (I : Inv X pins σ H s) : ∀ {n : Nat} {A : Around}, A.units + n < cLine → ∀ {x y : V} {b : Bool} {v u : Value}, EqI X.K H n x y b → RelV x v → RelV y u → SeqAt.EqAt A s v u b
  | 0, _, _, _, _, _, _, _, h, _, _ => h.elim
  | n + 1, A, hu, x, y, b, v, u, h, rx, ry => by
    have hu1 : A.units < cLine := by omega
    rcases h with ⟨a, rfl, rfl, rfl⟩ | ⟨h, hn⟩
    · cases rx; cases ry; exact SeqAt.EqAt.same _
    · have ih : ∀ {x y : V} {b : Bool} {v u : Value}, EqI X.K H n x y b → RelV x v → RelV y u → SeqAt.EqAt A.in1 s v u b := EqI.run I (by show A.units + 1 + n < cLine; omega)
      by_cases hr : ∃ a b, x = V.ref a ∧ y = V.ref b
      · obtain ⟨a, b, rfl, rfl⟩ := hr
        have k := h.run I hu1 ih rx ry
        cases rx; cases ry
        exact SeqAt.EqAt.of_refs (fun e => hn a rfl (by rw [e])) k
      · have hu := hu1
        cases h with
        | sc h => exact sc_eq h rx ry
        | bi a j => cases rx; obtain ⟨t, rfl⟩ := ry; exact SeqAt.EqAt.bool_int _ _ _
        | ib i b => cases ry; obtain ⟨t, rfl⟩ := rx; exact SeqAt.EqAt.int_bool _ _ _
        | ll _ _ _ => exact absurd ⟨_, _, rfl, rfl⟩ hr
        | lst _ _ _ _ => exact absurd ⟨_, _, rfl, rfl⟩ hr
        | tup _ _ _ => exact absurd ⟨_, _, rfl, rfl⟩ hr
        | lt _ _ => exact absurd ⟨_, _, rfl, rfl⟩ hr
        | tl _ _ => exact absurd ⟨_, _, rfl, rfl⟩ hr
        | ls h1 hs =>
          cases rx
          obtain ⟨i1, r1, p1, _⟩ := I.list h1
          cases y with
          | non => cases ry; exact SeqAt.EqAt.list_none p1.isList hu
          | bl b => cases ry; exact SeqAt.EqAt.list_bool _ p1.isList hu
          | int i => obtain ⟨t, rfl⟩ := ry; exact SeqAt.EqAt.list_int _ _ p1.isList hu
          | str z => obtain ⟨t, rfl⟩ := ry; exact SeqAt.EqAt.list_str _ _ p1.isList hu
          | _ => cases hs
        | sl h1 hs =>
          cases ry
          obtain ⟨i1, r1, p1, _⟩ := I.list h1
          cases x with
          | non => cases rx; exact SeqAt.EqAt.none_list p1.isList hu
          | bl b => cases rx; exact SeqAt.EqAt.bool_list _ p1.isList hu
          | int i => obtain ⟨t, rfl⟩ := rx; exact SeqAt.EqAt.int_list _ _ p1.isList hu
          | str z => obtain ⟨t, rfl⟩ := rx; exact SeqAt.EqAt.str_list _ _ p1.isList hu
          | _ => cases hs
        | ts h1 hs =>
          cases rx
          obtain ⟨i1, r1, p1, _⟩ := I.tuple h1
          cases y with
          | non => cases ry; exact SeqAt.EqAt.tuple_none p1 hu
          | bl b => cases ry; exact SeqAt.EqAt.tuple_bool _ p1 hu
          | int i => obtain ⟨t, rfl⟩ := ry; exact SeqAt.EqAt.tuple_int _ _ p1 hu
          | str z => obtain ⟨t, rfl⟩ := ry; exact SeqAt.EqAt.tuple_str _ _ p1 hu
          | _ => cases hs
        | st h1 hs =>
          cases ry
          obtain ⟨i1, r1, p1, _⟩ := I.tuple h1
          cases x with
          | non => cases rx; exact SeqAt.EqAt.none_tuple p1 hu
          | bl b => cases rx; exact SeqAt.EqAt.bool_tuple _ p1 hu
          | int i => obtain ⟨t, rfl⟩ := rx; exact SeqAt.EqAt.int_tuple _ _ p1 hu
          | str z => obtain ⟨t, rfl⟩ := rx; exact SeqAt.EqAt.str_tuple _ _ p1 hu
          | _ => cases hs

/-- x == y, x != y -/
def rEqG (K : PySem.W.Frag) : R2 := fun x y H Q => ∃ b, EqR K H (EqI K H 60) x y b ∧ Q (.bl b) H
def rNeG (K : PySem.W.Frag) : R2 := fun x y H Q => ∃ b, EqR K H (EqI K H 60) x y b ∧ Q (.bl (!b)) H
theorem op_eqG (hu : X.A.units + 64 < cLine) : OpR X (compareOp .Eq) (rEqG X.K) := by
  intro pins s σ H x y v u Q I rx ry h
  obtain ⟨b, e, q⟩ := h
  exact e.run I (A := X.A) (by omega) (EqI.run I (by show X.A.units + 1 + 60 < cLine; omega)) rx ry X.prog X.w _ _ ⟨.bl b, H, I, rfl, q⟩
theorem op_neG (hu : X.A.units + 64 < cLine) : OpR X (compareOp .NotEq) (rNeG X.K) := by
  intro pins s σ H x y v u Q I rx ry h
  obtain ⟨b, e, q⟩ := h
  exact e.runNe I (A := X.A) (by omega) (EqI.run I (by show X.A.units + 1 + 60 < cLine; omega)) rx ry X.prog X.w _ _ ⟨.bl (!b), H, I, rfl, q⟩
end
end Z

/-! L3: wide rules (one rule a construct, whatever the kinds of its operands), and steps for their readings -/
namespace Z
open PySem PySem.Spec PyProof.Rows L2 Evl

/-! ### wide relations -/
def rAddA (K : PySem.W.Frag) : R2 := fun x y H Q => (∃ i j, x = .int i ∧ y = .int j ∧ Q (.int (i + j)) H) ∨ (∃ i j, x = .str i ∧ y = .str j ∧ i.length + j.length ≤ sizeLine ∧ Q (.str (i ++ j)) H) ∨ rCat x y H Q ∨ L2.rCatA K x y H Q
def rSubA : R2 := fun x y H Q => ∃ i j, x = .int i ∧ y = .int j ∧ Q (.int (i - j)) H
def rMulS : R2 := fun x y H Q => ∃ z n, x = .str z ∧ y = .int n ∧ MulOk z n ∧ Q (.str (Txt.mul z n)) H
def rMulA : R2 := fun x y H Q => (∃ i j, x = .int i ∧ y = .int j ∧ CMulW i j ∧ Q (.int (i * j)) H) ∨ rMulS x y H Q ∨ rRep x y H Q
def rDivA : R2 := fun x y H Q => ∃ i j, x = .int i ∧ y = .int j ∧ CDivW i j ∧ Q (.int (i / j)) H
def rModA : R2 := fun x y H Q => ∃ i j, x = .int i ∧ y = .int j ∧ 0 < j ∧ Q (.int (i % j)) H
def rPowA : R2 := fun x y H Q => ∃ i j, x = .int i ∧ y = .int j ∧ CPow i j ∧ Q (.int (i ^ j.toNat)) H
def rEqA (K : PySem.W.Frag) : R2 := fun x y H Q => rEq x y H Q ∨ rEqG K x y H Q ∨ rEqD K x y H Q
def rNeA (K : PySem.W.Frag) : R2 := fun x y H Q => rNe x y H Q ∨ rNeG K x y H Q ∨ rNeD K x y H Q
def rLtA : R2 := fun x y H Q => (∃ i j, x = .int i ∧ y = .int j ∧ Q (.bl (decide (i < j))) H) ∨ (∃ i j, x = .str i ∧ y = .str j ∧ Q (.bl (decide (i.cps.toList < j.cps.toList))) H)
def rLeA : R2 := fun x y H Q => (∃ i j, x = .int i ∧ y = .int j ∧ Q (.bl (decide (i ≤ j))) H) ∨ (∃ i j, x = .str i ∧ y = .str j ∧ Q (.bl (!decide (j.cps.toList < i.cps.toList))) H)
def rGtA : R2 := fun x y H Q => (∃ i j, x = .int i ∧ y = .int j ∧ Q (.bl (decide (j < i))) H) ∨ (∃ i j, x = .str i ∧ y = .str j ∧ Q (.bl (decide (j.cps.toList < i.cps.toList))) H)
def rGeA : R2 := fun x y H Q => (∃ i j, x = .int i ∧ y = .int j ∧ Q (.bl (decide (j ≤ i))) H) ∨ (∃ i j, x = .str i ∧ y = .str j ∧ Q (.bl (!decide (i.cps.toList < j.cps.toList))) H)
def rIsA : R2 := fun x y H Q => (y = .non ∧ Q (.bl (decide (x = .non))) H) ∨ rIsB x y H Q ∨ (∃ a b oa ob, x = .ref a ∧ y = .ref b ∧ H a = some oa ∧ isObj oa = true ∧ H b = some ob ∧ isObj ob = true ∧ Q (.bl (decide (a = b))) H)
def rNotA : R2 := fun x y H Q => (y = .non ∧ Q (.bl (!decide (x = .non))) H) ∨ rNotB x y H Q ∨ (∃ a b oa ob, x = .ref a ∧ y = .ref b ∧ H a = some oa ∧ isObj oa = true ∧ H b = some ob ∧ isObj ob = true ∧ Q (.bl (!decide (a = b))) H)
def rInA (K : PySem.W.Frag) : R2 := fun x y H Q => (∃ (c : Nat) (z : Str), x = .str ⟨#[c]⟩ ∧ y = .str z ∧ Q (.bl (decide (c ∈ z.cps.toList))) H) ∨ rIn K false x y H Q ∨ (∃ i j, x = .str i ∧ y = .str j ∧ Q (.bl (!(Builtin.Str.occurrences j i 0 j.length 1).isEmpty)) H)
def rNinA (K : PySem.W.Frag) : R2 := fun x y H Q => (∃ (c : Nat) (z : Str), x = .str ⟨#[c]⟩ ∧ y = .str z ∧ Q (.bl (!decide (c ∈ z.cps.toList))) H) ∨ rIn K true x y H Q ∨ (∃ i j, x = .str i ∧ y = .str j ∧ Q (.bl (!(!(Builtin.Str.occurrences j i 0 j.length 1).isEmpty))) H)
def rSlA (K : PySem.W.Frag) : V → Option Int → Option Int → Hp → VK → Prop := fun x lo hi H Q => rSlS x lo hi H Q ∨ rSlL K x lo hi H Q ∨ L2.rSlA K x lo hi H Q
def rLenA (K : PySem.W.Frag) : List V → Hp → VK → Prop := fun xs H Q => (∃ x n, xs = [x] ∧ LenV K x H n ∧ Q (.int n) H) ∨ (∃ a kvs, xs = [V.ref a] ∧ H a = some (.dK kvs) ∧ Q (.int kvs.length) H)
def rMaxA (K : PySem.W.Frag) : List V → Hp → VK → Prop := fun xs H Q => (∃ i j, xs = [.int i, .int j] ∧ Q (.int (if j > i then j else i)) H) ∨ rMax K xs H Q
def rMinA (K : PySem.W.Frag) : List V → Hp → VK → Prop := fun xs H Q => (∃ i j, xs = [.int i, .int j] ∧ Q (.int (if j < i then j else i)) H) ∨ rMin K xs H Q
def rJoinA (K : PySem.W.Frag) : V → List V → Hp → VK → Prop := fun x xs H Q => ∃ a p, ∃ ys : List Str, x = .str a ∧ xs = [.ref p] ∧ (SqL K H p (ys.map V.str) ∨ SqT K H p (ys.map V.str)) ∧ (ys.map (·.length)).sum + ys.length * a.length ≤ 16777216 ∧ Q (.str (Txt.join a ys)) H
def rUpper : V → List V → Hp → VK → Prop := fun x xs H Q => ∃ a, x = .str a ∧ xs = [] ∧ a.length ≤ 5592405 ∧ Q (.str (Txt.upper a)) H
def iAny (K : PySem.W.Frag) (te : TE) : TI := fun σ H R => iList K te σ H R ∨ iTup K te σ H R ∨ iStr te σ H R

section
variable {X : Cx}
theorem op_addA : OpR X (binaryOp .Add) (rAddA X.K) := op_add.or (op_add_str.or (op_cat.or op_catA))
theorem op_subA : OpR X (binaryOp .Sub) rSubA := op_sub
theorem op_mulS : OpR X (binaryOp .Mult) rMulS := by
  intro pins s σ H x y v u Q I rx ry h
  obtain ⟨i, j, rfl, rfl, hz, q⟩ := h
  obtain ⟨t, rfl⟩ := rx
  obtain ⟨t', rfl⟩ := ry
  exact SB.mul hz fun t' k => ⟨.str _, H, I.tok _, ⟨_, rfl⟩, q⟩
theorem op_mulA : OpR X (binaryOp .Mult) rMulA := op_mulW.or (op_mulS.or op_rep)
theorem op_divA : OpR X (binaryOp .FloorDiv) rDivA := op_fdivW
theorem op_modA : OpR X (binaryOp .Mod) rModA := op_mod
theorem op_powA : OpR X (binaryOp .Pow) rPowA := op_pow
theorem op_eqA (hu : X.A.units + 64 < cLine) : OpR X (compareOp .Eq) (rEqA X.K) := op_eq.or ((op_eqG hu).or (op_eqD hu))
theorem op_neA (hu : X.A.units + 64 < cLine) : OpR X (compareOp .NotEq) (rNeA X.K) := op_ne.or ((op_neG hu).or (op_neD hu))
theorem op_ltA : OpR X (compareOp .Lt) rLtA := op_lt.or op_lt_str
theorem op_leA : OpR X (compareOp .LtE) rLeA := op_le.or op_le_str
theorem op_gtA : OpR X (compareOp .Gt) rGtA := op_gt.or op_gt_str
theorem op_geA : OpR X (compareOp .GtE) rGeA := op_ge.or op_ge_str
theorem op_isA : OpR X (compareOp .Is) rIsA := op_isN.or (op_isBl.or op_is_ref)
theorem op_notA : OpR X (compareOp .IsNot) rNotA := op_notN.or (op_notBl.or op_isnot_ref)
theorem op_inA : OpR X (compareOp .In) (rInA X.K) := op_in_sign.or (op_in_seq.or op_in_str)
theorem op_ninA : OpR X (compareOp .NotIn) (rNinA X.K) := op_notIn_sign.or (op_notIn_seq.or op_notIn_str)
theorem sl_A : SlR X (rSlA X.K) := sl_str.or (sl_list.or sl_tupA)
theorem call_lenA : CallR X (.builtin "len") (rLenA X.K) := call_len.or call_lenD
theorem call_maxA (hc : X.calm = true) : CallR X (.builtin "max") (rMaxA X.K) := (call_max2 hc).or (cr_max hc)
theorem call_minA (hc : X.calm = true) : CallR X (.builtin "min") (rMinA X.K) := (call_min2 hc).or (cr_min hc)
theorem PI.or {tg iter : Expr} {w1 w2 : TI} (h1 : PI X tg iter w1) (h2 : PI X tg iter w2) : PI X tg iter (fun σ H R => w1 σ H R ∨ w2 σ H R) :=
  ⟨fun pins s σ H R I h => h.elim (h1.run pins s σ H R I) (h2.run pins s σ H R I)⟩
theorem pi_any {tg e : Expr} {te : TE} (he : PE X e te) : PI X tg e (iAny X.K te) := PI.or (pi_list he) (PI.or (pi_tup he) (pi_str he))
theorem pe_gint {x : Str} {i : Int} {pos : Pos} (hg : Gl X x) (hm : ∃ t, X.mg x = some (.int i t)) (hd : (x == ("__debug__" : Str)) = false := by decide) : PE X (.Name x pos) (tC (.int i)) :=
  let ⟨t, h⟩ := hm
  pe_glob hg h ⟨t, rfl⟩ hd
theorem pe_gstr {x : Str} {i : Str} {pos : Pos} (hg : Gl X x) (hm : ∃ t, X.mg x = some (.str i t)) (hd : (x == ("__debug__" : Str)) = false := by decide) : PE X (.Name x pos) (tC (.str i)) :=
  let ⟨t, h⟩ := hm
  pe_glob hg h ⟨t, rfl⟩ hd
end

/-! ### a def behind the top, its promise -/
structure Fok (P : Program) (w : World) (K : PySem.W.Frag) (mg : Str → Option Value) (base : Heap) (CX : CXT) (k : Nat) (x : Str) (ps : List Str) (sp : Sp) : Prop where
  ex : ∃ fd, FnOk P w K mg base CX k (He.ga K x) fd ps sp ∧ Binds K fd ps []
  hm : mg x = some (.ref (He.ga K x))
  kp : PySem.W.keepIn K (.ref (He.ga K x)) = true
theorem pe_callF {X : Cx} {CX : CXT} {k : Nat} {x : Str} {ps : List Str} {sp : Sp} {E : XK} {e : Expr} {es : List Expr} {t : TA} {p pos : Pos} (F : Fok X.prog X.w X.K X.mg X.base CX k x ps sp) (hr : Room k X.A) (hg : Gl X x) (hx : Passes CX X E)
    (ha : PA X (e :: es) t) (hdb : (x == ("__debug__" : Str)) = false := by decide) (he : starEach (e :: es) X.env = (false, eval e X.env) :: starEach es X.env := by rfl) (hpl : (backTo pos (starEach es X.env)).any (·.1) = false := by rfl) :
    PE X (.Call (.Name x p) (e :: es) [] pos) (tCall sp [] E t) :=
  let ⟨_, h1, h2⟩ := F.ex
  pe_call h1 hr hg F.hm F.kp h2 .nil hx ha hdb he hpl

/-! ### heaps -/
/-- all but the object at p is as it was -/
def But (p : Addr) (H H' : Hp) : Prop := ∀ a o, H a = some o → a ≠ p → H' a = some o
theorem Ex.but {p : Addr} {H H' : Hp} (e : Ex H H') : But p H H' := fun a o h _ => e a o h
theorem But.refl {p : Addr} {H : Hp} : But p H H := fun _ _ h _ => h
theorem But.trans {p : Addr} {H H1 H2 : Hp} (a : But p H H1) (b : But p H1 H2) : But p H H2 := fun x o h n => b x o (a x o h n) n
theorem But.ex {p : Addr} {H H1 H2 : Hp} (a : But p H H1) (b : Ex H1 H2) : But p H H2 := fun x o h n => b x o (a x o h n)
theorem But.new {p q : Addr} {H H1 : Hp} {o : HO} (a : But p H H1) (h : H1 q = none) : But p H (upd H1 q o) := a.ex (Ex.new h)
theorem But.set {p : Addr} {H H1 : Hp} {o : HO} (a : But p H H1) : But p H (upd H1 p o) := fun x o h n => by
  rw [upd_ne n]
  exact a x o h n
theorem look_new {H : Hp} {a b : Addr} {o u : HO} (h : H a = some o) (hn : H b = none) : upd H b u a = some o := Ex.new hn _ _ h
theorem look_mut {H : Hp} {a b : Addr} {o u : HO} (h : H a = some o) (hn : a ≠ b) : upd H b u a = some o := by
  rw [upd_ne hn]
  exact h
theorem look_ex {H H' : Hp} {a : Addr} {o : HO} (s : Ex H H') (h : H a = some o) : H' a = some o := s _ _ h
theorem look_but {H H' : Hp} {a p : Addr} {o : HO} (s : But p H H') (h : H a = some o) (n : a ≠ p) : H' a = some o := s _ _ h n
theorem ne_back {H : Hp} {a b : Addr} {o : HO} (h : H a = some o) (h' : H b = none) : b ≠ a := fun e => ne_of_none h h' e.symm

theorem len_ok {n : Nat} (h : n ≤ 16777216) : n ≤ sizeLine := by
  rw [sizeLine_eq]
  exact h
/-! ### steps -/
section
variable {K : PySem.W.Frag} {σ : L2.St} {H : Hp} {Q : VK} {ta tb : TE} {x y v : V}
theorem s_var {i : Nat} (h : σ[i]? = some (some v)) (q : Q v H) : tVar i σ H Q := ⟨v, h, q⟩
theorem s_c (q : Q v H) : tC v σ H Q := q
theorem s_op {r : R2} (h : ta σ H fun x H1 => tb σ H1 fun y H2 => r x y H2 Q) : tOp r ta tb σ H Q := h
theorem s_un {r : V → Hp → VK → Prop} (h : ta σ H fun x H1 => r x H1 Q) : tUn r ta σ H Q := h
theorem s_rU {g : Int → V} {i : Int} (q : Q (g i) H) : rU g (.int i) H Q := ⟨i, rfl, q⟩
theorem s_cb {r : List V → Hp → VK → Prop} {t : TA} (h : t σ H fun vs H1 => r vs H1 Q) : tCB r t σ H Q := h
theorem s_call {sp : Sp} {E : XK} {t : TA} (h : t σ H fun vs H1 => sp vs H1 Q E) : tCall sp [] E t σ H Q := by
  show t σ H fun vs H1 => sp (vs ++ []) H1 Q E
  simp only [List.append_nil]
  exact h
theorem s_if {t : TT} (h : t σ H fun c H1 => if c = true then ta σ H1 Q else tb σ H1 Q) : tIf t ta tb σ H Q := h
theorem s_andV (h : ta σ H fun x H1 => ∃ c, x = .bl c ∧ if c = true then tb σ H1 Q else Q (.bl false) H1) : tAndV ta tb σ H Q := h
theorem s_orV (h : ta σ H fun x H1 => ∃ c, x = .bl c ∧ if c = true then Q (.bl true) H1 else tb σ H1 Q) : tOrV ta tb σ H Q := h
theorem s_notV (h : ta σ H fun x H1 => ∃ c, x = .bl c ∧ Q (.bl (!c)) H1) : tNotV ta σ H Q := h
theorem s_bl {c : Bool} {R : Bool → Prop} (h : R c) : ∃ d, V.bl c = .bl d ∧ R d := ⟨c, rfl, h⟩
theorem s_chain {r r' : R2} {tc : TE} (h : ta σ H fun x H1 => tb σ H1 fun y H2 => r x y H2 fun z H3 => ∃ k, z = .bl k ∧ (if k = true then tc σ H3 fun w' H4 => r' y w' H4 Q else Q (.bl false) H3)) : tChain r r' ta tb tc σ H Q := h
theorem s_lst {t : TA} (h : t σ H fun xs H1 => xs.length ≤ sizeLine ∧ ∀ p, H1 p = none → Q (.ref p) (upd H1 p (.lst xs))) : tLst t σ H Q := h
theorem s_tup {t : TA} (h : t σ H fun xs H1 => xs.length ≤ sizeLine ∧ ∀ p, H1 p = none → Q (.ref p) (upd H1 p (.tup xs))) : tTup t σ H Q := h
theorem s_sl {r : V → Option Int → Option Int → Hp → VK → Prop} {tl th : TO} (h : ta σ H fun x H1 => tl σ H1 fun l H2 => th σ H2 fun u H3 => r x l u H3 Q) : tSl r ta tl th σ H Q := h
theorem s_m0 {r : V → List V → Hp → VK → Prop} {z : Str} (h : r (.str z) [] H Q) : (fun (x : V) H1 => (∃ a, x = .str a) ∧ r x [] H1 Q) (.str z) H := ⟨⟨z, rfl⟩, h⟩
section
variable {R : Bool → Hp → Prop} {t u : TT}
theorem s_test (h : ta σ H fun x H' => ∃ k, x = .bl k ∧ R k H') : tTest ta σ H R := h
theorem s_B (h : ta σ H fun x H' => ∃ k, x = .bl k ∧ R k H') : tB ta σ H R := h
theorem s_and (h : t σ H fun c H1 => if c = true then u σ H1 R else R false H1) : tAnd t u σ H R := h
theorem s_or (h : t σ H fun c H1 => if c = true then R true H1 else u σ H1 R) : tOr t u σ H R := h
theorem s_not (h : t σ H fun c H1 => R (!c) H1) : tNot t σ H R := h
theorem s_yes (h : R true H) : tYes σ H R := h
end
section
variable {R : List V → Hp → Prop} {t : TA}
theorem s_nil (h : R [] H) : tNil σ H R := h
theorem s_cons (h : ta σ H fun x H1 => t σ H1 fun xs H2 => R (x :: xs) H2) : tCons ta t σ H R := h
end
section
variable {R : Option Int → Hp → Prop}
theorem s_nopart (h : R none H) : tNoPart σ H R := h
theorem s_part (h : ta σ H fun x H1 => ∃ i, x = .int i ∧ R (some i) H1) : tPart ta σ H R := h
theorem s_int {i : Int} {R : Int → Prop} (h : R i) : ∃ j, V.int i = .int j ∧ R j := ⟨i, rfl, h⟩
end
theorem s_itet {b : Bool} {A B : Prop} (e : b = true) (h : A) : if b = true then A else B := by
  rw [if_pos e]
  exact h
theorem s_itef {b : Bool} {A B : Prop} (e : b = false) (h : B) : if b = true then A else B := by
  rw [e]
  exact iteF h
/-- what a part gives, whatever follows -/
theorem via {te : TE} (R : V → Hp → Prop) (h : ∀ F : VK, (∀ v H', R v H' → F v H') → te σ H F) (q : ∀ v H', R v H' → Q v H') : te σ H Q := h Q q
theorem ite_via {c : Prop} [Decidable c] {t1 t2 : TE} (R : V → Hp → Prop) (h1 : c → ∀ F : VK, (∀ v H', R v H' → F v H') → t1 σ H F) (h2 : ¬ c → ∀ F : VK, (∀ v H', R v H' → F v H') → t2 σ H F) (q : ∀ v H', R v H' → Q v H') :
    if c then t1 σ H Q else t2 σ H Q := ite2 (fun h => h1 h Q q) (fun h => h2 h Q q)
/-! operators by kinds -/
theorem s_addI {i j : Int} (q : Q (.int (i + j)) H) : rAddA K (.int i) (.int j) H Q := .inl ⟨i, j, rfl, rfl, q⟩
theorem s_addS {i j : Str} (h : i.length + j.length ≤ sizeLine) (q : Q (.str (i ++ j)) H) : rAddA K (.str i) (.str j) H Q := .inr (.inl ⟨i, j, rfl, rfl, h, q⟩)
theorem s_addL {a b : Addr} {xs ys : List V} (ha : H a = some (.lst xs)) (hb : H b = some (.lst ys)) (h : xs.length + ys.length ≤ sizeLine) (q : ∀ p, H p = none → Q (.ref p) (upd H p (.lst (xs ++ ys)))) : rAddA K (.ref a) (.ref b) H Q :=
  .inr (.inr (.inl ⟨a, b, xs, ys, rfl, rfl, ha, hb, h, q⟩))
theorem s_addT {a b : Addr} {xs ys : List V} (ha : H a = some (.tup xs)) (hb : H b = some (.tup ys)) (hx : xs ≠ []) (hy : ys ≠ []) (h : xs.length + ys.length ≤ sizeLine) (q : ∀ p, H p = none → Q (.ref p) (upd H p (.tup (xs ++ ys)))) : rAddA K (.ref a) (.ref b) H Q :=
  .inr (.inr (.inr ⟨a, b, xs, ys, rfl, rfl, SqT.of ha, SqT.of hb, h, fun e => absurd e hx, fun _ e => absurd e hy, fun _ _ => q⟩))
theorem s_subI {i j : Int} (q : Q (.int (i - j)) H) : rSubA (.int i) (.int j) H Q := ⟨i, j, rfl, rfl, q⟩
theorem s_mulI {i j : Int} (h : CMulW i j) (q : Q (.int (i * j)) H) : rMulA (.int i) (.int j) H Q := .inl ⟨i, j, rfl, rfl, h, q⟩
theorem s_mulS {z : Str} {n : Int} (h : MulOk z n) (q : Q (.str (Txt.mul z n)) H) : rMulA (.str z) (.int n) H Q := .inr (.inl ⟨z, n, rfl, rfl, h, q⟩)
theorem s_divI {i j : Int} (h : CDivW i j) (q : Q (.int (i / j)) H) : rDivA (.int i) (.int j) H Q := ⟨i, j, rfl, rfl, h, q⟩
theorem s_modI {i j : Int} (h : 0 < j) (q : Q (.int (i % j)) H) : rModA (.int i) (.int j) H Q := ⟨i, j, rfl, rfl, h, q⟩
theorem s_powI {i j : Int} (h : CPow i j) (q : Q (.int (i ^ j.toNat)) H) : rPowA (.int i) (.int j) H Q := ⟨i, j, rfl, rfl, h, q⟩
theorem s_eqS (h : scal x y = true) (q : Q (.bl (decide (x = y))) H) : rEqA K x y H Q := .inl ⟨h, q⟩
theorem s_neS (h : scal x y = true) (q : Q (.bl (!decide (x = y))) H) : rNeA K x y H Q := .inl ⟨h, q⟩
theorem s_eqD {d e : PyData} (hd : Dp K H x d) (he : Dp K H y e) (sd : SeqAt.shaped d = true) (se : SeqAt.shaped e = true) (q : Q (.bl (PyData.eqv d e)) H) : rEqA K x y H Q := .inr (.inr ⟨d, e, hd, he, sd, se, q⟩)
theorem s_neD {d e : PyData} (hd : Dp K H x d) (he : Dp K H y e) (sd : SeqAt.shaped d = true) (se : SeqAt.shaped e = true) (q : Q (.bl (!PyData.eqv d e)) H) : rNeA K x y H Q := .inr (.inr ⟨d, e, hd, he, sd, se, q⟩)
theorem s_eqG {b : Bool} (h : EqR K H (EqI K H 60) x y b) (q : Q (.bl b) H) : rEqA K x y H Q := .inr (.inl ⟨b, h, q⟩)
theorem s_neG {b : Bool} (h : EqR K H (EqI K H 60) x y b) (q : Q (.bl (!b)) H) : rNeA K x y H Q := .inr (.inl ⟨b, h, q⟩)
/-- a list against the empty one -/
theorem eq_nil {K : PySem.W.Frag} {H : Hp} {a b : Addr} {xs : List V} {E : V → V → Bool → Prop} (ha : H a = some (.lst xs)) (hb : H b = some (.lst [])) : EqR K H E (.ref a) (.ref b) xs.isEmpty := by
  cases xs with
  | nil => exact .lst (e := []) (SqL.of ha) (SqL.of hb) rfl .nil
  | cons x xs => exact .ll (SqL.of ha) (SqL.of hb) (by simp)
theorem s_eqNil {a b : Addr} {xs : List V} (ha : H a = some (.lst xs)) (hb : H b = some (.lst [])) (q : Q (.bl xs.isEmpty) H) : rEqA K (.ref a) (.ref b) H Q := s_eqG (eq_nil ha hb) q
theorem s_neNil {a b : Addr} {xs : List V} (ha : H a = some (.lst xs)) (hb : H b = some (.lst [])) (q : Q (.bl (!xs.isEmpty)) H) : rNeA K (.ref a) (.ref b) H Q := s_neG (eq_nil ha hb) q
theorem s_ltI {i j : Int} (q : Q (.bl (decide (i < j))) H) : rLtA (.int i) (.int j) H Q := .inl ⟨i, j, rfl, rfl, q⟩
theorem s_leI {i j : Int} (q : Q (.bl (decide (i ≤ j))) H) : rLeA (.int i) (.int j) H Q := .inl ⟨i, j, rfl, rfl, q⟩
theorem s_gtI {i j : Int} (q : Q (.bl (decide (j < i))) H) : rGtA (.int i) (.int j) H Q := .inl ⟨i, j, rfl, rfl, q⟩
theorem s_geI {i j : Int} (q : Q (.bl (decide (j ≤ i))) H) : rGeA (.int i) (.int j) H Q := .inl ⟨i, j, rfl, rfl, q⟩
theorem s_isN (q : Q (.bl (decide (x = .non))) H) : rIsA x .non H Q := .inl ⟨rfl, q⟩
theorem s_notN (q : Q (.bl (!decide (x = .non))) H) : rNotA x .non H Q := .inl ⟨rfl, q⟩
theorem s_isB {a b : Bool} (q : Q (.bl (decide (a = b))) H) : rIsA (.bl a) (.bl b) H Q := .inr (.inl ⟨a, b, rfl, rfl, q⟩)
theorem s_notB {a b : Bool} (q : Q (.bl (!decide (a = b))) H) : rNotA (.bl a) (.bl b) H Q := .inr (.inl ⟨a, b, rfl, rfl, q⟩)
theorem s_in1 {c : Nat} {z : Str} (q : Q (.bl (decide (c ∈ z.cps.toList))) H) : rInA K (.str ⟨#[c]⟩) (.str z) H Q := .inl ⟨c, z, rfl, rfl, q⟩
theorem s_nin1 {c : Nat} {z : Str} (q : Q (.bl (!decide (c ∈ z.cps.toList))) H) : rNinA K (.str ⟨#[c]⟩) (.str z) H Q := .inl ⟨c, z, rfl, rfl, q⟩
theorem s_ixL {p : Addr} {xs : List V} {i : Int} (h : H p = some (.lst xs)) (ha : atI xs i = some v) (q : Q v H) : rIx K (.ref p) (.int i) H Q := .inl ⟨p, xs, i, v, rfl, rfl, SqL.of h, ha, q⟩
theorem s_ixLK {p : Addr} {xs : List V} {i : Int} (h : SqL K H p xs) (ha : atI xs i = some v) (q : Q v H) : rIx K (.ref p) (.int i) H Q := .inl ⟨p, xs, i, v, rfl, rfl, h, ha, q⟩
theorem s_ixT {p : Addr} {xs : List V} {i : Int} (h : H p = some (.tup xs)) (ha : atI xs i = some v) (q : Q v H) : rIx K (.ref p) (.int i) H Q := .inr (.inl ⟨p, xs, i, v, rfl, rfl, SqT.of h, ha, q⟩)
theorem s_ixS {z : Str} {i : Int} {c : Nat} (h : z.length ≤ sizeLine) (ha : atI z.cps.toList i = some c) (q : Q (.str ⟨#[c]⟩) H) : rIx K (.str z) (.int i) H Q := .inr (.inr ⟨z, i, c, rfl, rfl, h, ha, q⟩)
theorem s_slS {z : Str} {lo hi : Option Int} (h : z.length ≤ sizeLine) (q : Q (.str (cutS z lo hi)) H) : rSlA K (.str z) lo hi H Q := .inl ⟨z, rfl, h, q⟩
theorem s_lenS {z : Str} (h : z.length ≤ sizeLine) (q : Q (.int z.length) H) : rLenA K [.str z] H Q := .inl ⟨_, _, rfl, ⟨h, rfl⟩, q⟩
theorem s_lenL {p : Addr} {xs : List V} (h : H p = some (.lst xs)) (q : Q (.int xs.length) H) : rLenA K [.ref p] H Q := .inl ⟨_, _, rfl, .inl ⟨xs, SqL.of h, rfl⟩, q⟩
theorem s_lenLK {p : Addr} {xs : List V} (h : SqL K H p xs) (q : Q (.int xs.length) H) : rLenA K [.ref p] H Q := .inl ⟨_, _, rfl, .inl ⟨xs, h, rfl⟩, q⟩
theorem s_lenT {p : Addr} {xs : List V} (h : H p = some (.tup xs)) (q : Q (.int xs.length) H) : rLenA K [.ref p] H Q := .inl ⟨_, _, rfl, .inr ⟨xs, SqT.of h, rfl⟩, q⟩
theorem s_max2 {i j : Int} (q : Q (.int (if j > i then j else i)) H) : rMaxA K [.int i, .int j] H Q := .inl ⟨i, j, rfl, q⟩
theorem s_min2 {i j : Int} (q : Q (.int (if j < i then j else i)) H) : rMinA K [.int i, .int j] H Q := .inl ⟨i, j, rfl, q⟩
/-! statements -/
section
variable {D : Ends} {t u : TS} {c : TT} {g : TG}
theorem s_seq (h : t { D with nx := u D } σ H) : tSeq t u D σ H := h
theorem s_cut (Mid : L2.St → Hp → Prop) (h : t { D with nx := Mid } σ H) (k : ∀ σ' H', Mid σ' H' → u D σ' H') : tCut t u D σ H := ⟨Mid, h, k⟩
theorem s_ifS (h : c σ H fun b H1 => if b = true then t D σ H1 else u D σ H1) : tIfS c t u D σ H := h
theorem s_ret (h : ta σ H D.rt) : tRet ta D σ H := h
theorem s_retN (h : D.rt .non H) : tRetN D σ H := h
theorem s_next (h : D.nx σ H) : tNext D σ H := h
theorem s_drop (h : ta σ H fun _ H1 => D.nx σ H1) : tDrop ta D σ H := h
theorem s_asg (h : ta σ H fun x H1 => g x σ H1 D.nx) : tAsg ta g D σ H := h
theorem s_gTup {n : Nat} {gs : TGs} {a : Addr} {xs : List V} {R : L2.St → Hp → Prop} (h : H a = some (.tup xs)) (hn : xs.length = n) (q : gs xs σ H R) : gTup K n gs (.ref a) σ H R := ⟨a, xs, rfl, SqT.of h, hn, q⟩
theorem s_gCons {gs : TGs} {vs : List V} {R : L2.St → Hp → Prop} (q : g v σ H fun σ' H' => gs vs σ' H' R) : gCons g gs (v :: vs) σ H R := ⟨v, vs, rfl, q⟩
theorem s_gNil {R : L2.St → Hp → Prop} (q : R σ H) : gNil [] σ H R := ⟨rfl, q⟩
theorem s_gSub {to ti : TE} {st : TSet} {R : L2.St → Hp → Prop} (q : to σ H fun o H1 => ti σ H1 fun i H2 => st o i v H2 fun H3 => R σ H3) : gSub to ti st v σ H R := q
theorem s_setL {p : Addr} {k : Int} {xs : List V} {j : Nat} {R : Hp → Prop} (h : H p = some (.lst xs)) (hj : ixN xs.length k = some j) (q : R (upd H p (.lst (xs.set j v)))) : rSetL (.ref p) (.int k) v H R := ⟨p, xs, k, j, rfl, rfl, h, hj, q⟩
theorem s_gName {i : Nat} {R : L2.St → Hp → Prop} (h : R (σ.set i (some v)) H) : gName i v σ H R := h
end
end
/-- an item of a menu by a draw -/
theorem at_mem {α : Type} {xs : List α} {d : Int} (h0 : 0 ≤ d) (h1 : d < (xs.length : Int)) : ∃ v, v ∈ xs ∧ atI xs d = some v := by
  have hj : d.toNat < xs.length := by omega
  refine ⟨xs[d.toNat], List.getElem_mem hj, ?_⟩
  have e : ∀ (z : Int) (j : Nat) (v : α), z = (j : Int) → xs[j]? = some v → atI xs z = some v := fun z j v e h => by
    rw [e]
    exact atI_nat h
  exact e d d.toNat _ (by omega) (by simp [hj])
theorem s_menuL {K : PySem.W.Frag} {H : Hp} {Q : VK} {p : Addr} {xs : List V} {i : Int} (h : H p = some (.lst xs)) (h0 : 0 ≤ i) (h1 : i < (xs.length : Int)) (q : ∀ v, v ∈ xs → Q v H) : rIx K (.ref p) (.int i) H Q := by
  obtain ⟨v, hv, e⟩ := at_mem h0 h1
  exact s_ixL h e (q v hv)
theorem s_menuS {K : PySem.W.Frag} {H : Hp} {Q : VK} {z : Str} {i : Int} (h : z.length ≤ sizeLine) (h0 : 0 ≤ i) (h1 : i < (z.cps.toList.length : Int)) (q : ∀ c, c ∈ z.cps.toList → Q (.str ⟨#[c]⟩) H) : rIx K (.str z) (.int i) H Q := by
  obtain ⟨v, hv, e⟩ := at_mem h0 h1
  exact s_ixS h e (q v hv)
end Z

/-! ### facts of one's own in the hook -/
namespace Z
open PySem PySem.Spec PyProof.Rows L2
def eqB {α : Type} [DecidableEq α] (a b : α) : Bool := decide (a = b)
theorem eqB_ok {α : Type} [DecidableEq α] {a b : α} (h : eqB a b = true) : a = b := of_decide_eq_true h
/-- a class over ValueError, by whatever classes of the module -/
def clsB (K : PySem.W.Frag) (C : Addr) : Bool := match K.lookup C with
  | some ⟨.type "type", _, .cls cd, sl⟩ => (match cd.mro, sl.toList with
    | .ref C' :: bm, [_, _, _, _, some (.builtin n), _] => C' == C && (n == "ValueError.__new__" && (!cd.hasDel && (cd.hasDict && PySem.HandSPX.refsVE bm)))
    | _, _ => false)
  | _ => false
theorem clsB_ok {K : PySem.W.Frag} {C : Addr} (q : clsB K C = true) : ∃ nm q N bs bm sn sub ab col dd k0 k1 k2 k3 k5, K.lookup C = some (excClassObj nm q C N bs bm true sn sub ab col dd k0 k1 k2 k3 k5 "ValueError.__new__") ∧ PySem.HandSPX.refsVE bm = true := by
  unfold clsB at q
  split at q
  · rename_i dd cd sl ho
    split at q
    · rename_i C' bm k0 k1 k2 k3 n k5 hm hs
      simp only [Bool.and_eq_true, beq_iff_eq, Bool.not_eq_true'] at q
      obtain ⟨rfl, rfl, hdel, hdict, ht⟩ := q
      obtain ⟨nm, bs, mro, ns, qn, hd, sn, sub, ab, col, del⟩ := cd
      dsimp only at hm hdel hdict
      subst hm hdel hdict
      have hsl : sl = #[k0, k1, k2, k3, some (.builtin "ValueError.__new__"), k5] := by
        obtain ⟨l⟩ := sl
        simp only at hs
        rw [hs]
      subst hsl
      exact ⟨nm, qn, ns, bs, bm, sn, sub, ab, col, dd, k0, k1, k2, k3, k5, ho, ht⟩
    · cases q
  · cases q
abbrev FnS : Type := Option (Str × Str × Arguments × FuncBody × Scope × Addr × List Str × Addr)
/-- a function that closes over cells: the cells' names -/
def fnS (K : PySem.W.Frag) (p : Str × Option Str) : FnS := match K.lookup (He.fAd K p) with
  | some ⟨_, _, .func fd, _⟩ => some (fd.name, fd.qualname, fd.params, fd.body, fd.scope, fd.globals, fd.closure.map (·.1), fd.builtins)
  | _ => none
def initC (P0 : Program) (K : PySem.W.Frag) (C fI : Addr) : Bool := match K.lookup fI with
  | some ⟨_, _, .func fd, _⟩ => (match fd.code, fd.closure, fd.defaults, fd.kwdefaults with
    | .ref cda, [(_, cc)], .none, .none => PySem.W.codeIn K (.ref cda) fd.qualname && ((match K.lookup cc with
      | some ⟨_, _, .cell (some (.ref D)), _⟩ => D == C
      | _ => false) && (match K.lookup cda with
      | some ⟨_, _, .fields vs, _⟩ => (match (vs : Array Value)[2]? with
        | some (Value.str file _) => (P0.main.file : Str) == file
        | _ => false)
      | _ => false))
    | _, _, _, _ => false)
  | _ => false
def initB (P0 : Program) (K : PySem.W.Frag) (x : Str) : Bool :=
  eqB (PySem.W.findIn K (.ref (He.ga K x)) "__init__") (some (some (.ref (He.ma K (He.ga K x) "__init__")))) && (eqB (PySem.W.typeIn K (.ref (He.ma K (He.ga K x) "__init__"))) (some (.type "function")) &&
  ((PySem.W.keepIn K (.ref (He.ga K x)) && (eqB (PySem.W.subIn K (.ref (He.ga K x)) (.type "BaseException")) (some true) && (eqB (PySem.W.subIn K (.ref (He.ga K x)) (.type "ValueError")) (some true) && (eqB (PySem.W.typeIn K (.ref (He.ga K x))) (some (.type "type")) &&
    (eqB (PySem.W.mroIn K (He.ga K x) (.ref (He.ga K x))) (some true) && (eqB (PySem.W.nsIn K cStatics "thirdparty.any") (some none) && eqB (PySem.W.ks_superIn K (He.ga K x) (He.ga K x) "__init__") (some (some (.builtin "ValueError.__init__"))))))))) && initC P0 K (He.ga K x) (He.ma K (He.ga K x) "__init__")))
theorem initB_ok {P0 : Program} {K : PySem.W.Frag} {x : Str} (c : initB P0 K x = true) :
    PySem.W.findIn K (.ref (He.ga K x)) "__init__" = some (some (.ref (He.ma K (He.ga K x) "__init__"))) ∧ PySem.W.typeIn K (.ref (He.ma K (He.ga K x) "__init__")) = some (.type "function") ∧ True ∧ True ∧ True ∧
    (PySem.W.keepIn K (.ref (He.ga K x)) = true ∧ PySem.W.subIn K (.ref (He.ga K x)) (.type "BaseException") = some true ∧ PySem.W.subIn K (.ref (He.ga K x)) (.type "ValueError") = some true ∧ PySem.W.typeIn K (.ref (He.ga K x)) = some (.type "type") ∧
      PySem.W.mroIn K (He.ga K x) (.ref (He.ga K x)) = some true ∧ PySem.W.nsIn K cStatics "thirdparty.any" = some none ∧ PySem.W.ks_superIn K (He.ga K x) (He.ga K x) "__init__" = some (some (.builtin "ValueError.__init__"))) ∧
    ∀ (nm qu : Str) (ps : Arguments) (body : List Stmt) (sc : Scope), fnS K (x, some "__init__") = some (nm, qu, ps, FuncBody.stmts body, sc, mainGlobals, [("__class__" : Str)], builtinsNs) →
      ∃ oc od osl doc pm an cda ct cc, K.lookup (He.ma K (He.ga K x) "__init__") = some ⟨oc, od, .func (PySem.W.ksFn nm qu ps body sc .none .none doc pm an (.ref cda) ct cc), osl⟩ ∧ PySem.W.codeIn K (.ref cda) qu = true ∧
        (∃ cl cld csl, K.lookup cc = some ⟨cl, cld, .cell (some (.ref (He.ga K x))), csl⟩) ∧ (∃ ccl cdd vs ccs file tf, K.lookup cda = some ⟨ccl, cdd, .fields vs, ccs⟩ ∧ vs[2]? = some (.str file tf) ∧ ((P0.main.file : Str) == file) = true) := by
  obtain ⟨c1, c⟩ := He.ba c
  obtain ⟨c2, c⟩ := He.ba c
  obtain ⟨c3, c4⟩ := He.ba c
  obtain ⟨k1, c3⟩ := He.ba c3
  obtain ⟨k2, c3⟩ := He.ba c3
  obtain ⟨k3, c3⟩ := He.ba c3
  obtain ⟨k4, c3⟩ := He.ba c3
  obtain ⟨k5, c3⟩ := He.ba c3
  obtain ⟨k6, k7⟩ := He.ba c3
  refine ⟨eqB_ok c1, eqB_ok c2, trivial, trivial, trivial, ⟨k1, eqB_ok k2, eqB_ok k3, eqB_ok k4, eqB_ok k5, eqB_ok k6, eqB_ok k7⟩, fun nm qu ps body sc e => ?_⟩
  unfold initC at c4
  unfold fnS He.fAd at e
  dsimp only at e
  cases q : K.lookup (He.ma K (He.ga K x) "__init__") with
  | none =>
    rw [q] at c4
    cases c4
  | some o =>
    obtain ⟨oc, od, dt, osl⟩ := o
    rw [q] at c4 e
    cases dt with
    | func fd =>
      obtain ⟨n1, n2, n3, n4, n5, n6, n7, n8, n9, n10, n11, n12, n13, n14, n15⟩ := fd
      have e2 : (some (n1, n2, n3, n4, n5, n6, n7.map (·.1), n15) : FnS) = some (nm, qu, ps, FuncBody.stmts body, sc, mainGlobals, [("__class__" : Str)], builtinsNs) := e
      simp only [Option.some.injEq, Prod.mk.injEq] at e2
      obtain ⟨h1, h2, h3, h4, h5, h6, h7, h8⟩ := e2
      subst h1 h2 h3 h4 h5 h6 h8
      dsimp only at c4
      split at c4
      · rename_i cda cn cc
        obtain ⟨m1, c4⟩ := He.ba c4
        obtain ⟨m2, m3⟩ := He.ba c4
        have hcn : cn = "__class__" := by simpa using h7
        subst hcn
        refine ⟨oc, od, osl, n10, n11, n12, cda, n14, cc, rfl, m1, ?_, ?_⟩
        · split at m2
          · rename_i cl cld D csl hc
            have hD : D = He.ga K x := by simpa using m2
            rw [hD] at hc
            exact ⟨_, _, _, hc⟩
          · cases m2
        · split at m3
          · rename_i ccl cdd vs ccs hc
            split at m3
            · rename_i file tf hv
              exact ⟨_, _, _, _, _, _, hc, hv, m3⟩
            · cases m3
          · cases m3
      · cases c4
    | _ => cases c4
/-! ### getters of properties -/
/-- the getter behind a property -/
def prA (K : PySem.W.Frag) (p : Str × Option Str) : Addr := match PySem.W.recIn K (He.fAd K p) "property" with
  | some (.ref g :: _) => g
  | _ => 0
def fnWP (K : PySem.W.Frag) (p : Str × Option Str) : He.FnW := match K.lookup (prA K p) with
  | some ⟨_, _, .func fd, _⟩ => some (fd.name, fd.qualname, fd.params, fd.body, fd.scope, fd.globals, fd.closure, fd.builtins)
  | _ => none
def okP (K : PySem.W.Frag) (d : He.DefD) : Bool := PySem.W.keepIn K (.ref (prA K d.at_)) && (match K.lookup (prA K d.at_) with
  | some ⟨_, _, .func fd, _⟩ => PySem.W.codeIn K fd.code d.qual && (He.dflB K fd.defaults (d.dvs K) && He.kwdB K fd.kwdefaults (d.kws K))
  | _ => false)
theorem funDP {K : PySem.W.Frag} {d : He.DefD} (e : fnWP K d.at_ = d.val) (c : okP K d = true) : ∃ fd, FunD K d.name d.qual d.params d.body d.scope (d.dvs K) (d.kws K) (prA K d.at_) fd := by
  obtain ⟨kp, c2⟩ := He.ba c
  unfold fnWP at e
  cases q : K.lookup (prA K d.at_) with
  | none =>
    rw [q] at c2
    cases c2
  | some o =>
    obtain ⟨oc, od, dt, osl⟩ := o
    rw [q] at c2 e
    cases dt with
    | func fd =>
      obtain ⟨n1, n2, n3, n4, n5, n6, n7, n8, n9, n10, n11, n12, n13, n14, n15⟩ := fd
      have e2 : (some (n1, n2, n3, n4, n5, n6, n7, n15) : He.FnW) = some (d.name, d.qual, d.params, .stmts d.body, d.scope, mainGlobals, [], builtinsNs) := e
      simp only [Option.some.injEq, Prod.mk.injEq] at e2
      obtain ⟨h1, h2, h3, h4, h5, h6, h7, h8⟩ := e2
      subst h1 h2 h3 h4 h5 h6 h7 h8
      have c3 : (PySem.W.codeIn K n13 d.qual && (He.dflB K n8 (d.dvs K) && He.kwdB K n9 (d.kws K))) = true := c2
      obtain ⟨k1, k2⟩ := He.ba c3
      obtain ⟨k3, k4⟩ := He.ba k2
      exact ⟨_, ⟨oc, od, n8, n9, n10, n11, n12, n13, n14, osl, rfl, q, k1, He.dflB_ok k3, He.kwdB_ok k4⟩, kp⟩
    | _ => cases c2
/-- a property of an own class, as far as the head tells -/
def propB (K : PySem.W.Frag) (C f : Str) : Bool := eqB (PySem.W.findIn K (.ref (He.ga K C)) f) (some (some (.ref (He.ma K (He.ga K C) f)))) && (eqB (PySem.W.specialIn K (.ref (He.ma K (He.ga K C) f)) "__get__") (some (some (.builtin "property.__get__"))) &&
  (eqB (PySem.W.takesIn K (.ref (He.ma K (He.ga K C) f))) (some true) && (match PySem.W.recIn K (He.ma K (He.ga K C) f) "property" with
    | some (.ref _ :: _) => true
    | _ => false)))
theorem propB_ok {K : PySem.W.Frag} {C f : Str} (h : propB K C f = true) : PropOf K (He.ga K C) f (He.ma K (He.ga K C) f) (prA K (C, some f)) := by
  obtain ⟨c1, h⟩ := He.ba h
  obtain ⟨c2, h⟩ := He.ba h
  obtain ⟨c3, c4⟩ := He.ba h
  refine ⟨eqB_ok c1, eqB_ok c2, eqB_ok c3, ?_⟩
  have e : He.fAd K (C, some f) = He.ma K (He.ga K C) f := rfl
  unfold prA
  rw [e]
  split at c4
  · rename_i g r q
    rw [q]
    exact ⟨r, rfl⟩
  · cases c4
/-! ### the hook -/
abbrev AlX : Type := Bool × (List He.FnW × (List FnS × (List (Option (List (Option (Str × Int)))) × List He.FnW)))
/-- fs: functions that close over cells, with what they must be; cu: facts of one's own; ts: dicts of the module with text keys -/
def obsX (fa : List He.Fa) (fn : List He.DefD) (fs : List ((Str × Option Str) × FnS)) (cu : List (PySem.W.Frag → Bool)) (ts : List He.Tab) (pr : List He.DefD) (K : PySem.W.Frag) : AlX :=
  ((fa.all fun f => f.ok K) && ((fn.all fun d => d.ok K) && ((cu.all fun c => c K) && pr.all fun d => okP K d)), (fn.map fun d => He.fnW K d.at_, (fs.map fun f => fnS K f.1, (ts.map fun t => He.dicW K (t.1 K), pr.map fun d => fnWP K d.at_))))
def valX (fn : List He.DefD) (fs : List ((Str × Option Str) × FnS)) (ts : List He.Tab) (pr : List He.DefD) (w : World) : AlX := (true, (fn.map He.DefD.val, (fs.map (·.2), (ts.map fun t => some (He.keysIn w.params t.2), pr.map He.DefD.val))))
def SaysX (fa : List He.Fa) (fn : List He.DefD) (fs : List ((Str × Option Str) × FnS)) (cu : List (PySem.W.Frag → Bool)) (ts : List He.Tab) (pr : List He.DefD) (w : World) (K : PySem.W.Frag) : Prop := obsX fa fn fs cu ts pr K = valX fn fs ts pr w
def obsXG (n : Nat) (fa : List He.Fa) (fn : List He.DefD) (fs : List ((Str × Option Str) × FnS)) (cu : List (PySem.W.Frag → Bool)) (ts : List He.Tab) (pr : List He.DefD) (g : Addr → Option Obj) : AlX := obsX fa fn fs cu ts pr (He.frG g (cStatics :: He.asD g n))
def hookX (n : Nat) (fa : List He.Fa) (fn : List He.DefD) (fs : List ((Str × Option Str) × FnS)) (cu : List (PySem.W.Frag → Bool)) (ts : List He.Tab) (pr : List He.DefD) : PySem.W.Hook where
  α := AlX
  obs := fun s => obsXG n fa fn fs cu ts pr s.heap.get?
  val := fun w => valX fn fs ts pr w
  says := fun w h => ∃ K : PySem.W.Frag, K.In h ∧ SaysX fa fn fs cu ts pr w K
  of := fun _ _ e => ⟨_, He.frG_in, e⟩
  keeps := fun _ _ _ ⟨K, hK, c⟩ k => ⟨K, PySem.W.Frag.In.keeps hK k, c⟩
theorem obsXG_eq {n : Nat} {fa : List He.Fa} {fn : List He.DefD} {fs : List ((Str × Option Str) × FnS)} {cu : List (PySem.W.Frag → Bool)} {ts : List He.Tab} {pr : List He.DefD} {g : Addr → Option Obj} {s : Shared} (h : ∀ a, g a = s.heap.get? a) : obsXG n fa fn fs cu ts pr g = (hookX n fa fn fs cu ts pr).obs s := by
  have e : g = s.heap.get? := funext h
  rw [e] <;> rfl
section
variable {fa : List He.Fa} {fn : List He.DefD} {fs : List ((Str × Option Str) × FnS)} {cu : List (PySem.W.Frag → Bool)} {ts : List He.Tab} {pr : List He.DefD} {w : World} {K : PySem.W.Frag}
theorem SaysX.all (c : SaysX fa fn fs cu ts pr w K) : (fa.all fun f => f.ok K) = true ∧ (fn.all fun d => d.ok K) = true ∧ (cu.all fun c => c K) = true ∧ (pr.all fun d => okP K d) = true := by
  have c1 : ((fa.all fun f => f.ok K) && ((fn.all fun d => d.ok K) && ((cu.all fun c => c K) && pr.all fun d => okP K d))) = true := congrArg (fun z : AlX => z.1) c
  obtain ⟨a, b⟩ := He.ba c1
  obtain ⟨b, d⟩ := He.ba b
  obtain ⟨d, e⟩ := He.ba d
  exact ⟨a, b, d, e⟩
theorem SaysX.fact (c : SaysX fa fn fs cu ts pr w K) (i : Nat) {f : He.Fa} (h : fa[i]? = some f := by rfl) : f.ok K = true := List.all_eq_true.mp c.all.1 f (List.mem_of_getElem? h)
theorem SaysX.own (c : SaysX fa fn fs cu ts pr w K) (i : Nat) {f : PySem.W.Frag → Bool} (h : cu[i]? = some f := by rfl) : f K = true := List.all_eq_true.mp c.all.2.2.1 f (List.mem_of_getElem? h)
theorem SaysX.init (c : SaysX fa fn fs cu ts pr w K) (i : Nat) {f : (Str × Option Str) × FnS} (h : fs[i]? = some f := by rfl) : fnS K f.1 = f.2 := by
  have e : fs.map (fun f => fnS K f.1) = fs.map (·.2) := congrArg (fun z : AlX => z.2.2.1) c
  have e2 : (fs.map fun f => fnS K f.1)[i]? = (fs.map (·.2))[i]? := by rw [e]
  rw [List.getElem?_map, List.getElem?_map, h] at e2
  exact Option.some.inj e2
theorem SaysX.def_ (c : SaysX fa fn fs cu ts pr w K) (i : Nat) {d : He.DefD} (h : fn[i]? = some d := by rfl) : ∃ fd, FunD K d.name d.qual d.params d.body d.scope (d.dvs K) (d.kws K) (He.fAd K d.at_) fd := by
  have e : fn.map (fun d => He.fnW K d.at_) = fn.map He.DefD.val := congrArg (fun z : AlX => z.2.1) c
  have e2 : (fn.map fun d => He.fnW K d.at_)[i]? = (fn.map He.DefD.val)[i]? := by rw [e]
  rw [List.getElem?_map, List.getElem?_map, h] at e2
  exact He.DefD.funD (Option.some.inj e2) (List.all_eq_true.mp c.all.2.1 d (List.mem_of_getElem? h))
theorem SaysX.tab (c : SaysX fa fn fs cu ts pr w K) (i : Nat) {t : He.Tab} (h : ts[i]? = some t := by rfl) : ∃ es n, KDict K w (t.1 K) es n := by
  have e : ts.map (fun t => He.dicW K (t.1 K)) = ts.map fun t => some (He.keysIn w.params t.2) := congrArg (fun z : AlX => z.2.2.2.1) c
  have e2 : (ts.map fun t => He.dicW K (t.1 K))[i]? = (ts.map fun t => some (He.keysIn w.params t.2))[i]? := by rw [e]
  rw [List.getElem?_map, List.getElem?_map, h] at e2
  exact He.dicW_ok (Option.some.inj e2)
theorem SaysX.prop (c : SaysX fa fn fs cu ts pr w K) (i : Nat) {d : He.DefD} (h : pr[i]? = some d := by rfl) : ∃ fd, FunD K d.name d.qual d.params d.body d.scope (d.dvs K) (d.kws K) (prA K d.at_) fd := by
  have e : pr.map (fun d => fnWP K d.at_) = pr.map He.DefD.val := congrArg (fun z : AlX => z.2.2.2.2) c
  have e2 : (pr.map fun d => fnWP K d.at_)[i]? = (pr.map He.DefD.val)[i]? := by rw [e]
  rw [List.getElem?_map, List.getElem?_map, h] at e2
  exact funDP (Option.some.inj e2) (List.all_eq_true.mp c.all.2.2.2 d (List.mem_of_getElem? h))
end
/-! ### tables of the module -/
/-- the texts that are keys of the dict at d, in order -/
def keysB (K : PySem.W.Frag) (d : Addr) (ks : List Str) : Bool := match K.lookup d with
  | some ⟨_, _, .dict es _, _⟩ => eqB (es.toList.map fun e => match e.key with | Value.str x _ => some x | _ => none) (ks.map some)
  | _ => false
theorem keysB_none {K : PySem.W.Frag} {d : Addr} {ks : List Str} (h : keysB K d ks = true) {z : Str} (hz : z ∉ ks) : PySem.W.nsIn K d z = some none := by
  unfold keysB at h
  unfold PySem.W.nsIn
  cases q : K.lookup d with
  | none => rw [q] at h; cases h
  | some o =>
    obtain ⟨oc, od, dt, osl⟩ := o
    rw [q] at h
    cases dt with
    | dict es n =>
      have e := eqB_ok h
      have all : ∀ e ∈ es.toList, ∃ x t, e.key = .str x t ∧ x ∈ ks := fun y hy => by
        have hm : (match y.key with | Value.str x _ => some x | _ => none) ∈ ks.map some := by
          rw [← e]
          exact List.mem_map.mpr ⟨y, hy, rfl⟩
        obtain ⟨x, hx, ex⟩ := List.mem_map.mp hm
        cases hk : y.key with
        | str x2 t =>
          rw [hk] at ex
          cases ex
          exact ⟨_, t, rfl, hx⟩
        | _ => rw [hk] at ex; cases ex
      have f1 : es.toList.find? (·.key.isStr z) = none := by
        rw [List.find?_eq_none]
        intro y hy
        obtain ⟨x, t, hk, hx⟩ := all y hy
        rw [hk, PySem.W.isStr_of]
        intro hh
        have : x = z := by
          simp [Value.isStrOf] at hh
          exact hh
        exact hz (this ▸ hx)
      have f2 : es.toList.any (·.refKey) = false := by
        rw [List.any_eq_false]
        intro y hy
        obtain ⟨x, t, hk, hx⟩ := all y hy
        simp [DictEntry.refKey, hk]
      dsimp only
      rw [f1, f2]
      rfl
    | _ => cases h
/-- the object that stands at a key -/
def kAt (K : PySem.W.Frag) (d : Addr) (z : Str) : Addr := match PySem.W.nsIn K d z with
  | some (some (.ref a)) => a
  | _ => 0
/-- at a: a tuple of these -/
def tupK (K : PySem.W.Frag) (a : Addr) (vs : List He.Dv) : Bool := match K.lookup a with
  | some ⟨.type c, _, .seq its _, _⟩ => decide (c = "tuple") && (decide (its.size ≤ sizeLine) && He.relAll (vs.map (He.Dv.v K)) its.toList)
  | _ => false
theorem tupK_ok {K : PySem.W.Frag} {a : Addr} {vs : List He.Dv} (h : tupK K a vs = true) (H : Hp) : SqT K H a (vs.map (He.Dv.v K)) := by
  unfold tupK at h
  cases q : K.lookup a with
  | none => rw [q] at h; cases h
  | some o =>
    obtain ⟨oc, od, dt, osl⟩ := o
    rw [q] at h
    cases oc with
    | type c =>
      cases dt with
      | seq its n =>
        obtain ⟨h1, h2⟩ := He.ba (show (decide (c = "tuple") && (decide (its.size ≤ sizeLine) && He.relAll (vs.map (He.Dv.v K)) its.toList)) = true from h)
        obtain ⟨h3, h4⟩ := He.ba h2
        exact .inr ⟨_, its, n, q, congrArg Value.type (of_decide_eq_true h1), rfl, of_decide_eq_true h3, He.relAll_ok h4⟩
      | _ => cases h
    | _ => cases dt <;> cases h
end Z

/-! ### try with clauses of both kinds: except X, except X as n -/
namespace Z
open PySem PySem.Spec PyProof.Rows L2 Evl
/-- behind «except .. as n»: slot i, n's, is empty -/
def unb (i : Option Nat) (D : Ends) : Ends := match i with
  | none => D
  | some i => { nx := fun σ' H' => D.nx (σ'.set i none) H', rt := D.rt, bk := fun σ' H' => D.bk (σ'.set i none) H', ct := fun σ' H' => D.ct (σ'.set i none) H' }
def bnd (i : Option Nat) (a : Addr) (σ : L2.St) : L2.St := match i with
  | none => σ
  | some i => σ.set i (some (.ref a))
abbrev Hd : Type := Value × Option Nat × (Addr → Value → Option Addr → TS)
/-- what the clauses wish of an exception of the body, one after the other -/
def wMix (K : PySem.W.Frag) (Wout : WX) (D : Ends) : List Hd → WX
  | [] => Wout
  | (c, i, ts) :: r => fun cls d σ H => ∃ b, PySem.W.exmOne K cls c = some b ∧ (b = true → ∀ a, H a = none → ts a cls d (unb i D) (bnd i a σ) H) ∧ (b = false → wMix K Wout D r cls d σ H)
inductive HdZ (X : Cx) : List ExceptHandler → List Hd → Prop
  | nil : HdZ X [] []
  | only {x : Str} {c : Value} {ts : Addr → Value → Option Addr → TS} {b₀ : Stmt} {suite : List Stmt} {np pos' : Pos} {hds : List ExceptHandler} {l : List Hd} (hc : Names X x c)
      (hsu : ∀ (a : Addr) (oe : Obj) (cls : Value) (d : Option Addr) (pn : List (Addr × Obj)), Zc cls d oe → (∃ vs, oe.data = .fields vs) → PSs (X.suite a ((a, oe) :: pn)) (b₀ :: suite) (ts a cls d)) (r : HdZ X hds l) :
      HdZ X (.ExceptHandler (some (.Name x np)) none (b₀ :: suite) pos' :: hds) ((c, none, ts) :: l)
  | as_ {x n : Str} {i : Nat} {c : Value} {ts : Addr → Value → Option Addr → TS} {b₀ : Stmt} {suite : List Stmt} {np pos' : Pos} {hds : List ExceptHandler} {l : List Hd} (hN : X.N.Nodup) (hi : X.N[i]? = some n) (hln : X.env.kindOf n = some .local) (hc : Names X x c)
      (hsu : ∀ (a : Addr) (oe : Obj) (cls : Value) (d : Option Addr) (pn : List (Addr × Obj)), Zc cls d oe → (∃ vs, oe.data = .fields vs) → PSs (X.suite a ((a, oe) :: pn)) (b₀ :: suite) (ts a cls d)) (r : HdZ X hds l) :
      HdZ X (.ExceptHandler (some (.Name x np)) (some n) (b₀ :: suite) pos' :: hds) ((c, some i, ts) :: l)
section
variable {prog : Program} {w : World} {A : Around} {E : Value → Shared → Prop} {s : Shared} {K : PySem.W.Frag} {B : Heap} {env : Env} {outer : List Env} {L a : Addr} {cls c : Value} {d : Option Addr} {t : Expr} {n : Str} {b₀ : Stmt} {suite : List Stmt} {pos : Pos} {rest : List ExceptHandler} {Q : Flow → Shared → Prop}
theorem cl_as (X : K.In s.heap) (fl : HandSPX.FlyingZ B (env :: outer) a (Zc cls d) s.heap) (hm : PySem.W.exmOne K cls c = some true)
    (test : ∀ {Q' : Value → Shared → Prop} {E' : Value → Shared → Prop}, Q' c s → wpAny (model prog w) (A.mark (some (.ref a))) (eval t env) Q' E' s)
    (k : ∀ h', HandSPX.FlyingZ B (env :: outer) a (Zc cls d) h' → s.heap.UpToSlots h' → wpAny (model prog w) (A.mark (some (.ref a))) (storeName env n (.ref a))
      (fun _ s₂ => wpAny (model prog w) (A.mark (some (.ref a))) (execs (b₀ :: suite) env) (fun f s₃ => wpAny (model prog w) A (do bindName env n .none; unbindBehindTheSuite env n pos) (fun _ s₄ => Q f s₄) E s₃) (fun _ _ => False) s₂) (fun _ _ => False) { s with heap := h' }) :
    wpAny (model prog w) A (handleBy (.ref a) env (.ExceptHandler (some t) (some n) (b₀ :: suite) pos :: rest)) Q E s := by
  obtain ⟨oe, vs, he, hz, _⟩ := fl.there
  refine wpAny_handleBy_cons (codeAny_handlers_test ?_) (by intro q; cases q)
  have LT : PySem.W.Looks (model prog w) s.heap (typeOf (.ref a)) cls := fun A Q E s k q => wpAny_typeOf_ref (k _ _ he) (by rw [hz.1]; exact q)
  refine test ((PySem.W.exm_one (M := model prog w) X LT hm).here ?_)
  refine codeAny_handlers_suite_as (HandSPX.lands_againZ fl fun h4 fl4 up4 => ?_)
  exact wpAny_mono (k h4 fl4 up4) (fun _ s₂ h₂ => wpAny_mono h₂ (fun f s₃ h₃ => h₃) fun _ _ z => z.elim) fun _ _ z => z.elim
theorem cl_only (X : K.In s.heap) (fl : HandSPX.FlyingZ B (env :: outer) a (Zc cls d) s.heap) (hm : PySem.W.exmOne K cls c = some true)
    (test : ∀ {Q' : Value → Shared → Prop} {E' : Value → Shared → Prop}, Q' c s → wpAny (model prog w) (A.mark (some (.ref a))) (eval t env) Q' E' s)
    (k : ∀ h', HandSPX.FlyingZ B (env :: outer) a (Zc cls d) h' → s.heap.UpToSlots h' → wpAny (model prog w) (A.mark (some (.ref a))) (execs (b₀ :: suite) env) Q (fun _ _ => False) { s with heap := h' }) :
    wpAny (model prog w) A (handleBy (.ref a) env (.ExceptHandler (some t) none (b₀ :: suite) pos :: rest)) Q E s := by
  obtain ⟨oe, vs, he, hz, _⟩ := fl.there
  refine wpAny_handleBy_cons (codeAny_handlers_test ?_) (by intro q; cases q)
  have LT : PySem.W.Looks (model prog w) s.heap (typeOf (.ref a)) cls := fun A Q E s k q => wpAny_typeOf_ref (k _ _ he) (by rw [hz.1]; exact q)
  refine test ((PySem.W.exm_one (M := model prog w) X LT hm).here ?_)
  refine codeAny_handlers_suite (HandSPX.lands_againZ fl fun h4 fl4 up4 => ?_)
  exact wpAny_mono (k h4 fl4 up4) (fun f s₂ h₂ => h₂) fun _ _ z => z.elim
theorem cl_pass {nm : Option Str} {body : List Stmt} (X : K.In s.heap) (fl : HandSPX.FlyingZ B (env :: outer) a (Zc cls d) s.heap) (hm : PySem.W.exmOne K cls c = some false)
    (test : ∀ {Q' : Value → Shared → Prop} {E' : Value → Shared → Prop}, Q' c s → wpAny (model prog w) (A.mark (some (.ref a))) (eval t env) Q' E' s)
    (k : wpAny (model prog w) A (handleBy (.ref a) env rest) Q E s) :
    wpAny (model prog w) A (handleBy (.ref a) env (.ExceptHandler (some t) nm body pos :: rest)) Q E s := by
  obtain ⟨oe, vs, he, hz, _⟩ := fl.there
  refine wpAny_handleBy_cons (codeAny_handlers_test ?_) (by intro q; cases q)
  have LT : PySem.W.Looks (model prog w) s.heap (typeOf (.ref a)) cls := fun A Q E s k q => wpAny_typeOf_ref (k _ _ he) (by rw [hz.1]; exact q)
  exact test ((PySem.W.exm_one (M := model prog w) X LT hm).here k)
theorem cl_none (hf : env.frame = some L) (fl : HandSPX.FlyingZ B (env :: outer) a (Zc cls d) s.heap) (k : ∀ h', HandSPX.HeldZ B (env :: outer) a (Zc cls d) L h' → s.heap.UpToSlots h' → E (.ref a) { s with heap := h' }) :
    wpAny (model prog w) A (handleBy (.ref a) env []) Q E s := by
  refine wpAny_handleBy_nil ?_
  obtain ⟨k1, k2, k3, oe, vs, T, oT, ts', he, hz, hd, h1, hr⟩ := id fl
  unfold PySem.passOn
  refine wpAny_bind (wpAny_field he hd h1 ?_)
  rw [if_neg (show ¬ ((Value.ref T == Value.none) = true) from by simp)]
  have fin : wpAny (model prog w) A (setFlight (.ref a) env.frame) (fun _ s4 => wpAny (model prog w) A (throw (.ref a) : Sem Flow) Q E s4) E s := by
    rw [hf]
    exact HandSPX.setFlight_upZ fl fun h4 hh4 up4 => wpAny_throw (k h4 hh4 up4)
  first
    | exact wpAny_bind (wpAny_pure (wpAny_bind fin))
    | exact wpAny_bind fin
end
section
variable {X : Cx} {body : List Stmt} {h₀ : ExceptHandler} {hds : List ExceptHandler} {l : List Hd} {pos : Pos} {tb : WX → TS} {Wout : WX}
theorem ps_try_mix (hs : X.stack = X.env :: X.outer) (hf : X.env.frame = some X.env.locals) (tk : Takes X Wout)
    (hb : ∀ (W : WX) (pn : List (Addr × Obj)) (xe : Value → Shared → Prop), Takes (X.tr pn xe) W → PassesOwn (model X.prog X.w) X.A X.env xe → PSs (X.tr pn xe) body (tb W))
    (hh : HdZ X (h₀ :: hds) l) : PS X (.Try body (h₀ :: hds) [] [] pos) (fun D σ H => tb (wMix X.K Wout D l) D σ H) := by
  refine ⟨fun pins s σ H D I h => ?_⟩
  have ok := I.ok
  have hfr : X.A.frames = some (X.env :: X.outer) := by rw [ok.frames, hs]
  refine wpAny_Try_except ?_
  refine wpAny_mono ((hb (wMix X.K Wout D l) (X.pn ++ pins) (fun e s₁ => wpAny (model X.prog X.w) X.A (noteFrame e X.env) (fun _ s₂ => wpAny (model X.prog X.w) X.A (setFlight e none) (fun _ s₃ =>
    wpAny (model X.prog X.w) X.A (handleBy e X.env (h₀ :: hds)) (SP X pins D) X.xe s₃) X.xe s₂) X.xe s₁) (fun u s' xx => ?_) PassesOwn.looking).run [] s σ H D (I.toTry _) h) (fun f s1 hsp => ?_) (fun e s1 he => he)
  · obtain ⟨a, B, sI, pins', σ', H', cls, d, rfl, J', nb, up, sky, na, os, ag, w⟩ := xx
    have J : Inv X pins σ' H' sI := J'.ofTry ok
    have sky' : Sky B (X.env :: X.outer) a (Zc cls d) X.env.locals s'.heap := by rw [← hs]; exact sky
    show wpAny (model X.prog X.w) X.A (noteFrame (.ref a) X.env) _ _ _
    refine Sky.land Zc.steady hfr hf sky' fun h3 fl3 up3 => ?_
    -- through the clauses, whatever the heap's traceback marks
    have go : ∀ {hds' : List ExceptHandler} {l' : List Hd}, HdZ X hds' l' → ∀ h3 : Heap, HandSPX.FlyingZ B (X.env :: X.outer) a (Zc cls d) h3 → sI.heap.UpToSlots h3 ∨ True → (∀ {h4 : Heap}, HandSPX.FlyingZ B (X.env :: X.outer) a (Zc cls d) h4 → h3.UpToSlots h4 → Inv X pins σ' H' { s' with heap := h4 }) → Inv X pins σ' H' { s' with heap := h3 } →
        (∀ {h4 : Heap}, HandSPX.HeldZ B (X.env :: X.outer) a (Zc cls d) X.env.locals h4 → h3.UpToSlots h4 → ∀ W : WX, Takes X W → W cls d σ' H' → X.xe (.ref a) { s' with heap := h4 }) → wMix X.K Wout D l' cls d σ' H' →
        wpAny (model X.prog X.w) X.A (handleBy (.ref a) X.env hds') (SP X pins D) X.xe { s' with heap := h3 } := by
      intro hds' l' hk
      induction hk with
      | nil =>
        intro h3 fl3 _ _ _ out w
        exact cl_none hf fl3 fun h4 hh4 up4 => out hh4 up4 _ tk w
      | @only x c ts b₀ suite np pos' hds2 l2 hc hsu r ih =>
        intro h3 fl3 u0 inv J3 out w
        obtain ⟨oe3, vs3, he3, hz3, hd3⟩ := fl3.there
        have nfr : a ∉ frs (X.env :: X.outer) := fun hm => by
          obtain ⟨_, o', e', hnf⟩ := fl3.2.2.1.mem hm
          rw [he3] at e'; cases e'
          exact hnf _ hd3
        have nL : a ≠ X.env.locals := fun z => nfr (List.mem_filterMap.mpr ⟨X.env, List.mem_cons_self, by rw [hf, z]⟩)
        have nF : a ∉ X.fs := fun hm => by
          obtain ⟨e, he, q⟩ := List.mem_filterMap.mp hm
          exact nfr (List.mem_filterMap.mpr ⟨e, List.mem_cons_of_mem _ he, q⟩)
        have S3 := J3.suite he3 hd3 na nL nF
        have test : ∀ {Q : Value → Shared → Prop} {E : Value → Shared → Prop}, Q c { s' with heap := h3 } → wpAny (model X.prog X.w) (X.A.mark (some (.ref a))) (eval (.Name x np) X.env) Q E { s' with heap := h3 } := fun {Q E} q => by
          obtain ⟨hg, hdbg, hm | ⟨hm, hv, hnn⟩⟩ := hc
          · exact ld_glob (X := X.suite a ((a, oe3) :: (X.pn ++ pins))) S3 hg hm q hdbg
          · exact ld_blt (X := X.suite a ((a, oe3) :: (X.pn ++ pins))) S3 hg hm hv q hnn hdbg
        obtain ⟨b, hb1, hyes, hno⟩ := w
        cases b with
        | true =>
          refine cl_only J3.kIn fl3 hb1 test fun h4 fl4 up4 => ?_
          obtain ⟨oe4, vs4, he4, hz4, hd4⟩ := fl4.there
          have S4 := (inv fl4 up4).suite he4 hd4 na nL nF
          refine wpAny_mono ((hsu a oe4 cls d (X.pn ++ pins) hz4 ⟨_, hd4⟩).run [] _ _ H' _ S4 (hyes rfl a na)) (fun f s6 hsp => ?_) (fun _ _ z => z)
          cases f with
          | ret u =>
            obtain ⟨v6, σ6, H6, S6, r6, q6⟩ := hsp
            exact ⟨_, _, _, S6.unsuite ok, r6, q6⟩
          | _ =>
            obtain ⟨σ6, H6, S6, q6⟩ := hsp
            exact ⟨_, _, S6.unsuite ok, q6⟩
        | false => exact cl_pass J3.kIn fl3 hb1 test (ih h3 fl3 u0 inv J3 out (hno rfl))
      | @as_ x n i c ts b₀ suite np pos' hds2 l2 hN hi hln hc hsu r ih =>
        intro h3 fl3 u0 inv J3 out w
        obtain ⟨oe3, vs3, he3, hz3, hd3⟩ := fl3.there
        have nfr : a ∉ frs (X.env :: X.outer) := fun hm => by
          obtain ⟨_, o', e', hnf⟩ := fl3.2.2.1.mem hm
          rw [he3] at e'; cases e'
          exact hnf _ hd3
        have nL : a ≠ X.env.locals := fun z => nfr (List.mem_filterMap.mpr ⟨X.env, List.mem_cons_self, by rw [hf, z]⟩)
        have nF : a ∉ X.fs := fun hm => by
          obtain ⟨e, he, q⟩ := List.mem_filterMap.mp hm
          exact nfr (List.mem_filterMap.mpr ⟨e, List.mem_cons_of_mem _ he, q⟩)
        have S3 := J3.suite he3 hd3 na nL nF
        have test : ∀ {Q : Value → Shared → Prop} {E : Value → Shared → Prop}, Q c { s' with heap := h3 } → wpAny (model X.prog X.w) (X.A.mark (some (.ref a))) (eval (.Name x np) X.env) Q E { s' with heap := h3 } := fun {Q E} q => by
          obtain ⟨hg, hdbg, hm | ⟨hm, hv, hnn⟩⟩ := hc
          · exact ld_glob (X := X.suite a ((a, oe3) :: (X.pn ++ pins))) S3 hg hm q hdbg
          · exact ld_blt (X := X.suite a ((a, oe3) :: (X.pn ++ pins))) S3 hg hm hv q hnn hdbg
        obtain ⟨b, hb1, hyes, hno⟩ := w
        cases b with
        | true =>
          refine cl_as J3.kIn fl3 hb1 test fun h4 fl4 up4 => ?_
          obtain ⟨oe4, vs4, he4, hz4, hd4⟩ := fl4.there
          have S4 := (inv fl4 up4).suite he4 hd4 na nL nF
          refine store_ok (X := X.suite a ((a, oe4) :: (X.pn ++ pins))) (v := .ref a) S4 hN hi (.inl hln) rfl (fun s5 S5 => ?_) (.inr hln)
          refine wpAny_mono ((hsu a oe4 cls d (X.pn ++ pins) hz4 ⟨_, hd4⟩).run [] s5 _ H' _ S5 (hyes rfl a na)) (fun f s6 hsp => ?_) (fun _ _ z => z)
          have end_ : ∀ {σ6 : L2.St} {H6 : Hp} {Q : Shared → Prop}, Inv (X.suite a ((a, oe4) :: (X.pn ++ pins))) [] σ6 H6 s6 → (∀ s7, Inv X pins (σ6.set i none) H6 s7 → Q s7) →
              wpAny (model X.prog X.w) X.A (do bindName X.env n .none; unbindBehindTheSuite X.env n pos') (fun _ s7 => Q s7) X.xe s6 := fun {σ6 H6 Q} S6 hq => gone_ok (S6.unsuite ok) hN hi hln hq
          cases f with
          | next =>
            obtain ⟨σ6, H6, S6, q6⟩ := hsp
            exact end_ S6 fun s7 J7 => ⟨_, _, J7, q6⟩
          | brk =>
            obtain ⟨σ6, H6, S6, q6⟩ := hsp
            exact end_ S6 fun s7 J7 => ⟨_, _, J7, q6⟩
          | cont =>
            obtain ⟨σ6, H6, S6, q6⟩ := hsp
            exact end_ S6 fun s7 J7 => ⟨_, _, J7, q6⟩
          | ret u =>
            obtain ⟨v6, σ6, H6, S6, r6, q6⟩ := hsp
            exact end_ S6 fun s7 J7 => ⟨_, _, _, J7, r6, q6⟩
        | false => exact cl_pass J3.kIn fl3 hb1 test (ih h3 fl3 u0 inv J3 out (hno rfl))
    refine go hh h3 fl3 (.inr trivial) (fun {h4} fl4 up4 => J.landed nb fl4.1 ((up.trans up3).trans up4) os ag) (J.landed nb fl3.1 (up.trans up3) os ag) (fun {h4} hh4 up4 W tkW w' => tkW _ _ ?_) w
    exact ⟨a, B, sI, pins, σ', H', cls, d, rfl, J, nb, (up.trans up3).trans up4, .inr (.inr (by rw [hs]; exact hh4)), na, os, ag, w'⟩
  · cases f with
    | next =>
      obtain ⟨σ', H', J', q⟩ := hsp
      exact wpAny_execs_nil ⟨σ', H', J'.ofTry ok, q⟩
    | brk =>
      obtain ⟨σ', H', J', q⟩ := hsp
      exact ⟨σ', H', J'.ofTry ok, q⟩
    | cont =>
      obtain ⟨σ', H', J', q⟩ := hsp
      exact ⟨σ', H', J'.ofTry ok, q⟩
    | ret u =>
      obtain ⟨v, σ', H', J', r, q⟩ := hsp
      exact ⟨v, σ', H', J'.ofTry ok, r, q⟩
end
/-- a call of a def that may raise, by its promise (Fok); W: what is wanted of the exception -/
theorem pe_callG {X : Cx} {W : WX} {k : Nat} {x : Str} {ps : List Str} {sp : Sp} {e : Expr} {es : List Expr} {t : TA} {p pos : Pos} (F : Fok X.prog X.w X.K X.mg X.base (L2.CX X.prog X.w) k x ps sp) (hr : Room k X.A) (hg : Gl X x) (tk : Takes X W)
    (ha : PA X (e :: es) t) (hdb : (x == ("__debug__" : Str)) = false := by decide) (he : starEach (e :: es) X.env = (false, eval e X.env) :: starEach es X.env := by rfl) (hpl : (backTo pos (starEach es X.env)).any (·.1) = false := by rfl) :
    PE X (.Call (.Name x p) (e :: es) [] pos) (tCallS sp (WE W) t) :=
  let ⟨_, h1, h2⟩ := F.ex
  pe_callS h1 hr hg F.hm F.kp h2 (fun σ => passAt tk σ) ha hdb he hpl
/-- what an exception's way out is owed: of the class x, its field f holding v, all that was there kept -/
def Rz (K : PySem.W.Frag) (x f : Str) (v : V) (H : Hp) (E : XK) : Prop := ∀ H' d, Ex H H' → H' d = some (.xd [(f, v)]) → E (.ref (He.ga K x)) (some d) H'
end Z

/-! ### calls with keywords: the values in the order that they are written (positional ones, then the keywords'), put in the parameters' order by places -/
namespace Z
open PySem PySem.Spec PyProof.Rows L2 Evl
def perm {α : Type} (p : List Nat) (l : List α) : List α := p.filterMap fun i => l[i]?
theorem perm_rel {vs : List V} {us : List Value} (r : Vals vs us) : ∀ p : List Nat, Vals (perm p vs) (perm p us)
  | [] => .nil
  | i :: p => by
    have ih := perm_rel r p
    unfold perm at ih ⊢
    rw [List.filterMap_cons, List.filterMap_cons]
    cases e : vs[i]? with
    | none =>
      have hl : us[i]? = none := by
        rw [List.getElem?_eq_none_iff] at e ⊢
        rw [← r.length]
        exact e
      rw [hl]
      exact ih
    | some v =>
      obtain ⟨u, hu, ru⟩ := Vals.get r e
      rw [hu]
      exact .cons ru ih
structure FokK (P : Program) (w : World) (K : PySem.W.Frag) (mg : Str → Option Value) (base : Heap) (CX : CXT) (k : Nat) (x : Str) (ps : List Str) (sp : Sp) (n : Nat) (ks : List Str) (p : List Nat) : Prop where
  ex : ∃ fd, FnOk P w K mg base CX k (He.ga K x) fd ps sp ∧ ∀ (s : Shared) (us ws : List Value), us.length = n → ws.length = ks.length → BindsTo s fd ⟨us, ks.zip ws⟩ (ps.zip (perm p (us ++ ws)))
  hm : mg x = some (.ref (He.ga K x))
  kp : PySem.W.keepIn K (.ref (He.ga K x)) = true
theorem kbinds {K : PySem.W.Frag} {x qual : Str} {params : Arguments} {body : List Stmt} {scope : Scope} {kws : List (Str × V)} {f : Addr} {fd : FuncData} {ps ks : List Str} {n : Nat} {p : List Nat} (F : FunD K x qual params body scope [] kws f fd)
    (h : ∀ (kV doc pm : Value) (an : Option Addr) (cdv ct : Value) (us ws : List Value), us.length = n → ws.length = ks.length → bindArgs (PySem.W.fnOf x qual params body scope .none kV doc pm an cdv ct) ⟨us, ks.zip ws⟩ = pure (ps.zip (perm p (us ++ ws)))) :
    ∀ (s : Shared) (us ws : List Value), us.length = n → ws.length = ks.length → BindsTo s fd ⟨us, ks.zip ws⟩ (ps.zip (perm p (us ++ ws))) := by
  obtain ⟨oc, od, dV, kV, doc, pm, an, cdv, ct, osl, rfl, lk, hcd, hD, hK⟩ := F.ex
  rcases hD with ⟨_, rfl⟩ | ⟨e, _⟩
  · exact fun s us ws l1 l2 => BindsTo.of_eq (h kV doc pm an cdv ct us ws l1 l2)
  · exact absurd rfl e
/-- f(e, .., k = v, ..) -/
def tCallP (p : List Nat) (n m : Nat) (sp : Sp) (E : L2.St → XK) (t tk : TA) : TE := fun σ H Q => t σ H fun vs H1 => tk σ H1 fun zs H2 => vs.length = n ∧ zs.length = m ∧ sp (perm p (vs ++ zs)) H2 Q (E σ)
section
variable {X : Cx} {CX : CXT} {k n : Nat} {ps ks : List Str} {sp : Sp} {E : L2.St → XK} {x : Str} {p pos : Pos} {e : Expr} {es : List Expr} {kws : List Keyword} {t tk : TA} {pm : List Nat}
theorem run_fnP {pins : List (Addr × Obj)} {σ : L2.St} {H : Hp} {s : Shared} {Q : VK} {us ws : List Value} {vs zs : List V} (F : FokK X.prog X.w X.K X.mg X.base CX k x ps sp n ks pm) (hr : Room k X.A) (hx : PassesAt CX X σ (E σ))
    (I : Inv X pins σ H s) (r : Vals vs us) (rz : Vals zs ws) (l1 : vs.length = n) (l2 : zs.length = ks.length) (h : sp (perm pm (vs ++ zs)) H Q (E σ)) : wpAny (model X.prog X.w) X.A (call (.ref (He.ga X.K x)) us (ks.zip ws)) (EP X pins σ Q) X.xe s := by
  obtain ⟨fd, F1, b⟩ := F.ex
  refine wpAny_call (codeAny_mono (F1.run X.A X.stack s H ⟨us, ks.zip ws⟩ (perm pm (us ++ ws)) (perm pm (vs ++ zs)) Q (E σ) hr I.env0 (b s us ws (r.length.symm.trans l1) (rz.length.symm.trans l2)) (perm_rel (r.append rz) pm) h) fun r s' hq => ?_)
  cases r with
  | error e => exact hx pins H s e s' I hq
  | ok fl =>
    cases fl with
    | ret u => exact I.after hq
    | next => exact False.elim hq
    | brk => exact False.elim hq
    | cont => exact False.elim hq
theorem pe_callP (F : FokK X.prog X.w X.K X.mg X.base CX k x ps sp n ks pm) (hr : Room k X.A) (hg : Gl X x) (hx : ∀ σ, PassesAt CX X σ (E σ))
    (ha : PA X (e :: es) t) (hkw : PK X kws tk) (hall : (backToKw pos (keywordEach kws X.env)).all (·.1.isSome) = true := by rfl) (hks : (backToKw pos (keywordEach kws X.env)).filterMap (·.1) = ks := by rfl)
    (hdb : (x == ("__debug__" : Str)) = false := by decide) (he : starEach (e :: es) X.env = (false, eval e X.env) :: starEach es X.env := by rfl)
    (hpl : ((backTo pos (starEach (e :: es) X.env)).any (·.1) || (backToKw pos (keywordEach kws X.env)).any (·.1.isNone)) = false := by rfl) {m : Nat} (hm : ks.length = m := by rfl) :
    PE X (.Call (.Name x p) (e :: es) kws pos) (tCallP pm n m sp E t tk) := by
  subst hm
  refine ⟨fun pins s σ H Q I h => ?_⟩
  refine wpAny_Call_Name_kw (ld_glob I hg F.hm ?_ hdb)
  refine PySem.W.callWith_KW (h₀ := X.base) I.ok.mod.kin F.kp hall (thn (ha.run pos pins s σ H _ I h) fun us s1 ⟨vs, H1, I1, r, q⟩ => ?_) hpl he
  refine thn (hkw.run pos pins s1 σ H1 _ I1 q) fun ws s2 ⟨zs, H2, I2, rz, l1, l2, q2⟩ => ⟨I2.kIn, ?_⟩
  rw [hks]
  exact run_fnP F hr (hx σ) I2 r rz l1 l2 q2
/-- f(k = v, ..) -/
theorem pe_callP0 (F : FokK X.prog X.w X.K X.mg X.base CX k x ps sp 0 ks pm) (hr : Room k X.A) (hg : Gl X x) (hx : ∀ σ, PassesAt CX X σ (E σ))
    (hkw : PK X kws tk) (hall : (backToKw pos (keywordEach kws X.env)).all (·.1.isSome) = true := by rfl) (hks : (backToKw pos (keywordEach kws X.env)).filterMap (·.1) = ks := by rfl)
    (hdb : (x == ("__debug__" : Str)) = false := by decide)
    (hpl : ((backTo pos (starEach [] X.env)).any (·.1) || (backToKw pos (keywordEach kws X.env)).any (·.1.isNone)) = false := by rfl) {m : Nat} (hm : ks.length = m := by rfl) :
    PE X (.Call (.Name x p) [] kws pos) (tCallP pm 0 m sp E tNil tk) := by
  subst hm
  refine ⟨fun pins s σ H Q I h => ?_⟩
  refine wpAny_Call_Name_kw (ld_glob I hg F.hm ?_ hdb)
  refine PySem.W.callWith_KW0 (h₀ := X.base) I.ok.mod.kin F.kp hall ?_ hpl
  have h' : tk σ H fun zs H2 => ([] : List V).length = 0 ∧ zs.length = ks.length ∧ sp (perm pm ([] ++ zs)) H2 Q (E σ) := h
  refine thn (hkw.run pos pins s σ H _ I h') fun ws s2 ⟨zs, H2, I2, rz, l1, l2, q2⟩ => ⟨I2.kIn, ?_⟩
  rw [hks]
  exact run_fnP F hr (hx σ) I2 .nil rz l1 l2 q2
theorem passAt0 (σ : L2.St) : PassesAt CX0 X σ E0 := fun _ _ _ _ _ _ h => h.elim
end
theorem s_callS {sp : Sp} {E : L2.St → XK} {t : TA} {σ : L2.St} {H : Hp} {Q : VK} (h : t σ H fun vs H1 => sp vs H1 Q (E σ)) : tCallS sp E t σ H Q := h
theorem s_callP {pm : List Nat} {n m : Nat} {sp : Sp} {E : L2.St → XK} {t tk : TA} {σ : L2.St} {H : Hp} {Q : VK} (h : t σ H fun vs H1 => tk σ H1 fun zs H2 => vs.length = n ∧ zs.length = m ∧ sp (perm pm (vs ++ zs)) H2 Q (E σ)) : tCallP pm n m sp E t tk σ H Q := h
end Z
namespace Z
open PySem PySem.Spec PyProof.Rows L2 Evl
theorem passAtL {X : Cx} (σ : L2.St) : PassesAt (L2.CX X.prog X.w) X σ E0 := fun pins H s e s' I h => passL pins σ H s e s' I h
def tTry (K : PySem.W.Frag) (tb : WX → TS) (Wout : WX) (l : List Hd) : TS := fun D σ H => tb (wMix K Wout D l) D σ H
end Z

/-! steps: exceptions, calls with keywords -/
namespace Z
open PySem PySem.Spec PyProof.Rows L2 Evl
section
variable {K : PySem.W.Frag} {σ : L2.St} {H : Hp} {Q : VK} {D : Ends}
theorem s_try {tb : WX → TS} {Wout : WX} {l : List Hd} (h : tb (wMix K Wout D l) D σ H) : tTry K tb Wout l D σ H := h
theorem mix_hit {Wout : WX} {c cls : Value} {i : Option Nat} {ts : Addr → Value → Option Addr → TS} {r : List Hd} {d : Option Addr} (e : PySem.W.exmOne K cls c = some true) (h : ∀ a, H a = none → ts a cls d (unb i D) (bnd i a σ) H) :
    wMix K Wout D ((c, i, ts) :: r) cls d σ H := ⟨true, e, (fun _ => h), fun z => by cases z⟩
theorem mix_miss {Wout : WX} {c cls : Value} {i : Option Nat} {ts : Addr → Value → Option Addr → TS} {r : List Hd} {d : Option Addr} (e : PySem.W.exmOne K cls c = some false) (h : wMix K Wout D r cls d σ H) :
    wMix K Wout D ((c, i, ts) :: r) cls d σ H := ⟨false, e, (fun z => by cases z), fun _ => h⟩
theorem s_xf {a : Addr} {cls : Value} {d : Option Addr} {C : Addr} {f : Str} {te : TE} (h : te σ H fun x H1 => x = .ref a ∧ cls = .ref C ∧ ∃ (dd : Addr) (fs : List (Str × V)) (v : V), d = some dd ∧ H1 dd = some (.xd fs) ∧ fs.lookup f = some v ∧ Q v H1) : tXf a cls d C f te σ H Q := h
theorem xf_at {a C dd : Addr} {f : Str} {v : V} {R : V → Prop} (h : H dd = some (.xd [(f, v)])) (q : R v) :
    V.ref a = .ref a ∧ (Value.ref C) = .ref C ∧ ∃ (d2 : Addr) (fs : List (Str × V)) (w : V), some dd = some d2 ∧ H d2 = some (.xd fs) ∧ fs.lookup f = some w ∧ R w := ⟨rfl, rfl, dd, _, v, rfl, h, by simp [List.lookup], q⟩
end
theorem Rz.of {K : PySem.W.Frag} {x f : Str} {v : V} {H H1 : Hp} {E : XK} (h : Rz K x f v H E) (e : Ex H H1) : Rz K x f v H1 E := fun H' d e' hd => h H' d (e.trans e') hd
end Z
namespace Z
open PySem PySem.Spec PyProof.Rows L2 Evl
theorem s_par {i j : Nat} {t : TA} {D : Ends} {σ : L2.St} {H : Hp} (h : t σ H fun vs H1 => ∃ x y, vs = [x, y] ∧ D.nx ((σ.set i (some x)).set j (some y)) H1) : tPar i j t D σ H := h
end Z

/-! ### an exception class of the package: `__init__(self, value)` says super().__init__(text), then self.value = value -/
namespace PySem
namespace Sxvalue
open PySem.W PySem.Calls PyProof.Rows PySem.HandSPX
def iA (p1 p2 : Pos) : Arguments := { posonlyargs := [], args := [{ arg := "self", annotation := none, pos := p1 }, { arg := "value", annotation := none, pos := p2 }], vararg := none, kwonlyargs := [], kw_defaults := [], kwarg := none, defaults := [] }
def iB (txt : Str) (q1 q2 q3 q4 q5 q6 r1 r2 r3 r4 : Pos) : List Stmt := [.Expr (.Call (.Attribute (.Call (.Name "super" q1) [] [] q2) "__init__" q3) [.Constant (.str txt) 0 q4] [] q5) q6, .Assign [.Attribute (.Name "self" r1) "value" r2] (.Name "value" r3) r4]
def iS : Scope := { kind := .function, names := [(PySem.Str.ofString "self", .local), (PySem.Str.ofString "value", .local), (PySem.Str.ofString "__class__", .free), (PySem.Str.ofString "super", .globalImplicit)], isGenerator := false, isCoroutine := false, more := [] }
/-- what the written part says of the class x at C, of its `__init__` at fI -/
structure Txt (P : Program) (K : Frag) (mg : Str → Option Value) (x : Str) (C fI : Addr) : Prop where
  gC : mg x = some (.ref C)
  noS : mg "super" = none
  cls : ∃ nm q N bs bm sn sub ab col dd k0 k1 k2 k3 k5, K.lookup C = some (excClassObj nm q C N bs bm true sn sub ab col dd k0 k1 k2 k3 k5 "ValueError.__new__") ∧ refsVE bm = true
  sa : findIn K (.ref C) "__setattr__" = some (some (.builtin "object.__setattr__"))
  noN : findIn K (.ref C) "value" = some none
  iC : findIn K (.ref C) "__init__" = some (some (.ref fI))
  tC : typeIn K (.ref fI) = some (.type "function")
  kC : keepIn K (.ref C) = true
  exC : subIn K (.ref C) (.type "BaseException") = some true
  veC : subIn K (.ref C) (.type "ValueError") = some true
  tyC : typeIn K (.ref C) = some (.type "type")
  mroC : mroIn K C (.ref C) = some true
  opq : nsIn K cStatics "thirdparty.any" = some none
  sup : ks_superIn K C C "__init__" = some (some (.builtin "ValueError.__init__"))
  top : (P.main.scope.names.lookup ("super" : Str)).isSome = false
  fn : ∃ (qu txt : Str) (oc : Value) (od : Option Addr) (doc pm : Value) (an : Option Addr) (cda : Addr) (ct : Value) (osl : Array (Option Value)) (cc : Addr) (p1 p2 q1 q2 q3 q4 q5 q6 r1 r2 r3 r4 : Pos),
    K.lookup fI = some ⟨oc, od, .func (ksFn "__init__" qu (iA p1 p2) (iB txt q1 q2 q3 q4 q5 q6 r1 r2 r3 r4) iS .none .none doc pm an (.ref cda) ct cc), osl⟩ ∧ codeIn K (.ref cda) qu = true ∧
    (∃ cl cld csl, K.lookup cc = some ⟨cl, cld, .cell (some (.ref C)), csl⟩) ∧ (∃ ccl cdd vs ccs file tf, K.lookup cda = some ⟨ccl, cdd, .fields vs, ccs⟩ ∧ vs[2]? = some (.str file tf) ∧ ((P.main.file : Str) == file) = true) ∧ (q3.endLine == q5.line) = true
theorem one_size (v : Value) : [v].length ≤ sizeLine := by
  rw [sizeLine_eq]
  exact (by decide : 1 ≤ 16777216)
theorem he_of {env : Env} {txt : Str} {q1 q2 q3 q4 q5 : Pos} (hl : (q3.endLine == q5.line) = true) :
    eval (.Call (.Attribute (.Call (.Name "super" q1) [] [] q2) "__init__" q3) [.Constant (.str txt) 0 q4] [] q5) env = (do
      let ov ← attributeBase (.Call (.Name "super" q1) [] [] q2) "__init__" env (eval (.Call (.Name "super" q1) [] [] q2) env)
      standAt q3.atName
      let (f, first) ← holding [ov] (getMethod ov "__init__" (do return (← importBound (.Call (.Name "super" q1) [] [] q2) env).getD true))
      callWith q5 f first (backTo q5 (starEach [.Constant (.str txt) 0 q4] env)) []) := by
  have hp : methodCallPos true (.Call (.Name "super" q1) [] [] q2) env q3 q5 = pure q5 := by
    unfold methodCallPos
    rw [if_pos (by rw [hl]; rfl)]
  show (do
      let ov ← attributeBase (.Call (.Name "super" q1) [] [] q2) "__init__" env (eval (.Call (.Name "super" q1) [] [] q2) env)
      standAt q3.atName
      let (f, first) ← holding [ov] (getMethod ov "__init__" (do return (← importBound (.Call (.Name "super" q1) [] [] q2) env).getD true))
      let p ← methodCallPos true (.Call (.Name "super" q1) [] [] q2) env q3 q5
      callWith p f first (backTo q5 (starEach [.Constant (.str txt) 0 q4] env)) []) = _
  rw [hp]
  rfl
structure InitEnd (h h' : Heap) (x C dx t1 : Addr) (v : Value) : Prop where
  keep : ∀ b o, b ≠ x → h.get? b = some o → h'.get? b = some o
  obj : h'.get? x = some { cls := .ref C, dict := some dx, data := .fields #[.ref t1, .none, .none, .none, .bool false, .none] }
  dbig : h.objs.size ≤ dx
  dne : dx ≠ x
  ns : h'.Ns1 dx (fun y => if y = "value" then some v else none)
structure OwnMade (h h' : Heap) (e C d : Addr) (v : Value) : Prop where
  keep : ∀ b o, h.get? b = some o → h'.get? b = some o
  new : h.objs.size ≤ e
  obj : ∃ oe vs, h'.get? e = some oe ∧ oe.cls = .ref C ∧ oe.dict = some d ∧ oe.data = .fields vs ∧ vs[1]? = some .none ∧ vs[2]? = some .none ∧ vs.size = 6
  dbig : h.objs.size ≤ d
  dne : d ≠ e
  ns : h'.Ns1 d (fun y => if y = "value" then some v else none)
section
variable {prog : Program} {w : World} {A : Around} {E : Value → Shared → Prop} {R : Result → Shared → Prop} {s : Shared} {K : Frag} {mg mb : Str → Option Value} {C fI : Addr} {n : Str}
theorem init (T : Txt prog K mg n C fI) {x t0 : Addr} {v : Value} (X : K.In s.heap) (hG : s.heap.Ns mainGlobals mg) (hB : s.heap.Ns builtinsNs mb) (hb : mb "super" = some (.type "super")) (hlim : s.heap.NoLimit) (hx : s.heap.get? x = some (excO C t0)) (hnx : K.lookup x = none) (hroom : A.depth < recursionLimit)
    (hq : ∀ h' tk t1 dx, InitEnd s.heap h' x C dx t1 v → R (.ok (.ret .none)) { s with heap := h', toks := tk }) :
    codeAny (model prog w) A (.call (.ref fI) ⟨[.ref x, v], []⟩) R s := by
  obtain ⟨qu, txt, oc, od, doc, pm, an, cda, ct, osl, cc, p1, p2, q1, q2, q3, q4, q5, q6, r1, r2, r3, r4, ho, hcd, ⟨cl, cld, csl, hcell⟩, ⟨ccl, cdd, vs, ccs, file, tf, hcode, hvs, hfile⟩, hline⟩ := T.fn
  obtain ⟨nm, q, N, bs, bm, sn, sub, ab, col, dd, k0, k1, k2, k3, k5, hC, hbm⟩ := T.cls
  have hcl : clsIn K C = some { name := nm, bases := bs, mro := .ref C :: bm, ns := N, qualname := q, hasDict := true, slotNames := sn, subclasses := sub, abstract := ab, collection := col, hasDel := false } := by unfold clsIn; rw [hC] <;> rfl
  have hsup := T.sup
  have hxC : x ≠ C := fun z => by
    have y := X _ _ hC
    rw [← z, hx] at y
    cases y
  refine ks_codeAny_call_defAt (fd := ksFn "__init__" qu (iA p1 p2) (iB txt q1 q2 q3 q4 q5 q6 r1 r2 r3 r4) iS .none .none doc pm an (.ref cda) ct cc) (body := iB txt q1 q2 q3 q4 q5 q6 r1 r2 r3 r4) (binds := [("self", .ref x), ("value", v)]) hroom (X _ _ ho) rfl hlim (codeRec_of X hcd) rfl
    (BindsTo.of_eq (by first | rfl | with_unfolding_all rfl)) (by show ∀ x ∈ iS.names, x.2 ≠ NameKind.cell; decide) (by exact locs rfl) (fun h₁ hns k₁ => ?_) rfl rfl rfl
  have hxL : s.heap.objs.size ≠ x := Nat.ne_of_gt (Heap.lt_size hx)
  have X₁ : K.In h₁ := X.keeps k₁
  have hx₁ := k₁ _ _ hx
  have hG₁ := hG.keeps k₁
  have hB₁ := hB.keeps k₁
  -- super().__init__(text)
  show wpAt _ _ _ (execs (iB txt q1 q2 q3 q4 q5 q6 r1 r2 r3 r4) (ksEnv qu iS s.heap.objs.size fI (.ref cda) cc)) _ _ _
  refine ks_wpAt_execs_cons (ks_wpAt_Expr_any (ks_wpAt_MethodCall ?_ (he_of hline)))
  refine ks_wpAt_super_base (env := ksEnv qu iS s.heap.objs.size fI (.ref cda) cc) (ar := { arg := "self", annotation := none, pos := p1 }) rfl rfl (by decide) rfl (X₁ _ _ ho) rfl rfl rfl (X₁ _ _ hcode) rfl hvs hfile T.top ?_
  refine ks_loadName_global rfl rfl (loadGlobal_builtin (env := ksEnv qu iS s.heap.objs.size fI (.ref cda) cc) hG₁ T.noS hB₁ hb ⟨rfl, ?_⟩)
  refine wpAny_loadName_free rfl rfl rfl ⟨_, X₁ _ _ hcell, rfl⟩ ?_
  refine wpAny_loadName_local (v := .ref x) rfl rfl hns (by first | rfl | with_unfolding_all rfl) ?_
  refine ks_wpAny_isType_cls (X₁ _ _ hC) rfl ⟨rfl, ?_⟩
  refine ks_wpAny_call_super (X₁ _ _ hC) rfl hx₁ rfl (fun c e => by cases e) (looks_mroIn X₁ T.mroC) (fun h₂ hso k₂ => ?_)
  have X₂ : K.In h₂ := X₁.keeps k₂
  have I₂ : PySem.W.InstAt h₂ x (excO C t0) C none := ⟨k₂ _ _ hx₁, rfl, rfl, trivial⟩
  have hI : Looks (model prog w) h₂ (isInstance (.ref x) (.type "ValueError")) true := I₂.type.andThen (looks_subIn X₂ T.veC)
  unfold ks_superIn at hsup
  rw [hcl] at hsup
  refine kxs_getMethod kxs_ValueError hso (looks_opaque X₂ T.opq) (l₀ := .ref C :: bm) (fun A Q E s k q => wpAny_bind ((looks_clsIn X₂ hcl) A _ E s k (wpAny_pure q))) rfl X₂ hsup hI hxC (by decide) ?_
  have up₃ : ∀ b o, h₂.get? b = some o → (h₂.push (kxs_mw "ValueError.__init__" x)).get? b = some o := fun b o e => Heap.get?_push_of_some _ e
  have hu : (h₂.push (kxs_mw "ValueError.__init__" x)).get? h₂.objs.size = some (kxs_mw "ValueError.__init__" x) := Heap.get?_push_at rfl rfl
  refine kxs_callWith (i := "ValueError.__init__") (x := x) (by rfl) ?_
  refine evalArgs_plain (spliced_cons (wpAny_Constant_str (k := 0) (pos := q4) (spliced_nil ?_)))
  refine ⟨hu, ?_⟩
  refine wpAny_call (codeAny_of_tree ?_)
  show wpAny _ _ (callAny (.ref h₂.objs.size) ⟨[.str txt _], []⟩) _ _ _
  simp only [callAny]
  refine wpAny_bind (wpAny_load hu ?_)
  simp only [kxs_mw, show (Value.type "method-wrapper" == Value.type "method" || Value.type "method-wrapper" == Value.type "builtin_function_or_method" || Value.type "method-wrapper" == Value.type "method-wrapper") = true by decide, if_true]
  refine KFB.if_so (by decide) ?_
  have hC₃ := up₃ _ _ (X₂ _ _ hC)
  have hx₃ := up₃ _ _ I₂.at_
  refine wpAny_bind (check_bound_init F.excBase_ValueError.toExcCallFacts hC₃ hx₃ rfl ?_)
  refine wpAny_bind (wpAny_pure (wpAny_pure ?_))
  refine ⟨plainId_quiet F.excBase_ValueError.init.plain _, codeAny_builtin F.excBase_ValueError.initEntry ?_⟩
  refine exc_init_tree (cls := .ref C) (t0 := t0) (dv := none) (c2 := .none) (c3 := .none) (b4 := .bool false) hx₃ (one_size _) fun h₄ k₄ hx₄ ht₄ => ?_
  have k14 : ∀ b o, b ≠ x → h₁.get? b = some o → h₄.get? b = some o := fun b o hb e => k₄ b o hb (up₃ _ _ (k₂ _ _ e))
  have k04 : ∀ b o, b ≠ x → s.heap.get? b = some o → h₄.get? b = some o := fun b o hb e => k14 b o hb (k₁ _ _ e)
  have X₄ : K.In h₄ := fun a o e => k04 a o (fun z => by rw [z, hnx] at e; cases e) (X _ _ e)
  have hns₄ : h₄.Ns s.heap.objs.size (fun y => (([("self", .ref x), ("value", v)] : List (Str × Value)).reverse.lookup y)) := by
    obtain ⟨oL, es, ep, hL, r⟩ := hns
    exact ⟨oL, es, ep, k14 _ _ hxL hL, r⟩
  have sz : s.heap.objs.size < h₁.objs.size := hns.lt
  -- self.value = value
  show wpAt _ _ _ _ _ _ _
  refine wpAt_of_wpAny ?_
  refine wpAny_execs_cons (plainObj_wpAny_Assign_Attribute ?_)
  refine ESX.ldL (env := ksEnv qu iS s.heap.objs.size fI (.ref cda) cc) (v := v) hns₄ (by first | rfl | with_unfolding_all rfl | kernel_rfl) (ESX.ldL (env := ksEnv qu iS s.heap.objs.size fI (.ref cda) cc) (v := .ref x) hns₄ (by first | rfl | with_unfolding_all rfl | kernel_rfl) ?_)
  refine set_plain X₄ (ox := excO C (h₂.push (kxs_mw "ValueError.__init__" x)).objs.size) (od := none) ⟨hx₄, rfl, rfl, trivial⟩ T.sa ?_
  refine exc_osa X₄ hx₄ hcl (show refsVE (.ref C :: bm) = true from hbm) rfl T.noN (fun h₅ tk₅ dx k₅ dn dne hx₅ hn₅ => ?_)
  have le4 : h₁.objs.size ≤ h₄.objs.size := by
    have a1 := Heap.lt_size hso
    have a2 := Heap.lt_size ht₄
    have a3 := Heap.lt_size hu
    exact Nat.le_of_lt (Nat.lt_trans a1 (Nat.lt_trans a3 a2))
  exact wpAny_execs_nil (hq h₅ tk₅ _ dx ⟨fun b o hb e => k₅ b o hb (k04 b o hb e), hx₅, Nat.le_of_lt (Nat.lt_of_lt_of_le sz (Nat.le_trans le4 dn)), dne, hn₅⟩)
theorem made (T : Txt prog K mg n C fI) {v : Value} (X : K.In s.heap) (hG : s.heap.Ns mainGlobals mg) (hB : s.heap.Ns builtinsNs mb) (hb : mb "super" = some (.type "super")) (hlim : s.heap.NoLimit) (hroom : A.depth + 1 < recursionLimit)
    (hq : ∀ h' tk e d, OwnMade s.heap h' e C d v → R (.ok (.ret (.ref e))) { s with heap := h', toks := tk }) :
    codeAny (model prog w) A (.call (.ref C) ⟨[v], []⟩) R s := by
  obtain ⟨nm, q, N, bs, bm, sn, sub, ab, col, dd, k0, k1, k2, k3, k5, hC, hbm⟩ := T.cls
  obtain ⟨hp, g, dr, tk, os⟩ := s
  have k : ∀ b o, hp.get? b = some o → ((hp.push (kdv_tup [v])).push (excO C hp.objs.size)).get? b = some o := fun b o e => Heap.get?_push_of_some _ (Heap.get?_push_of_some _ e)
  have hget : ((hp.push (kdv_tup [v])).push (excO C hp.objs.size)).get? (hp.objs.size + 1) = some (excO C hp.objs.size) := by heap_get
  have hnx : K.lookup (hp.objs.size + 1) = none := by
    cases e : K.lookup (hp.objs.size + 1) with
    | none => rfl
    | some o =>
      have z : hp.get? (hp.objs.size + 1) = some o := X _ _ e
      exact absurd (Nat.lt_of_succ_lt (Heap.lt_size z)) (Nat.lt_irrefl _)
  refine call_own F.excBase_ValueError (fun X => refsVE_contains X bm hbm) (X _ _ hC) (looks_findIn X T.iC) (fun self => bind_fn X self T.tC) (one_size v) ?_
  refine init (s := ⟨(hp.push (kdv_tup [v])).push (excO C hp.objs.size), g, dr, tk, os⟩) T (X.keeps k) (hG.keeps k) (hB.keeps k) hb (hlim.keeps k) hget hnx ?_ fun h' tk' t1 dx ⟨k', hx, dn, dne, hns⟩ => ?_
  · show A.depth + 1 < recursionLimit
    exact hroom
  · have old : ∀ b o, hp.get? b = some o → h'.get? b = some o := fun b o e => k' b o (Nat.ne_of_lt (Nat.lt_succ_of_lt (Heap.lt_size e))) (k b o e)
    have z : hp.objs.size + 1 + 1 ≤ dx := by
      first
        | (simpa only [Heap.size_push] using dn)
        | exact dn
        | (have q := dn; rw [Heap.size_push, Heap.size_push] at q; exact q)
    exact ⟨rfl, hq h' tk' (hp.objs.size + 1) dx ⟨old, Nat.le_succ _, ⟨_, _, hx, rfl, rfl, rfl, rfl, rfl, rfl⟩, Nat.le_trans (Nat.le_trans (Nat.le_succ _) (Nat.le_succ _)) z, dne, hns⟩⟩
end
end Sxvalue
end PySem
namespace L2
open PySem PySem.Spec PyProof.Rows
theorem relO_value {v : V} {v' : Value} (r : RelV v v') (f : Str) : RelO (List.lookup f [(("value" : Str), v)]) (if f = "value" then some v' else none) := by
  by_cases hw : f = "value"
  · subst hw
    rw [if_pos rfl]
    have q : List.lookup ("value" : Str) [(("value" : Str), v)] = some v := by simp [List.lookup]
    rw [q]
    exact r
  · rw [if_neg hw]
    have qw : (f == ("value" : Str)) = false := by simpa using hw
    have q2 : List.lookup f [(("value" : Str), v)] = none := by simp [List.lookup, qw]
    rw [q2]
    trivial
section
variable {X : Cx} {C fI : Addr}
/-- x(e) : an exception of the class at C, its dict d new -/
def tMkvalue (C : Addr) (ta : TA) : St → Hp → XK → Prop := fun σ H Q => ta σ H fun vs H1 => ∃ v, vs = [v] ∧ ∀ d, H1 d = none → Q (.ref C) (some d) (upd H1 d (.xd [(("value" : Str), v)]))
theorem pmkvalue {x : Str} {a : Expr} {ta : TA} {p pos : Pos} {k : Nat} (T : PySem.Sxvalue.Txt X.prog X.K X.mg x C fI) (hr : Room k X.A) (ha : PA X [a] ta) (hg : Gl X x := by rfl) (hdb : (x == ("__debug__" : Str)) = false := by decide)
    (he : starEach (a :: []) X.env = (false, eval a X.env) :: starEach [] X.env := by rfl) (hpl : (backTo pos (starEach [] X.env)).any (·.1) = false := by rfl) :
    PMk X (.Call (.Name x p) [a] [] pos) (tMkvalue C ta) := by
  intro pins s σ H Q I h
  refine wpAny_Call_Name_kw (ld_glob I hg T.gC ?_ hdb)
  refine PySem.W.callWith_K (h₀ := X.base) I.ok.mod.kin T.kC (thn (ha.run pos pins s σ H _ I h) fun us s1 hh => ?_) he hpl
  obtain ⟨vs, H1, I1, r1, v, ev, q1⟩ := hh
  subst ev
  refine ⟨I1.kIn, ?_⟩
  cases r1 with
  | cons rv rn =>
    rename_i v' us'
    cases rn
    show wpAny _ _ (call (.ref C) [v']) _ _ _
    have hlim := I1.nolimit
    obtain ⟨mb, b1, b2⟩ := I1.mod.blt
    have hG1 := I1.mod.glob.keeps I1.bk
    have hB1 := b1.keeps I1.bk
    obtain ⟨hp, g, dr, tk, os⟩ := s1
    refine wpAny_call (PySem.Sxvalue.made T I1.kIn hG1 hB1 ((b2 _ (by decide)).trans (by first | boot_by_name | rfl | kernel_rfl)) hlim (by have := hr.dp; omega) fun h' tk' e d M => ?_)
    show MkP X pins σ Q (.ref e) ⟨h', g, dr, tk', os⟩
    obtain ⟨oe, fv, hoe, hc, hd, hdat, h1, _, _⟩ := M.obj
    have hns := M.ns
    obtain ⟨G', g1, g2⟩ := restrict h' fun b => decide (b ≠ e)
    have gk : ∀ b, b ≠ e → G'.get? b = h'.get? b := fun b hb => g1 b (decide_eq_true hb)
    have ge : G'.get? e = none := g2 e (by simp)
    have old : ∀ b o, hp.get? b = some o → G'.get? b = some o := fun b o q => (gk b (Nat.ne_of_lt (Nat.lt_of_lt_of_le (Heap.lt_size q) M.new))).trans (M.keep b o q)
    have ob : ObjOk X.prog X.w (upd H1 d (.xd [(("value" : Str), v)])) G' d (.xd [(("value" : Str), v)]) :=
      ⟨_, hns.at (fun o q => (gk d M.dne).trans q), fun f => relO_value rv f⟩
    have J : Inv X pins σ (upd H1 d (.xd [(("value" : Str), v)])) ⟨G', g, dr, tk', os⟩ := I1.laid (t' := tk') old M.dbig ob
    refine ⟨e, oe, fv, ⟨G', g, dr, tk', os⟩, _, .ref C, some d, rfl, J, fun b o q => ?_, ge, hoe, ⟨hc, hd⟩, hdat, h1, ?_, rfl, I1.bare, raises_own T.exC T.tyC, q1 d (I1.hok.fresh M.dbig)⟩
    · by_cases hb : b = e
      · have q' : G'.get? b = some o := q
        rw [hb, ge] at q'; cases q'
      · exact (gk b hb).symm.trans q
    · rw [upd_ne (Ne.symm M.dne)]
      exact I1.hok.fresh M.new
theorem pmk5value {x : Str} {a : Expr} {ta : TA} {p pos : Pos} {k : Nat} (T : PySem.Sxvalue.Txt X.prog X.K X.mg x C fI) (hr : L2H.RoomH k X.A) (ha : PA X [a] ta) (hg : Gl X x := by rfl) (hdb : (x == ("__debug__" : Str)) = false := by decide)
    (he : starEach (a :: []) X.env = (false, eval a X.env) :: starEach [] X.env := by rfl) (hpl : (backTo pos (starEach [] X.env)).any (·.1) = false := by rfl) :
    L2H.PMk5 X (.Call (.Name x p) [a] [] pos) (tMkvalue C ta) := by
  intro pins s σ H Q I h
  refine wpAny_Call_Name_kw (ld_glob I hg T.gC ?_ hdb)
  refine PySem.W.callWith_K (h₀ := X.base) I.ok.mod.kin T.kC (thn (ha.run pos pins s σ H _ I h) fun us s1 hh => ?_) he hpl
  obtain ⟨vs, H1, I1, r1, v, ev, q1⟩ := hh
  subst ev
  refine ⟨I1.kIn, ?_⟩
  cases r1 with
  | cons rv rn =>
    rename_i v' us'
    cases rn
    show wpAny _ _ (call (.ref C) [v']) _ _ _
    have hlim := I1.nolimit
    obtain ⟨mb, b1, b2⟩ := I1.mod.blt
    have hG1 := I1.mod.glob.keeps I1.bk
    have hB1 := b1.keeps I1.bk
    obtain ⟨hp, g, dr, tk, os⟩ := s1
    refine wpAny_call (PySem.Sxvalue.made T I1.kIn hG1 hB1 ((b2 _ (by decide)).trans (by first | boot_by_name | rfl | kernel_rfl)) hlim (by have := hr.dp; omega) fun h' tk' e d M => ?_)
    show L2N.MkP X pins σ Q (.ref e) ⟨h', g, dr, tk', os⟩ ∧ L2H.Six (.ref e) ⟨h', g, dr, tk', os⟩
    obtain ⟨oe, fv, hoe, hc, hd, hdat, h1, h2, h6⟩ := M.obj
    have hns := M.ns
    obtain ⟨G', g1, g2⟩ := restrict h' fun b => decide (b ≠ e)
    have gk : ∀ b, b ≠ e → G'.get? b = h'.get? b := fun b hb => g1 b (decide_eq_true hb)
    have ge : G'.get? e = none := g2 e (by simp)
    have old : ∀ b o, hp.get? b = some o → G'.get? b = some o := fun b o q => (gk b (Nat.ne_of_lt (Nat.lt_of_lt_of_le (Heap.lt_size q) M.new))).trans (M.keep b o q)
    have ob : ObjOk X.prog X.w (upd H1 d (.xd [(("value" : Str), v)])) G' d (.xd [(("value" : Str), v)]) :=
      ⟨_, hns.at (fun o q => (gk d M.dne).trans q), fun f => relO_value rv f⟩
    have J : Inv X pins σ (upd H1 d (.xd [(("value" : Str), v)])) ⟨G', g, dr, tk', os⟩ := I1.laid (t' := tk') old M.dbig ob
    refine ⟨⟨e, oe, fv, ⟨G', g, dr, tk', os⟩, _, .ref C, some d, rfl, J, fun b o q => ?_, ge, hoe, ⟨hc, hd, fun vs q => by rw [hdat] at q; cases q; exact h2⟩, hdat, h1, ?_, rfl, I1.bare, raises_own T.exC T.tyC, q1 d (I1.hok.fresh M.dbig)⟩, fun a oe2 vs ea hg hd2 => by
      cases ea
      have hg : h'.get? e = some oe2 := hg
      rw [hoe] at hg
      cases hg
      rw [hdat] at hd2
      cases hd2
      omega⟩
    · by_cases hb : b = e
      · have q' : G'.get? b = some o := q
        rw [hb, ge] at q'; cases q'
      · exact (gk b hb).symm.trans q
    · rw [upd_ne (Ne.symm M.dne)]
      exact I1.hok.fresh M.new
/-- raise x(e) -/
def tRaisevalue (C : Addr) (W : WX) (ta : TA) : TS := fun _ σ H => tMkvalue C ta σ H fun cls d H' => W cls d σ H'
theorem ps_raisevalue {x : Str} {a : Expr} {ta : TA} {W : WX} {p pos pos2 : Pos} {k : Nat} (hc : X.calm = true) (T : PySem.Sxvalue.Txt X.prog X.K X.mg x C fI) (hr : Room k X.A) (tk : Takes X W) (ha : PA X [a] ta) (hg : Gl X x := by rfl) (hdb : (x == ("__debug__" : Str)) = false := by decide)
    (he : starEach (a :: []) X.env = (false, eval a X.env) :: starEach [] X.env := by rfl) (hpl : (backTo pos (starEach [] X.env)).any (·.1) = false := by rfl) :
    PS X (.Raise (some (.Call (.Name x p) [a] [] pos)) none pos2) (tRaisevalue C W ta) := ps_raise hc tk (pmkvalue T hr ha hg hdb he hpl)
/-- raise x(e), the exception's context known to be None -/
theorem ps_raiseNvalue {x : Str} {a : Expr} {ta : TA} {W : WX} {p pos pos2 : Pos} {k : Nat} (hc : X.calm = true) (T : PySem.Sxvalue.Txt X.prog X.K X.mg x C fI) (hr : Room k X.A) (tk : L2N.Takes X W) (ha : PA X [a] ta) (hg : Gl X x := by rfl) (hdb : (x == ("__debug__" : Str)) = false := by decide)
    (he : starEach (a :: []) X.env = (false, eval a X.env) :: starEach [] X.env := by rfl) (hpl : (backTo pos (starEach [] X.env)).any (·.1) = false := by rfl) :
    PS X (.Raise (some (.Call (.Name x p) [a] [] pos)) none pos2) (tRaisevalue C W ta) := L2N.ps_raise hc tk (pmk5value T ⟨hr.dp, hr.un⟩ ha hg hdb he hpl).pmk
/-- raise x(e) from None, in an except suite -/
theorem ps_raiseHvalue {x : Str} {a : Expr} {ta : TA} {W : WX} {p pos cpos pos2 : Pos} {k j : Nat} (hot : L2H.HotC X) (T : PySem.Sxvalue.Txt X.prog X.K X.mg x C fI) (hr : L2H.RoomH k X.A) (tk : Takes X W) (ha : PA X [a] ta) (hg : Gl X x := by rfl) (hdb : (x == ("__debug__" : Str)) = false := by decide)
    (he : starEach (a :: []) X.env = (false, eval a X.env) :: starEach [] X.env := by rfl) (hpl : (backTo pos (starEach [] X.env)).any (·.1) = false := by rfl) :
    PS X (.Raise (some (.Call (.Name x p) [a] [] pos)) (some (.Constant .none j cpos)) pos2) (tRaisevalue C W ta) := L2H.ps_raiseHN hot tk (pmk5value T hr ha hg hdb he hpl)
end
end L2

namespace Z
open PySem PySem.Spec PyProof.Rows L2
/-- the init's params, body as the text has them -/
def Chkvalue (P0 : Program) (K : PySem.W.Frag) (x : Str) : Bool :=
  eqB (PySem.W.findIn K (.ref (He.ga K x)) "__setattr__") (some (some (.builtin "object.__setattr__"))) && (eqB (PySem.W.findIn K (.ref (He.ga K x)) "value") (some none) && (clsB K (He.ga K x) && initB P0 K x))
theorem chkvalue_ok {P P0 : Program} {K : PySem.W.Frag} {mg : Str → Option Value} {x : Str} {qu txt : Str} {p1 p2 q1 q2 q3 q4 q5 q6 r1 r2 r3 r4 : Pos} (g : mg x = some (.ref (He.ga K x))) (ns : mg "super" = none)
    (hf : P.main.file = P0.main.file) (hs : (P.main.scope.names.lookup ("super" : Str)).isSome = false)
    (e : fnS K (x, some "__init__") = (some ("__init__", qu, PySem.Sxvalue.iA p1 p2, FuncBody.stmts (PySem.Sxvalue.iB txt q1 q2 q3 q4 q5 q6 r1 r2 r3 r4), PySem.Sxvalue.iS, mainGlobals, [("__class__" : Str)], builtinsNs) : FnS)) (hl : (q3.endLine == q5.line) = true)
    (c : Chkvalue P0 K x = true) : PySem.Sxvalue.Txt P K mg x (He.ga K x) (He.ma K (He.ga K x) "__init__") := by
  obtain ⟨c1, c⟩ := He.ba c
  obtain ⟨c2, c⟩ := He.ba c
  obtain ⟨c3, c4⟩ := He.ba c
  obtain ⟨d1, d2, d3, d4, d5, d6, d7⟩ := initB_ok c4
  obtain ⟨oc, od, osl, doc, pm, an, cda, ct, cc, hL, hq, hcell, hcode⟩ := d7 _ _ _ _ _ e
  obtain ⟨k1, k2, k3, k4, k5, k6, k7⟩ := d6
  exact ⟨g, ns, clsB_ok c3, eqB_ok c1, eqB_ok c2, d1, d2, k1, k2, k3, k4, k5, k6, k7, hs,
    ⟨qu, txt, oc, od, doc, pm, an, cda, ct, osl, cc, p1, p2, q1, q2, q3, q4, q5, q6, r1, r2, r3, r4, hL, hq, hcell, (by rw [hf]; exact hcode), hl⟩⟩
end Z
namespace Z
open PySem PySem.Spec PyProof.Rows L2 Evl
theorem s_raisevalue {C : Addr} {W : WX} {ta : TA} {D : Ends} {σ : L2.St} {H : Hp} (h : ta σ H fun vs H1 => ∃ v, vs = [v] ∧ ∀ d, H1 d = none → W (.ref C) (some d) σ (upd H1 d (.xd [(("value" : Str), v)]))) : tRaisevalue C W ta D σ H := h
theorem rzvalue {K : PySem.W.Frag} {x : Str} {v : V} {H0 H : Hp} {E : XK} (r : Rz K x "value" v H0 E) (e : Ex H0 H) : ∃ v', [v] = [v'] ∧ ∀ d, H d = none → E (.ref (He.ga K x)) (some d) (upd H d (.xd [(("value" : Str), v')])) :=
  ⟨v, rfl, fun d hd => r _ d (e.trans (Ex.new hd)) upd_same⟩
end Z

/-! ### an exception class of the package: `__init__(self, name)` says super().__init__(text), then self.name = name -/
namespace PySem
namespace Sxname
open PySem.W PySem.Calls PyProof.Rows PySem.HandSPX
def iA (p1 p2 : Pos) : Arguments := { posonlyargs := [], args := [{ arg := "self", annotation := none, pos := p1 }, { arg := "name", annotation := none, pos := p2 }], vararg := none, kwonlyargs := [], kw_defaults := [], kwarg := none, defaults := [] }
def iB (txt : Str) (q1 q2 q3 q4 q5 q6 r1 r2 r3 r4 : Pos) : List Stmt := [.Expr (.Call (.Attribute (.Call (.Name "super" q1) [] [] q2) "__init__" q3) [.Constant (.str txt) 0 q4] [] q5) q6, .Assign [.Attribute (.Name "self" r1) "name" r2] (.Name "name" r3) r4]
def iS : Scope := { kind := .function, names := [(PySem.Str.ofString "self", .local), (PySem.Str.ofString "name", .local), (PySem.Str.ofString "__class__", .free), (PySem.Str.ofString "super", .globalImplicit)], isGenerator := false, isCoroutine := false, more := [] }
/-- what the written part says of the class x at C, of its `__init__` at fI -/
structure Txt (P : Program) (K : Frag) (mg : Str → Option Value) (x : Str) (C fI : Addr) : Prop where
  gC : mg x = some (.ref C)
  noS : mg "super" = none
  cls : ∃ nm q N bs bm sn sub ab col dd k0 k1 k2 k3 k5, K.lookup C = some (excClassObj nm q C N bs bm true sn sub ab col dd k0 k1 k2 k3 k5 "ValueError.__new__") ∧ refsVE bm = true
  sa : findIn K (.ref C) "__setattr__" = some (some (.builtin "object.__setattr__"))
  noN : findIn K (.ref C) "name" = some none
  iC : findIn K (.ref C) "__init__" = some (some (.ref fI))
  tC : typeIn K (.ref fI) = some (.type "function")
  kC : keepIn K (.ref C) = true
  exC : subIn K (.ref C) (.type "BaseException") = some true
  veC : subIn K (.ref C) (.type "ValueError") = some true
  tyC : typeIn K (.ref C) = some (.type "type")
  mroC : mroIn K C (.ref C) = some true
  opq : nsIn K cStatics "thirdparty.any" = some none
  sup : ks_superIn K C C "__init__" = some (some (.builtin "ValueError.__init__"))
  top : (P.main.scope.names.lookup ("super" : Str)).isSome = false
  fn : ∃ (qu txt : Str) (oc : Value) (od : Option Addr) (doc pm : Value) (an : Option Addr) (cda : Addr) (ct : Value) (osl : Array (Option Value)) (cc : Addr) (p1 p2 q1 q2 q3 q4 q5 q6 r1 r2 r3 r4 : Pos),
    K.lookup fI = some ⟨oc, od, .func (ksFn "__init__" qu (iA p1 p2) (iB txt q1 q2 q3 q4 q5 q6 r1 r2 r3 r4) iS .none .none doc pm an (.ref cda) ct cc), osl⟩ ∧ codeIn K (.ref cda) qu = true ∧
    (∃ cl cld csl, K.lookup cc = some ⟨cl, cld, .cell (some (.ref C)), csl⟩) ∧ (∃ ccl cdd vs ccs file tf, K.lookup cda = some ⟨ccl, cdd, .fields vs, ccs⟩ ∧ vs[2]? = some (.str file tf) ∧ ((P.main.file : Str) == file) = true) ∧ (q3.endLine == q5.line) = true
theorem one_size (v : Value) : [v].length ≤ sizeLine := by
  rw [sizeLine_eq]
  exact (by decide : 1 ≤ 16777216)
theorem he_of {env : Env} {txt : Str} {q1 q2 q3 q4 q5 : Pos} (hl : (q3.endLine == q5.line) = true) :
    eval (.Call (.Attribute (.Call (.Name "super" q1) [] [] q2) "__init__" q3) [.Constant (.str txt) 0 q4] [] q5) env = (do
      let ov ← attributeBase (.Call (.Name "super" q1) [] [] q2) "__init__" env (eval (.Call (.Name "super" q1) [] [] q2) env)
      standAt q3.atName
      let (f, first) ← holding [ov] (getMethod ov "__init__" (do return (← importBound (.Call (.Name "super" q1) [] [] q2) env).getD true))
      callWith q5 f first (backTo q5 (starEach [.Constant (.str txt) 0 q4] env)) []) := by
  have hp : methodCallPos true (.Call (.Name "super" q1) [] [] q2) env q3 q5 = pure q5 := by
    unfold methodCallPos
    rw [if_pos (by rw [hl]; rfl)]
  show (do
      let ov ← attributeBase (.Call (.Name "super" q1) [] [] q2) "__init__" env (eval (.Call (.Name "super" q1) [] [] q2) env)
      standAt q3.atName
      let (f, first) ← holding [ov] (getMethod ov "__init__" (do return (← importBound (.Call (.Name "super" q1) [] [] q2) env).getD true))
      let p ← methodCallPos true (.Call (.Name "super" q1) [] [] q2) env q3 q5
      callWith p f first (backTo q5 (starEach [.Constant (.str txt) 0 q4] env)) []) = _
  rw [hp]
  rfl
structure InitEnd (h h' : Heap) (x C dx t1 : Addr) (v : Value) : Prop where
  keep : ∀ b o, b ≠ x → h.get? b = some o → h'.get? b = some o
  obj : h'.get? x = some { cls := .ref C, dict := some dx, data := .fields #[.ref t1, .none, .none, .none, .bool false, .none] }
  dbig : h.objs.size ≤ dx
  dne : dx ≠ x
  ns : h'.Ns1 dx (fun y => if y = "name" then some v else none)
structure OwnMade (h h' : Heap) (e C d : Addr) (v : Value) : Prop where
  keep : ∀ b o, h.get? b = some o → h'.get? b = some o
  new : h.objs.size ≤ e
  obj : ∃ oe vs, h'.get? e = some oe ∧ oe.cls = .ref C ∧ oe.dict = some d ∧ oe.data = .fields vs ∧ vs[1]? = some .none ∧ vs[2]? = some .none ∧ vs.size = 6
  dbig : h.objs.size ≤ d
  dne : d ≠ e
  ns : h'.Ns1 d (fun y => if y = "name" then some v else none)
section
variable {prog : Program} {w : World} {A : Around} {E : Value → Shared → Prop} {R : Result → Shared → Prop} {s : Shared} {K : Frag} {mg mb : Str → Option Value} {C fI : Addr} {n : Str}
theorem init (T : Txt prog K mg n C fI) {x t0 : Addr} {v : Value} (X : K.In s.heap) (hG : s.heap.Ns mainGlobals mg) (hB : s.heap.Ns builtinsNs mb) (hb : mb "super" = some (.type "super")) (hlim : s.heap.NoLimit) (hx : s.heap.get? x = some (excO C t0)) (hnx : K.lookup x = none) (hroom : A.depth < recursionLimit)
    (hq : ∀ h' tk t1 dx, InitEnd s.heap h' x C dx t1 v → R (.ok (.ret .none)) { s with heap := h', toks := tk }) :
    codeAny (model prog w) A (.call (.ref fI) ⟨[.ref x, v], []⟩) R s := by
  obtain ⟨qu, txt, oc, od, doc, pm, an, cda, ct, osl, cc, p1, p2, q1, q2, q3, q4, q5, q6, r1, r2, r3, r4, ho, hcd, ⟨cl, cld, csl, hcell⟩, ⟨ccl, cdd, vs, ccs, file, tf, hcode, hvs, hfile⟩, hline⟩ := T.fn
  obtain ⟨nm, q, N, bs, bm, sn, sub, ab, col, dd, k0, k1, k2, k3, k5, hC, hbm⟩ := T.cls
  have hcl : clsIn K C = some { name := nm, bases := bs, mro := .ref C :: bm, ns := N, qualname := q, hasDict := true, slotNames := sn, subclasses := sub, abstract := ab, collection := col, hasDel := false } := by unfold clsIn; rw [hC] <;> rfl
  have hsup := T.sup
  have hxC : x ≠ C := fun z => by
    have y := X _ _ hC
    rw [← z, hx] at y
    cases y
  refine ks_codeAny_call_defAt (fd := ksFn "__init__" qu (iA p1 p2) (iB txt q1 q2 q3 q4 q5 q6 r1 r2 r3 r4) iS .none .none doc pm an (.ref cda) ct cc) (body := iB txt q1 q2 q3 q4 q5 q6 r1 r2 r3 r4) (binds := [("self", .ref x), ("name", v)]) hroom (X _ _ ho) rfl hlim (codeRec_of X hcd) rfl
    (BindsTo.of_eq (by first | rfl | with_unfolding_all rfl)) (by show ∀ x ∈ iS.names, x.2 ≠ NameKind.cell; decide) (by exact locs rfl) (fun h₁ hns k₁ => ?_) rfl rfl rfl
  have hxL : s.heap.objs.size ≠ x := Nat.ne_of_gt (Heap.lt_size hx)
  have X₁ : K.In h₁ := X.keeps k₁
  have hx₁ := k₁ _ _ hx
  have hG₁ := hG.keeps k₁
  have hB₁ := hB.keeps k₁
  -- super().__init__(text)
  show wpAt _ _ _ (execs (iB txt q1 q2 q3 q4 q5 q6 r1 r2 r3 r4) (ksEnv qu iS s.heap.objs.size fI (.ref cda) cc)) _ _ _
  refine ks_wpAt_execs_cons (ks_wpAt_Expr_any (ks_wpAt_MethodCall ?_ (he_of hline)))
  refine ks_wpAt_super_base (env := ksEnv qu iS s.heap.objs.size fI (.ref cda) cc) (ar := { arg := "self", annotation := none, pos := p1 }) rfl rfl (by decide) rfl (X₁ _ _ ho) rfl rfl rfl (X₁ _ _ hcode) rfl hvs hfile T.top ?_
  refine ks_loadName_global rfl rfl (loadGlobal_builtin (env := ksEnv qu iS s.heap.objs.size fI (.ref cda) cc) hG₁ T.noS hB₁ hb ⟨rfl, ?_⟩)
  refine wpAny_loadName_free rfl rfl rfl ⟨_, X₁ _ _ hcell, rfl⟩ ?_
  refine wpAny_loadName_local (v := .ref x) rfl rfl hns (by first | rfl | with_unfolding_all rfl) ?_
  refine ks_wpAny_isType_cls (X₁ _ _ hC) rfl ⟨rfl, ?_⟩
  refine ks_wpAny_call_super (X₁ _ _ hC) rfl hx₁ rfl (fun c e => by cases e) (looks_mroIn X₁ T.mroC) (fun h₂ hso k₂ => ?_)
  have X₂ : K.In h₂ := X₁.keeps k₂
  have I₂ : PySem.W.InstAt h₂ x (excO C t0) C none := ⟨k₂ _ _ hx₁, rfl, rfl, trivial⟩
  have hI : Looks (model prog w) h₂ (isInstance (.ref x) (.type "ValueError")) true := I₂.type.andThen (looks_subIn X₂ T.veC)
  unfold ks_superIn at hsup
  rw [hcl] at hsup
  refine kxs_getMethod kxs_ValueError hso (looks_opaque X₂ T.opq) (l₀ := .ref C :: bm) (fun A Q E s k q => wpAny_bind ((looks_clsIn X₂ hcl) A _ E s k (wpAny_pure q))) rfl X₂ hsup hI hxC (by decide) ?_
  have up₃ : ∀ b o, h₂.get? b = some o → (h₂.push (kxs_mw "ValueError.__init__" x)).get? b = some o := fun b o e => Heap.get?_push_of_some _ e
  have hu : (h₂.push (kxs_mw "ValueError.__init__" x)).get? h₂.objs.size = some (kxs_mw "ValueError.__init__" x) := Heap.get?_push_at rfl rfl
  refine kxs_callWith (i := "ValueError.__init__") (x := x) (by rfl) ?_
  refine evalArgs_plain (spliced_cons (wpAny_Constant_str (k := 0) (pos := q4) (spliced_nil ?_)))
  refine ⟨hu, ?_⟩
  refine wpAny_call (codeAny_of_tree ?_)
  show wpAny _ _ (callAny (.ref h₂.objs.size) ⟨[.str txt _], []⟩) _ _ _
  simp only [callAny]
  refine wpAny_bind (wpAny_load hu ?_)
  simp only [kxs_mw, show (Value.type "method-wrapper" == Value.type "method" || Value.type "method-wrapper" == Value.type "builtin_function_or_method" || Value.type "method-wrapper" == Value.type "method-wrapper") = true by decide, if_true]
  refine KFB.if_so (by decide) ?_
  have hC₃ := up₃ _ _ (X₂ _ _ hC)
  have hx₃ := up₃ _ _ I₂.at_
  refine wpAny_bind (check_bound_init F.excBase_ValueError.toExcCallFacts hC₃ hx₃ rfl ?_)
  refine wpAny_bind (wpAny_pure (wpAny_pure ?_))
  refine ⟨plainId_quiet F.excBase_ValueError.init.plain _, codeAny_builtin F.excBase_ValueError.initEntry ?_⟩
  refine exc_init_tree (cls := .ref C) (t0 := t0) (dv := none) (c2 := .none) (c3 := .none) (b4 := .bool false) hx₃ (one_size _) fun h₄ k₄ hx₄ ht₄ => ?_
  have k14 : ∀ b o, b ≠ x → h₁.get? b = some o → h₄.get? b = some o := fun b o hb e => k₄ b o hb (up₃ _ _ (k₂ _ _ e))
  have k04 : ∀ b o, b ≠ x → s.heap.get? b = some o → h₄.get? b = some o := fun b o hb e => k14 b o hb (k₁ _ _ e)
  have X₄ : K.In h₄ := fun a o e => k04 a o (fun z => by rw [z, hnx] at e; cases e) (X _ _ e)
  have hns₄ : h₄.Ns s.heap.objs.size (fun y => (([("self", .ref x), ("name", v)] : List (Str × Value)).reverse.lookup y)) := by
    obtain ⟨oL, es, ep, hL, r⟩ := hns
    exact ⟨oL, es, ep, k14 _ _ hxL hL, r⟩
  have sz : s.heap.objs.size < h₁.objs.size := hns.lt
  -- self.name = name
  show wpAt _ _ _ _ _ _ _
  refine wpAt_of_wpAny ?_
  refine wpAny_execs_cons (plainObj_wpAny_Assign_Attribute ?_)
  refine ESX.ldL (env := ksEnv qu iS s.heap.objs.size fI (.ref cda) cc) (v := v) hns₄ (by first | rfl | with_unfolding_all rfl | kernel_rfl) (ESX.ldL (env := ksEnv qu iS s.heap.objs.size fI (.ref cda) cc) (v := .ref x) hns₄ (by first | rfl | with_unfolding_all rfl | kernel_rfl) ?_)
  refine set_plain X₄ (ox := excO C (h₂.push (kxs_mw "ValueError.__init__" x)).objs.size) (od := none) ⟨hx₄, rfl, rfl, trivial⟩ T.sa ?_
  refine exc_osa X₄ hx₄ hcl (show refsVE (.ref C :: bm) = true from hbm) rfl T.noN (fun h₅ tk₅ dx k₅ dn dne hx₅ hn₅ => ?_)
  have le4 : h₁.objs.size ≤ h₄.objs.size := by
    have a1 := Heap.lt_size hso
    have a2 := Heap.lt_size ht₄
    have a3 := Heap.lt_size hu
    exact Nat.le_of_lt (Nat.lt_trans a1 (Nat.lt_trans a3 a2))
  exact wpAny_execs_nil (hq h₅ tk₅ _ dx ⟨fun b o hb e => k₅ b o hb (k04 b o hb e), hx₅, Nat.le_of_lt (Nat.lt_of_lt_of_le sz (Nat.le_trans le4 dn)), dne, hn₅⟩)
theorem made (T : Txt prog K mg n C fI) {v : Value} (X : K.In s.heap) (hG : s.heap.Ns mainGlobals mg) (hB : s.heap.Ns builtinsNs mb) (hb : mb "super" = some (.type "super")) (hlim : s.heap.NoLimit) (hroom : A.depth + 1 < recursionLimit)
    (hq : ∀ h' tk e d, OwnMade s.heap h' e C d v → R (.ok (.ret (.ref e))) { s with heap := h', toks := tk }) :
    codeAny (model prog w) A (.call (.ref C) ⟨[v], []⟩) R s := by
  obtain ⟨nm, q, N, bs, bm, sn, sub, ab, col, dd, k0, k1, k2, k3, k5, hC, hbm⟩ := T.cls
  obtain ⟨hp, g, dr, tk, os⟩ := s
  have k : ∀ b o, hp.get? b = some o → ((hp.push (kdv_tup [v])).push (excO C hp.objs.size)).get? b = some o := fun b o e => Heap.get?_push_of_some _ (Heap.get?_push_of_some _ e)
  have hget : ((hp.push (kdv_tup [v])).push (excO C hp.objs.size)).get? (hp.objs.size + 1) = some (excO C hp.objs.size) := by heap_get
  have hnx : K.lookup (hp.objs.size + 1) = none := by
    cases e : K.lookup (hp.objs.size + 1) with
    | none => rfl
    | some o =>
      have z : hp.get? (hp.objs.size + 1) = some o := X _ _ e
      exact absurd (Nat.lt_of_succ_lt (Heap.lt_size z)) (Nat.lt_irrefl _)
  refine call_own F.excBase_ValueError (fun X => refsVE_contains X bm hbm) (X _ _ hC) (looks_findIn X T.iC) (fun self => bind_fn X self T.tC) (one_size v) ?_
  refine init (s := ⟨(hp.push (kdv_tup [v])).push (excO C hp.objs.size), g, dr, tk, os⟩) T (X.keeps k) (hG.keeps k) (hB.keeps k) hb (hlim.keeps k) hget hnx ?_ fun h' tk' t1 dx ⟨k', hx, dn, dne, hns⟩ => ?_
  · show A.depth + 1 < recursionLimit
    exact hroom
  · have old : ∀ b o, hp.get? b = some o → h'.get? b = some o := fun b o e => k' b o (Nat.ne_of_lt (Nat.lt_succ_of_lt (Heap.lt_size e))) (k b o e)
    have z : hp.objs.size + 1 + 1 ≤ dx := by
      first
        | (simpa only [Heap.size_push] using dn)
        | exact dn
        | (have q := dn; rw [Heap.size_push, Heap.size_push] at q; exact q)
    exact ⟨rfl, hq h' tk' (hp.objs.size + 1) dx ⟨old, Nat.le_succ _, ⟨_, _, hx, rfl, rfl, rfl, rfl, rfl, rfl⟩, Nat.le_trans (Nat.le_trans (Nat.le_succ _) (Nat.le_succ _)) z, dne, hns⟩⟩
end
end Sxname
end PySem
namespace L2
open PySem PySem.Spec PyProof.Rows
theorem relO_name {v : V} {v' : Value} (r : RelV v v') (f : Str) : RelO (List.lookup f [(("name" : Str), v)]) (if f = "name" then some v' else none) := by
  by_cases hw : f = "name"
  · subst hw
    rw [if_pos rfl]
    have q : List.lookup ("name" : Str) [(("name" : Str), v)] = some v := by simp [List.lookup]
    rw [q]
    exact r
  · rw [if_neg hw]
    have qw : (f == ("name" : Str)) = false := by simpa using hw
    have q2 : List.lookup f [(("name" : Str), v)] = none := by simp [List.lookup, qw]
    rw [q2]
    trivial
section
variable {X : Cx} {C fI : Addr}
/-- x(e) : an exception of the class at C, its dict d new -/
def tMkname (C : Addr) (ta : TA) : St → Hp → XK → Prop := fun σ H Q => ta σ H fun vs H1 => ∃ v, vs = [v] ∧ ∀ d, H1 d = none → Q (.ref C) (some d) (upd H1 d (.xd [(("name" : Str), v)]))
theorem pmkname {x : Str} {a : Expr} {ta : TA} {p pos : Pos} {k : Nat} (T : PySem.Sxname.Txt X.prog X.K X.mg x C fI) (hr : Room k X.A) (ha : PA X [a] ta) (hg : Gl X x := by rfl) (hdb : (x == ("__debug__" : Str)) = false := by decide)
    (he : starEach (a :: []) X.env = (false, eval a X.env) :: starEach [] X.env := by rfl) (hpl : (backTo pos (starEach [] X.env)).any (·.1) = false := by rfl) :
    PMk X (.Call (.Name x p) [a] [] pos) (tMkname C ta) := by
  intro pins s σ H Q I h
  refine wpAny_Call_Name_kw (ld_glob I hg T.gC ?_ hdb)
  refine PySem.W.callWith_K (h₀ := X.base) I.ok.mod.kin T.kC (thn (ha.run pos pins s σ H _ I h) fun us s1 hh => ?_) he hpl
  obtain ⟨vs, H1, I1, r1, v, ev, q1⟩ := hh
  subst ev
  refine ⟨I1.kIn, ?_⟩
  cases r1 with
  | cons rv rn =>
    rename_i v' us'
    cases rn
    show wpAny _ _ (call (.ref C) [v']) _ _ _
    have hlim := I1.nolimit
    obtain ⟨mb, b1, b2⟩ := I1.mod.blt
    have hG1 := I1.mod.glob.keeps I1.bk
    have hB1 := b1.keeps I1.bk
    obtain ⟨hp, g, dr, tk, os⟩ := s1
    refine wpAny_call (PySem.Sxname.made T I1.kIn hG1 hB1 ((b2 _ (by decide)).trans (by first | boot_by_name | rfl | kernel_rfl)) hlim (by have := hr.dp; omega) fun h' tk' e d M => ?_)
    show MkP X pins σ Q (.ref e) ⟨h', g, dr, tk', os⟩
    obtain ⟨oe, fv, hoe, hc, hd, hdat, h1, _, _⟩ := M.obj
    have hns := M.ns
    obtain ⟨G', g1, g2⟩ := restrict h' fun b => decide (b ≠ e)
    have gk : ∀ b, b ≠ e → G'.get? b = h'.get? b := fun b hb => g1 b (decide_eq_true hb)
    have ge : G'.get? e = none := g2 e (by simp)
    have old : ∀ b o, hp.get? b = some o → G'.get? b = some o := fun b o q => (gk b (Nat.ne_of_lt (Nat.lt_of_lt_of_le (Heap.lt_size q) M.new))).trans (M.keep b o q)
    have ob : ObjOk X.prog X.w (upd H1 d (.xd [(("name" : Str), v)])) G' d (.xd [(("name" : Str), v)]) :=
      ⟨_, hns.at (fun o q => (gk d M.dne).trans q), fun f => relO_name rv f⟩
    have J : Inv X pins σ (upd H1 d (.xd [(("name" : Str), v)])) ⟨G', g, dr, tk', os⟩ := I1.laid (t' := tk') old M.dbig ob
    refine ⟨e, oe, fv, ⟨G', g, dr, tk', os⟩, _, .ref C, some d, rfl, J, fun b o q => ?_, ge, hoe, ⟨hc, hd⟩, hdat, h1, ?_, rfl, I1.bare, raises_own T.exC T.tyC, q1 d (I1.hok.fresh M.dbig)⟩
    · by_cases hb : b = e
      · have q' : G'.get? b = some o := q
        rw [hb, ge] at q'; cases q'
      · exact (gk b hb).symm.trans q
    · rw [upd_ne (Ne.symm M.dne)]
      exact I1.hok.fresh M.new
theorem pmk5name {x : Str} {a : Expr} {ta : TA} {p pos : Pos} {k : Nat} (T : PySem.Sxname.Txt X.prog X.K X.mg x C fI) (hr : L2H.RoomH k X.A) (ha : PA X [a] ta) (hg : Gl X x := by rfl) (hdb : (x == ("__debug__" : Str)) = false := by decide)
    (he : starEach (a :: []) X.env = (false, eval a X.env) :: starEach [] X.env := by rfl) (hpl : (backTo pos (starEach [] X.env)).any (·.1) = false := by rfl) :
    L2H.PMk5 X (.Call (.Name x p) [a] [] pos) (tMkname C ta) := by
  intro pins s σ H Q I h
  refine wpAny_Call_Name_kw (ld_glob I hg T.gC ?_ hdb)
  refine PySem.W.callWith_K (h₀ := X.base) I.ok.mod.kin T.kC (thn (ha.run pos pins s σ H _ I h) fun us s1 hh => ?_) he hpl
  obtain ⟨vs, H1, I1, r1, v, ev, q1⟩ := hh
  subst ev
  refine ⟨I1.kIn, ?_⟩
  cases r1 with
  | cons rv rn =>
    rename_i v' us'
    cases rn
    show wpAny _ _ (call (.ref C) [v']) _ _ _
    have hlim := I1.nolimit
    obtain ⟨mb, b1, b2⟩ := I1.mod.blt
    have hG1 := I1.mod.glob.keeps I1.bk
    have hB1 := b1.keeps I1.bk
    obtain ⟨hp, g, dr, tk, os⟩ := s1
    refine wpAny_call (PySem.Sxname.made T I1.kIn hG1 hB1 ((b2 _ (by decide)).trans (by first | boot_by_name | rfl | kernel_rfl)) hlim (by have := hr.dp; omega) fun h' tk' e d M => ?_)
    show L2N.MkP X pins σ Q (.ref e) ⟨h', g, dr, tk', os⟩ ∧ L2H.Six (.ref e) ⟨h', g, dr, tk', os⟩
    obtain ⟨oe, fv, hoe, hc, hd, hdat, h1, h2, h6⟩ := M.obj
    have hns := M.ns
    obtain ⟨G', g1, g2⟩ := restrict h' fun b => decide (b ≠ e)
    have gk : ∀ b, b ≠ e → G'.get? b = h'.get? b := fun b hb => g1 b (decide_eq_true hb)
    have ge : G'.get? e = none := g2 e (by simp)
    have old : ∀ b o, hp.get? b = some o → G'.get? b = some o := fun b o q => (gk b (Nat.ne_of_lt (Nat.lt_of_lt_of_le (Heap.lt_size q) M.new))).trans (M.keep b o q)
    have ob : ObjOk X.prog X.w (upd H1 d (.xd [(("name" : Str), v)])) G' d (.xd [(("name" : Str), v)]) :=
      ⟨_, hns.at (fun o q => (gk d M.dne).trans q), fun f => relO_name rv f⟩
    have J : Inv X pins σ (upd H1 d (.xd [(("name" : Str), v)])) ⟨G', g, dr, tk', os⟩ := I1.laid (t' := tk') old M.dbig ob
    refine ⟨⟨e, oe, fv, ⟨G', g, dr, tk', os⟩, _, .ref C, some d, rfl, J, fun b o q => ?_, ge, hoe, ⟨hc, hd, fun vs q => by rw [hdat] at q; cases q; exact h2⟩, hdat, h1, ?_, rfl, I1.bare, raises_own T.exC T.tyC, q1 d (I1.hok.fresh M.dbig)⟩, fun a oe2 vs ea hg hd2 => by
      cases ea
      have hg : h'.get? e = some oe2 := hg
      rw [hoe] at hg
      cases hg
      rw [hdat] at hd2
      cases hd2
      omega⟩
    · by_cases hb : b = e
      · have q' : G'.get? b = some o := q
        rw [hb, ge] at q'; cases q'
      · exact (gk b hb).symm.trans q
    · rw [upd_ne (Ne.symm M.dne)]
      exact I1.hok.fresh M.new
/-- raise x(e) -/
def tRaisename (C : Addr) (W : WX) (ta : TA) : TS := fun _ σ H => tMkname C ta σ H fun cls d H' => W cls d σ H'
theorem ps_raisename {x : Str} {a : Expr} {ta : TA} {W : WX} {p pos pos2 : Pos} {k : Nat} (hc : X.calm = true) (T : PySem.Sxname.Txt X.prog X.K X.mg x C fI) (hr : Room k X.A) (tk : Takes X W) (ha : PA X [a] ta) (hg : Gl X x := by rfl) (hdb : (x == ("__debug__" : Str)) = false := by decide)
    (he : starEach (a :: []) X.env = (false, eval a X.env) :: starEach [] X.env := by rfl) (hpl : (backTo pos (starEach [] X.env)).any (·.1) = false := by rfl) :
    PS X (.Raise (some (.Call (.Name x p) [a] [] pos)) none pos2) (tRaisename C W ta) := ps_raise hc tk (pmkname T hr ha hg hdb he hpl)
/-- raise x(e), the exception's context known to be None -/
theorem ps_raiseNname {x : Str} {a : Expr} {ta : TA} {W : WX} {p pos pos2 : Pos} {k : Nat} (hc : X.calm = true) (T : PySem.Sxname.Txt X.prog X.K X.mg x C fI) (hr : Room k X.A) (tk : L2N.Takes X W) (ha : PA X [a] ta) (hg : Gl X x := by rfl) (hdb : (x == ("__debug__" : Str)) = false := by decide)
    (he : starEach (a :: []) X.env = (false, eval a X.env) :: starEach [] X.env := by rfl) (hpl : (backTo pos (starEach [] X.env)).any (·.1) = false := by rfl) :
    PS X (.Raise (some (.Call (.Name x p) [a] [] pos)) none pos2) (tRaisename C W ta) := L2N.ps_raise hc tk (pmk5name T ⟨hr.dp, hr.un⟩ ha hg hdb he hpl).pmk
/-- raise x(e) from None, in an except suite -/
theorem ps_raiseHname {x : Str} {a : Expr} {ta : TA} {W : WX} {p pos cpos pos2 : Pos} {k j : Nat} (hot : L2H.HotC X) (T : PySem.Sxname.Txt X.prog X.K X.mg x C fI) (hr : L2H.RoomH k X.A) (tk : Takes X W) (ha : PA X [a] ta) (hg : Gl X x := by rfl) (hdb : (x == ("__debug__" : Str)) = false := by decide)
    (he : starEach (a :: []) X.env = (false, eval a X.env) :: starEach [] X.env := by rfl) (hpl : (backTo pos (starEach [] X.env)).any (·.1) = false := by rfl) :
    PS X (.Raise (some (.Call (.Name x p) [a] [] pos)) (some (.Constant .none j cpos)) pos2) (tRaisename C W ta) := L2H.ps_raiseHN hot tk (pmk5name T hr ha hg hdb he hpl)
end
end L2

namespace Z
open PySem PySem.Spec PyProof.Rows L2
/-- the init's params, body as the text has them -/
def Chkname (P0 : Program) (K : PySem.W.Frag) (x : Str) : Bool :=
  eqB (PySem.W.findIn K (.ref (He.ga K x)) "__setattr__") (some (some (.builtin "object.__setattr__"))) && (eqB (PySem.W.findIn K (.ref (He.ga K x)) "name") (some none) && (clsB K (He.ga K x) && initB P0 K x))
theorem chkname_ok {P P0 : Program} {K : PySem.W.Frag} {mg : Str → Option Value} {x : Str} {qu txt : Str} {p1 p2 q1 q2 q3 q4 q5 q6 r1 r2 r3 r4 : Pos} (g : mg x = some (.ref (He.ga K x))) (ns : mg "super" = none)
    (hf : P.main.file = P0.main.file) (hs : (P.main.scope.names.lookup ("super" : Str)).isSome = false)
    (e : fnS K (x, some "__init__") = (some ("__init__", qu, PySem.Sxname.iA p1 p2, FuncBody.stmts (PySem.Sxname.iB txt q1 q2 q3 q4 q5 q6 r1 r2 r3 r4), PySem.Sxname.iS, mainGlobals, [("__class__" : Str)], builtinsNs) : FnS)) (hl : (q3.endLine == q5.line) = true)
    (c : Chkname P0 K x = true) : PySem.Sxname.Txt P K mg x (He.ga K x) (He.ma K (He.ga K x) "__init__") := by
  obtain ⟨c1, c⟩ := He.ba c
  obtain ⟨c2, c⟩ := He.ba c
  obtain ⟨c3, c4⟩ := He.ba c
  obtain ⟨d1, d2, d3, d4, d5, d6, d7⟩ := initB_ok c4
  obtain ⟨oc, od, osl, doc, pm, an, cda, ct, cc, hL, hq, hcell, hcode⟩ := d7 _ _ _ _ _ e
  obtain ⟨k1, k2, k3, k4, k5, k6, k7⟩ := d6
  exact ⟨g, ns, clsB_ok c3, eqB_ok c1, eqB_ok c2, d1, d2, k1, k2, k3, k4, k5, k6, k7, hs,
    ⟨qu, txt, oc, od, doc, pm, an, cda, ct, osl, cc, p1, p2, q1, q2, q3, q4, q5, q6, r1, r2, r3, r4, hL, hq, hcell, (by rw [hf]; exact hcode), hl⟩⟩
end Z
namespace Z
open PySem PySem.Spec PyProof.Rows L2 Evl
theorem s_raisename {C : Addr} {W : WX} {ta : TA} {D : Ends} {σ : L2.St} {H : Hp} (h : ta σ H fun vs H1 => ∃ v, vs = [v] ∧ ∀ d, H1 d = none → W (.ref C) (some d) σ (upd H1 d (.xd [(("name" : Str), v)]))) : tRaisename C W ta D σ H := h
theorem rzname {K : PySem.W.Frag} {x : Str} {v : V} {H0 H : Hp} {E : XK} (r : Rz K x "name" v H0 E) (e : Ex H0 H) : ∃ v', [v] = [v'] ∧ ∀ d, H d = none → E (.ref (He.ga K x)) (some d) (upd H d (.xd [(("name" : Str), v')])) :=
  ⟨v, rfl, fun d hd => r _ d (e.trans (Ex.new hd)) upd_same⟩
end Z

/-! ### a, *b = a tuple or list -/
namespace Z
open PySem PySem.Spec PySem.Calls PyProof.Rows L2 Evl
section
variable {prog : Program} {w : World} {A : Around} {E : Value → Shared → Prop} {s : Shared}
theorem star_tup {l : Addr} {items : Array Value} {n i : Nat} {Q : List Value → Shared → Prop} (hl : IsTup s.heap l items) (hh : A.handled = none) (hi : i < n) (hn : n ≤ items.size + 1) (hz : items.size ≤ 16384)
    (h : ∀ (h₂ : Heap) (tk : Nat), (∀ b o, s.heap.get? b = some o → h₂.get? b = some o) →
      Q (items.toList.take i ++ [.ref h₂.objs.size] ++ (items.toList.drop i).drop (items.size + 1 - n)) { s with heap := h₂.push { cls := .type "list", data := .seq ((items.toList.drop i).take (items.size + 1 - n)).toArray }, toks := tk }) : wpAny (model prog w) A (unpackItems (.ref l) n (some i)) Q E s := by
  have hlt : l ≠ s.heap.objs.size := by obtain ⟨o, ho, _⟩ := hl; exact Nat.ne_of_lt (Heap.lt_size ho)
  unfold unpackItems
  refine wpAny_bind ?_
  unfold notIterableAtAll
  refine wpAny_bind (wpAny_specialOf hl.typeIs slot_tuple_iter.lookup ?_)
  refine wpAny_pure ?_
  simp only [Bool.false_eq_true, if_false]
  refine wpAny_bind (wpAny_holding (iter_tuple hl ?_))
  refine wpAny_bind (wpAny_holding (draw_tuple hlt i 0 _ _ ⟨_, Heap.get?_push_size _ rfl, rfl, rfl⟩ (hl.push _) (by omega) fun h₁ hit₁ hs₁ => ?_))
  have hl₁ : IsTup h₁ l items := (hl.push _).extBut hs₁.extBut hlt
  rw [Nat.zero_add] at hit₁
  have hit₁' := hit₁
  obtain ⟨oi, hoi, _⟩ := hit₁'
  have hl₁' := hl₁
  obtain ⟨ol, hol, _⟩ := hl₁'
  rw [List.drop_zero]
  have hfl : (items.toList.take i).length = i := by rw [List.length_take, Array.length_toList]; omega
  rw [if_neg (show ¬ ((items.toList.take i).length < i) by rw [hfl]; omega)]
  refine wpAny_bind (wpAny_holding (PySem.W.kun_collect (s := { s with heap := h₁ }) (T := "tuple_iterator") (.inr (.inr (.inr rfl))) (Walks.tuple (A := A.in1) hh s.heap.objs.size l hlt items) (fun j u st => st.1.typeIs) (k := i) (by omega) ⟨hit₁, hl₁⟩ (Heap.lt_size hoi) (Heap.lt_size hol) (fun h₂ tk hk => ?_) (by rw [sizeLine_eq]; omega)))
  have hrl : (items.toList.drop i).length = items.size - i := by rw [List.length_drop, Array.length_toList]
  have hmid : (items.toList.drop i).length - (n - 1 - i) = items.size + 1 - n := by rw [hrl]; omega
  show wpAny _ _ (if (items.toList.drop i).length < n - 1 - i then _ else _) _ _ _
  rw [if_neg (by rw [hrl]; omega)]
  show wpAny _ _ (newList ((items.toList.drop i).take ((items.toList.drop i).length - (n - 1 - i))) >>= fun d => pure (items.toList.take i ++ [d] ++ (items.toList.drop i).drop ((items.toList.drop i).length - (n - 1 - i)))) _ _ _
  rw [hmid]
  have he : Heap.ExtBut s.heap.objs.size s.heap h₂ := fun b o hb e => hk b o hb (hs₁.extBut b o hb (Heap.get?_push_of_some _ e))
  refine wpAny_bind (wpAny_newObj_type (wpAny_pure ?_) ?_)
  · exact h h₂ tk fun b o e => he b o (Nat.ne_of_lt (Heap.lt_size e)) e
  · have h0 : ((items.toList.drop i).take (items.size + 1 - n)).length ≤ 16384 := by rw [List.length_take, hrl]; omega
    have h1 : ((items.toList.drop i).take (items.size + 1 - n)).toArray.size ≤ sizeLine := by rw [List.size_toArray, sizeLine_eq]; omega
    first
      | exact decide_eq_true h1
      | (simp [sizeOk, sizeLine_eq]; omega)
theorem star_list {l : Addr} {items : Array Value} {n i : Nat} {Q : List Value → Shared → Prop} (hl : s.heap.IsList l items) (hh : A.handled = none) (hi : i < n) (hn : n ≤ items.size + 1) (hz : items.size ≤ 16384)
    (h : ∀ (h₂ : Heap) (tk : Nat), (∀ b o, s.heap.get? b = some o → h₂.get? b = some o) →
      Q (items.toList.take i ++ [.ref h₂.objs.size] ++ (items.toList.drop i).drop (items.size + 1 - n)) { s with heap := h₂.push { cls := .type "list", data := .seq ((items.toList.drop i).take (items.size + 1 - n)).toArray }, toks := tk }) : wpAny (model prog w) A (unpackItems (.ref l) n (some i)) Q E s := by
  have hlt : l ≠ s.heap.objs.size := by obtain ⟨o, ho, _⟩ := hl; exact Nat.ne_of_lt (Heap.lt_size ho)
  unfold unpackItems
  refine wpAny_bind ?_
  unfold notIterableAtAll
  refine wpAny_bind (wpAny_specialOf hl.typeIs slot_list_iter.lookup ?_)
  refine wpAny_pure ?_
  simp only [Bool.false_eq_true, if_false]
  refine wpAny_bind (wpAny_holding (wpAny_pyIter_list hl ?_))
  refine wpAny_bind (wpAny_holding (PySem.W.kun_draw hlt i 0 _ _ ⟨_, Heap.get?_push_size _ rfl, rfl, rfl⟩ (hl.push _) (by omega) fun h₁ hit₁ hs₁ => ?_))
  have hl₁ : h₁.IsList l items := (hl.push _).extBut hs₁.extBut hlt
  rw [Nat.zero_add] at hit₁
  have hit₁' := hit₁
  obtain ⟨oi, hoi, _⟩ := hit₁'
  have hl₁' := hl₁
  obtain ⟨ol, hol, _⟩ := hl₁'
  rw [List.drop_zero]
  have hfl : (items.toList.take i).length = i := by rw [List.length_take, Array.length_toList]; omega
  rw [if_neg (show ¬ ((items.toList.take i).length < i) by rw [hfl]; omega)]
  refine wpAny_bind (wpAny_holding (PySem.W.kun_collect (s := { s with heap := h₁ }) (T := "list_iterator") (.inr (.inr (.inl rfl))) (Walks.list (A := A.in1) hh s.heap.objs.size l hlt items) (fun j u st => st.1.typeIs) (k := i) (by omega) ⟨hit₁, hl₁⟩ (Heap.lt_size hoi) (Heap.lt_size hol) (fun h₂ tk hk => ?_) (by rw [sizeLine_eq]; omega)))
  have hrl : (items.toList.drop i).length = items.size - i := by rw [List.length_drop, Array.length_toList]
  have hmid : (items.toList.drop i).length - (n - 1 - i) = items.size + 1 - n := by rw [hrl]; omega
  show wpAny _ _ (if (items.toList.drop i).length < n - 1 - i then _ else _) _ _ _
  rw [if_neg (by rw [hrl]; omega)]
  show wpAny _ _ (newList ((items.toList.drop i).take ((items.toList.drop i).length - (n - 1 - i))) >>= fun d => pure (items.toList.take i ++ [d] ++ (items.toList.drop i).drop ((items.toList.drop i).length - (n - 1 - i)))) _ _ _
  rw [hmid]
  have he : Heap.ExtBut s.heap.objs.size s.heap h₂ := fun b o hb e => hk b o hb (hs₁.extBut b o hb (Heap.get?_push_of_some _ e))
  refine wpAny_bind (wpAny_newObj_type (wpAny_pure ?_) ?_)
  · exact h h₂ tk fun b o e => he b o (Nat.ne_of_lt (Heap.lt_size e)) e
  · have h0 : ((items.toList.drop i).take (items.size + 1 - n)).length ≤ 16384 := by rw [List.length_take, hrl]; omega
    have h1 : ((items.toList.drop i).take (items.size + 1 - n)).toArray.size ≤ sizeLine := by rw [List.size_toArray, sizeLine_eq]; omega
    first
      | exact decide_eq_true h1
      | (simp [sizeOk, sizeLine_eq]; omega)
end
/-- (a, .., *b, .., c) = a tuple or a list: the starred one stands at i, n targets -/
def gStar (K : PySem.W.Frag) (n i : Nat) (t : TGs) : TG := fun v σ H Q => ∃ a xs, v = .ref a ∧ (SqT K H a xs ∨ SqL K H a xs) ∧ n ≤ xs.length + 1 ∧ xs.length ≤ 16384 ∧
  ∀ D, H D = none → t (xs.take i ++ [.ref D] ++ (xs.drop i).drop (xs.length + 1 - n)) σ (upd H D (.lst ((xs.drop i).take (xs.length + 1 - n)))) Q
theorem pg_star {X : Cx} {es es' : List Expr} {k : Nat} {pos : Pos} {t : TGs} {n i : Nat} (hc : X.calm = true) (h : PGs X es' t) (hn : (assignEach es X.env).length = n := by rfl) (hst : (assignEach es X.env).findIdx? (·.1) = some i := by rfl)
    (he : (assignEach es X.env).map (·.2) = (assignEach es' X.env).map (·.2) := by rfl) (hi : i < n := by decide) : PG X (.Tuple es k pos) (gStar X.K n i t) := by
  refine ⟨fun pins s σ H v u Q I r hw => ?_⟩
  obtain ⟨a, xs, e1, hq, hl, hz, hw⟩ := hw
  subst e1
  cases r
  rw [assign_Tuple]
  refine wpAny_bind (wpAny_standAt ?_)
  unfold unpack
  rw [hn, hst, he]
  have go : ∀ its : List Value, Vals xs its → (∀ {Q' : List Value → Shared → Prop} {E' : Value → Shared → Prop}, (∀ (h₂ : Heap) (tk : Nat), (∀ b o, s.heap.get? b = some o → h₂.get? b = some o) →
      Q' (its.toArray.toList.take i ++ [.ref h₂.objs.size] ++ (its.toArray.toList.drop i).drop (its.toArray.size + 1 - n)) { s with heap := h₂.push { cls := .type "list", data := .seq ((its.toArray.toList.drop i).take (its.toArray.size + 1 - n)).toArray }, toks := tk }) → wpAny (model X.prog X.w) X.A (unpackItems (.ref a) n (some i)) Q' E' s) →
      wpAny (model X.prog X.w) X.A (do assignInOrder ((assignEach es' X.env).map (·.2)) (← holding [.ref a] (unpackItems (.ref a) n (some i)))) (fun _ s' => ∃ σ' H', Inv X pins σ' H' s' ∧ Q σ' H') X.xe s := by
    intro its rv run
    have el : its.length = xs.length := rv.length.symm
    refine wpAny_bind (wpAny_holding (run fun h₂ tk k => ?_))
    have I1 : Inv X pins σ H { s with heap := h₂, toks := tk } := I.kept k
    have hD : H h₂.objs.size = none := I1.hok.fresh (Nat.le_refl _)
    have rm : Vals ((xs.drop i).take (xs.length + 1 - n)) ((its.drop i).take (its.length + 1 - n)) := by
      rw [el]
      exact (rv.drop i).take _
    have I2 := I1.lnew (t' := tk) rm (by rw [List.length_take, List.length_drop, sizeLine_eq]; omega)
    have r2 : Vals (xs.take i ++ [.ref h₂.objs.size] ++ (xs.drop i).drop (xs.length + 1 - n)) (its.take i ++ [.ref h₂.objs.size] ++ (its.drop i).drop (its.length + 1 - n)) := by
      rw [el]
      exact ((rv.take i).append (.cons (show RelV (V.ref h₂.objs.size) (Value.ref h₂.objs.size) from rfl) .nil)).append ((rv.drop i).drop _)
    exact h.run pins _ σ _ _ _ Q I2 r2 (hw _ hD)
  rcases hq with hq | hq
  · obtain ⟨its, rv, ht, _⟩ := I.tuple hq
    have el : its.length = xs.length := rv.length.symm
    exact go its rv fun {Q' E'} hh => star_tup ht (I.ok.hd hc) hi (by rw [List.size_toArray]; omega) (by rw [List.size_toArray]; omega) hh
  · obtain ⟨its, rv, ht, _⟩ := I.list hq
    have el : its.length = xs.length := rv.length.symm
    exact go its rv fun {Q' E'} hh => star_list ht.isList (I.ok.hd hc) hi (by rw [List.size_toArray]; omega) (by rw [List.size_toArray]; omega) hh
end Z

/-! L5: membership at any depth, dicts in the wide rules, conversions, methods of lists and dicts -/
namespace Z
open PySem PySem.Spec PyProof.Rows L2 Evl
def vOf : Value → V
  | .none => .non
  | .bool b => .bl b
  | .int i _ => .int i
  | .str x _ => .str x
  | .bytes b _ => .byt b
  | .float b _ => .flt b
  | .ref a => .ref a
  | .type n => .ty n
  | _ => .non
theorem vOf_rel {y : V} {u : Value} (r : RelV y u) : vOf u = y := by
  cases y with
  | int i => obtain ⟨t, rfl⟩ := r; rfl
  | str i => obtain ⟨t, rfl⟩ := r; rfl
  | byt i => obtain ⟨t, rfl⟩ := r; rfl
  | flt i => obtain ⟨t, rfl⟩ := r; rfl
  | _ => cases r; rfl
/-- x in a list or tuple: g tells which items it equals -/
def rInG (K : PySem.W.Frag) (neg : Bool) : R2 := fun x y H Q => ∃ (p : Addr) (xs : List V) (g : V → Bool), y = .ref p ∧ (SqL K H p xs ∨ SqT K H p xs) ∧ (∀ z ∈ xs, EqI K H 60 z x (g z)) ∧ Q (.bl (if neg then !xs.any g else xs.any g)) H
theorem any_vOf (g : V → Bool) : ∀ {xs : List V} {us : List Value}, Vals xs us → us.any (fun u => g (vOf u)) = xs.any g
  | _, _, .nil => rfl
  | _, _, .cons r t => by rw [List.any_cons, List.any_cons, vOf_rel r, any_vOf g t]
theorem mem_vOf {A : Around} {s : Shared} {x : V} {v : Value} {g : V → Bool} : ∀ {xs : List V} {us : List Value}, Vals xs us → (∀ z ∈ xs, ∀ u, RelV z u → SeqAt.EqAt A s u v (g z)) → ∀ u ∈ us, SeqAt.EqAt A s u v (g (vOf u))
  | _, _, .nil, _ => fun u hu => by cases hu
  | z :: xs, u :: us, .cons r t, h => fun w hw => by
    rcases List.mem_cons.mp hw with rfl | hw
    · rw [vOf_rel r]; exact h z (List.mem_cons_self ..) _ r
    · exact mem_vOf (x := x) t (fun z hz => h z (List.mem_cons_of_mem _ hz)) w hw
section
variable {X : Cx}
theorem op_inG (hu : X.A.units + 64 < cLine) : OpR X (compareOp .In) (rInG X.K false) := by
  intro pins s σ H x y v u Q I rx ry h
  obtain ⟨p, xs, g, rfl, hq, he, q⟩ := h
  cases ry
  have run : ∀ z ∈ xs, ∀ w, RelV z w → SeqAt.EqAt X.A.in1 s w v (g z) := fun z hz w rw' => EqI.run I (A := X.A.in1) (by show X.A.units + 1 + 60 < cLine; omega) (he z hz) rw' rx
  rcases hq with hq | hq
  · obtain ⟨its, r, pl, hz⟩ := I.list hq
    refine SeqAt.in_listAt (fun u => g (vOf u)) pl.isList (fun w hw => mem_vOf (x := x) r run w (by simpa using hw)) ⟨.bl _, H, I, rfl, ?_⟩
    rw [show its.toArray.any (fun u => g (vOf u)) = its.any (fun u => g (vOf u)) by simp, any_vOf g r]
    exact q
  · obtain ⟨its, r, pl, hz⟩ := I.tuple hq
    refine SeqAt.in_tupleAt (fun u => g (vOf u)) pl (fun w hw => mem_vOf (x := x) r run w (by simpa using hw)) ⟨.bl _, H, I, rfl, ?_⟩
    rw [show its.toArray.any (fun u => g (vOf u)) = its.any (fun u => g (vOf u)) by simp, any_vOf g r]
    exact q
theorem op_ninG (hu : X.A.units + 64 < cLine) : OpR X (compareOp .NotIn) (rInG X.K true) := by
  intro pins s σ H x y v u Q I rx ry h
  obtain ⟨p, xs, g, rfl, hq, he, q⟩ := h
  cases ry
  have run : ∀ z ∈ xs, ∀ w, RelV z w → SeqAt.EqAt X.A.in1 s w v (g z) := fun z hz w rw' => EqI.run I (A := X.A.in1) (by show X.A.units + 1 + 60 < cLine; omega) (he z hz) rw' rx
  rcases hq with hq | hq
  · obtain ⟨its, r, pl, hz⟩ := I.list hq
    refine SeqAt.notIn_listAt (fun u => g (vOf u)) pl.isList (fun w hw => mem_vOf (x := x) r run w (by simpa using hw)) ⟨.bl _, H, I, rfl, ?_⟩
    rw [show its.toArray.any (fun u => g (vOf u)) = its.any (fun u => g (vOf u)) by simp, any_vOf g r]
    exact q
  · obtain ⟨its, r, pl, hz⟩ := I.tuple hq
    refine SeqAt.notIn_tupleAt (fun u => g (vOf u)) pl (fun w hw => mem_vOf (x := x) r run w (by simpa using hw)) ⟨.bl _, H, I, rfl, ?_⟩
    rw [show its.toArray.any (fun u => g (vOf u)) = its.any (fun u => g (vOf u)) by simp, any_vOf g r]
    exact q
def rInDc : R2 := fun x y H Q => ∃ a o, y = .ref a ∧ DGet H a x o ∧ Q (.bl o.isSome) H
def rNinDc : R2 := fun x y H Q => ∃ a o, y = .ref a ∧ DGet H a x o ∧ Q (.bl (!o.isSome)) H
theorem op_inDc (hu : X.A.units + 64 < cLine) : OpR X (compareOp .In) rInDc := by
  intro pins s σ H x y v u Q I rx ry h
  obtain ⟨a, o, rfl, g, q⟩ := h
  cases ry
  exact d_in (by omega) I g rx fun s3 I3 => ⟨.bl o.isSome, H, I3, rfl, q⟩
theorem op_ninDc (hu : X.A.units + 64 < cLine) : OpR X (compareOp .NotIn) rNinDc := by
  intro pins s σ H x y v u Q I rx ry h
  obtain ⟨a, o, rfl, g, q⟩ := h
  cases ry
  exact d_notIn (by omega) I g rx fun s3 I3 => ⟨.bl (!o.isSome), H, I3, rfl, q⟩
def rInB (K : PySem.W.Frag) : R2 := fun x y H Q => rInA K x y H Q ∨ rInG K false x y H Q ∨ rInDc x y H Q
def rNinB (K : PySem.W.Frag) : R2 := fun x y H Q => rNinA K x y H Q ∨ rInG K true x y H Q ∨ rNinDc x y H Q
theorem op_inB (hu : X.A.units + 64 < cLine) : OpR X (compareOp .In) (rInB X.K) := op_inA.or ((op_inG hu).or (op_inDc hu))
theorem op_ninB (hu : X.A.units + 64 < cLine) : OpR X (compareOp .NotIn) (rNinB X.K) := op_ninA.or ((op_ninG hu).or (op_ninDc hu))
def rIxDc : R2 := fun x y H Q => ∃ a v, x = .ref a ∧ DGet H a y (some v) ∧ Q v H
theorem ix_Dc (hu : X.A.units + 64 < cLine) : IxR X rIxDc := by
  intro value slice pins s σ H x y v u Q I rx ry h hs
  obtain ⟨a, r, rfl, g, q⟩ := h
  obtain rfl : v = Value.ref a := rx
  exact tail_any (dict_typeIs I g) PySem.F.slot_dict_getitem.lookup (d_getItem (by omega) I g ry fun w' s3 I3 rw' => ⟨r, H, I3, rw', q⟩) hs
def rIxB (K : PySem.W.Frag) : R2 := fun x y H Q => rIx K x y H Q ∨ rIxDc x y H Q
theorem ix_B (hu : X.A.units + 64 < cLine) : IxR X (rIxB X.K) := ix_seq.or (ix_Dc hu)
def rSetB : TSet := fun o i v H Q => rSetL o i v H Q ∨ rSetD o i v H Q
theorem set_B (hu : X.A.units + 64 < cLine) : PSet X rSetB := by
  intro pins s σ H o i v ov iv u Q I ro ri rv h
  rcases h with h | h
  · exact set_list pins s σ H o i v ov iv u Q I ro ri rv h
  · exact set_dict (by omega) pins s σ H o i v ov iv u Q I ro ri rv h
/-! conversions -/
def rListA (K : PySem.W.Frag) : List V → Hp → VK → Prop := fun xs H Q => ∃ p ys, xs = [.ref p] ∧ (SqL K H p ys ∨ SqT K H p ys) ∧ ∀ l, H l = none → Q (.ref l) (upd H l (.lst ys))
theorem call_listA : CallR X (.type "list") (rListA X.K) := call_list_of
def rTupA (K : PySem.W.Frag) : List V → Hp → VK → Prop := fun xs H Q => ∃ p ys, xs = [.ref p] ∧ ((SqL K H p ys ∧ ∀ l, H l = none → Q (.ref l) (upd H l (.tup ys))) ∨ (SqT K H p ys ∧ Q (.ref p) H))
theorem call_tupA : CallR X (.type "tuple") (rTupA X.K) := call_tuple_of
def rIntA : List V → Hp → VK → Prop := fun xs H Q => (∃ i, xs = [.int i] ∧ Q (.int i) H) ∨ ∃ k, xs = [.bl k] ∧ Q (.int (if k then 1 else 0)) H
theorem call_intA : CallR X (.type "int") rIntA := call_int1
def rStrA : List V → Hp → VK → Prop := fun xs H Q => (∃ i, xs = [.int i] ∧ i.natAbs.log2 < 1920 ∧ Q (.str (toString i)) H) ∨ ∃ a, xs = [.str a] ∧ Q (.str a) H
theorem call_strA : CallR X (.type "str") rStrA := call_str_int.or SkE.call_str_str
/-! methods -/
def rPopA : V → List V → Hp → VK → Prop := fun x vs H Q => rPop x vs H Q ∨ rPopAt x vs H Q
theorem mt_popA : MtR X "list.pop" rPopA := MtR.or mt_pop mt_popAt
def rInsert : V → List V → Hp → VK → Prop := fun x vs H Q => ∃ (l : Addr) (xs : List V) (i : Int) (y : V), x = .ref l ∧ vs = [.int i, y] ∧ H l = some (.lst xs) ∧ xs.length < sizeLine ∧ 0 ≤ i ∧ i < 2 ^ 63 ∧
    Q .non (upd H l (.lst (xs.take i.toNat ++ [y] ++ xs.drop i.toNat)))
theorem mt_insertA : MtR X "list.insert" rInsert := mt_insert
def rDGet : V → List V → Hp → VK → Prop := fun x vs H Q => ∃ a, x = .ref a ∧ ((∃ y o, vs = [y] ∧ DGet H a y o ∧ Q (o.getD .non) H) ∨ ∃ y z o, vs = [y, z] ∧ DGet H a y o ∧ Q (o.getD z) H)
theorem mt_dget (hu : X.A.units + 64 < cLine) : MtR X "dict.get" rDGet := by
  intro pins s σ H x xs v us Q I rx rxs h
  obtain ⟨a, rfl, h | h⟩ := h
  · obtain ⟨y, o, rfl, g, q⟩ := h
    cases rx
    obtain ⟨u, rfl, ru⟩ := Vals.one rxs
    exact d_get1 (by omega) I g ru fun w' s3 I3 rw' => ⟨_, H, I3, rw', q⟩
  · obtain ⟨y, z, o, rfl, g, q⟩ := h
    cases rx
    obtain ⟨u1, u2, rfl, r1, r2⟩ := Vals.two rxs
    exact d_get2 (by omega) I g r1 r2 fun w' s3 I3 rw' => ⟨_, H, I3, rw', q⟩
end
/-! steps -/
section
variable {K : PySem.W.Frag} {σ : L2.St} {H : Hp} {Q : VK} {x y v : V}
theorem s_bm {T : String} {r : V → List V → Hp → VK → Prop} {to : TE} {t : TA} (h : to σ H fun x H1 => tyV K T x H1 ∧ t σ H1 fun xs H2 => r x xs H2 Q) : tBM K T r to t σ H Q := h
theorem s_bm0 {T : String} {r : V → List V → Hp → VK → Prop} {to : TE} (h : to σ H fun x H1 => tyV K T x H1 ∧ r x [] H1 Q) : tBM0 K T r to σ H Q := h
theorem s_tyS {z : Str} {A : Prop} (h : A) : tyV K "str" (.str z) H ∧ A := ⟨rfl, h⟩
theorem s_inB {x y : V} (h : rInA K x y H Q) : rInB K x y H Q := .inl h
theorem s_ninB {x y : V} (h : rNinA K x y H Q) : rNinB K x y H Q := .inl h
theorem s_inG {p : Addr} {xs : List V} (g : V → Bool) (h : H p = some (.lst xs) ∨ H p = some (.tup xs)) (e : ∀ z ∈ xs, EqI K H 60 z x (g z)) (q : Q (.bl (xs.any g)) H) : rInB K x (.ref p) H Q :=
  .inr (.inl ⟨p, xs, g, rfl, h.elim (fun h => .inl (SqL.of h)) (fun h => .inr (SqT.of h)), e, q⟩)
theorem s_ninG {p : Addr} {xs : List V} (g : V → Bool) (h : H p = some (.lst xs) ∨ H p = some (.tup xs)) (e : ∀ z ∈ xs, EqI K H 60 z x (g z)) (q : Q (.bl (!xs.any g)) H) : rNinB K x (.ref p) H Q :=
  .inr (.inl ⟨p, xs, g, rfl, h.elim (fun h => .inl (SqL.of h)) (fun h => .inr (SqT.of h)), e, q⟩)
theorem s_inF {p : Addr} {xs : List V} (h : H p = some (.lst xs) ∨ H p = some (.tup xs)) (fx : flatV x = true) (fs : xs.all flatV = true) (q : Q (.bl (inV x xs)) H) : rInB K x (.ref p) H Q :=
  .inl (.inr (.inl ⟨p, xs, rfl, h.elim (fun h => .inl (SqL.of h)) (fun h => .inr (SqT.of h)), fx, fs, q⟩))
theorem s_ninF {p : Addr} {xs : List V} (h : H p = some (.lst xs) ∨ H p = some (.tup xs)) (fx : flatV x = true) (fs : xs.all flatV = true) (q : Q (.bl (!inV x xs)) H) : rNinB K x (.ref p) H Q :=
  .inl (.inr (.inl ⟨p, xs, rfl, h.elim (fun h => .inl (SqL.of h)) (fun h => .inr (SqT.of h)), fx, fs, q⟩))
theorem s_in1B {c : Nat} {z : Str} (q : Q (.bl (decide (c ∈ z.cps.toList))) H) : rInB K (.str ⟨#[c]⟩) (.str z) H Q := .inl (s_in1 q)
theorem s_nin1B {c : Nat} {z : Str} (q : Q (.bl (!decide (c ∈ z.cps.toList))) H) : rNinB K (.str ⟨#[c]⟩) (.str z) H Q := .inl (s_nin1 q)
theorem s_inD {a : Addr} {kvs : List (Key × V)} {k : Key} (h : H a = some (.dK kvs)) (q : Q (.bl (valV kvs k).isSome) H) : rInB K (kV k) (.ref a) H Q := .inr (.inr ⟨a, _, rfl, DGet.k h, q⟩)
theorem s_ixB {x y : V} (h : rIx K x y H Q) : rIxB K x y H Q := .inl h
theorem s_ixD {a : Addr} {kvs : List (Key × V)} {k : Key} (h : H a = some (.dK kvs)) (e : valV kvs k = some v) (q : Q v H) : rIxB K (.ref a) (kV k) H Q := .inr ⟨a, v, rfl, e ▸ DGet.k h, q⟩
theorem s_listA {p : Addr} {xs : List V} (h : H p = some (.lst xs) ∨ H p = some (.tup xs)) (q : ∀ l, H l = none → Q (.ref l) (upd H l (.lst xs))) : rListA K [.ref p] H Q :=
  ⟨p, xs, rfl, h.elim (fun h => .inl (SqL.of h)) (fun h => .inr (SqT.of h)), q⟩
theorem s_tupL {p : Addr} {xs : List V} (h : H p = some (.lst xs)) (q : ∀ l, H l = none → Q (.ref l) (upd H l (.tup xs))) : rTupA K [.ref p] H Q := ⟨p, xs, rfl, .inl ⟨SqL.of h, q⟩⟩
theorem s_tupT {p : Addr} {xs : List V} (h : H p = some (.tup xs)) (q : Q (.ref p) H) : rTupA K [.ref p] H Q := ⟨p, xs, rfl, .inr ⟨SqT.of h, q⟩⟩
theorem s_intI {i : Int} (q : Q (.int i) H) : rIntA [.int i] H Q := .inl ⟨i, rfl, q⟩
theorem s_intB {b : Bool} (q : Q (.int (if b then 1 else 0)) H) : rIntA [.bl b] H Q := .inr ⟨b, rfl, q⟩
theorem s_strI {i : Int} (h : i.natAbs.log2 < 1920) (q : Q (.str (toString i)) H) : rStrA [.int i] H Q := .inl ⟨i, rfl, h, q⟩
theorem s_strS {z : Str} (q : Q (.str z) H) : rStrA [.str z] H Q := .inr ⟨z, rfl, q⟩
theorem s_tyL {p : Addr} {xs : List V} {A : Prop} (h : H p = some (.lst xs)) (q : A) : tyV K "list" (.ref p) H ∧ A := ⟨.inl ⟨rfl, xs, SqL.of h⟩, q⟩
theorem s_tyD {p : Addr} {kvs : List (Key × V)} {A : Prop} (h : H p = some (.dK kvs)) (q : A) : tyV K "dict" (.ref p) H ∧ A := ⟨.inr (.inr (.inl ⟨rfl, .inl ⟨kvs, h⟩⟩)), q⟩
theorem s_append {l : Addr} {xs : List V} (h : H l = some (.lst xs)) (hz : xs.length < sizeLine) (q : Q .non (upd H l (.lst (xs ++ [y])))) : rAppend (.ref l) [y] H Q := ⟨l, xs, y, rfl, rfl, h, hz, q⟩
theorem s_insert {l : Addr} {xs : List V} {i : Int} (h : H l = some (.lst xs)) (hz : xs.length < sizeLine) (h0 : 0 ≤ i) (h1 : i < 2 ^ 63) (q : Q .non (upd H l (.lst (xs.take i.toNat ++ [y] ++ xs.drop i.toNat)))) : rInsert (.ref l) [.int i, y] H Q :=
  ⟨l, xs, i, y, rfl, rfl, h, hz, h0, h1, q⟩
theorem s_popAt {l : Addr} {xs : List V} {i : Int} (h : H l = some (.lst xs)) (h0 : 0 ≤ i) (h1 : i < xs.length) (hz : xs.length ≤ 1000000) (q : ∀ y, y ∈ xs → xs[i.toNat]? = some y → Q y (upd H l (.lst (xs.eraseIdx i.toNat)))) : rPopA (.ref l) [.int i] H Q := by
  have hj : i.toNat < xs.length := by omega
  refine .inr ⟨l, xs, i, i.toNat, xs[i.toNat], rfl, rfl, h, by omega, by omega, ?_, by simp [hj], q _ (List.getElem_mem hj) (by simp [hj])⟩
  unfold seqIndex?
  first
    | (simp; omega)
    | (rw [if_neg (by omega)]; simp; omega)
theorem s_dget2 {a : Addr} {kvs : List (Key × V)} {k : Key} {z : V} (h : H a = some (.dK kvs)) (q : Q ((valV kvs k).getD z) H) : rDGet (.ref a) [kV k, z] H Q := ⟨a, rfl, .inr ⟨_, z, _, rfl, DGet.k h, q⟩⟩
theorem s_setBL {p : Addr} {k : Int} {xs : List V} {j : Nat} {R : Hp → Prop} (h : H p = some (.lst xs)) (hj : ixN xs.length k = some j) (q : R (upd H p (.lst (xs.set j v)))) : rSetB (.ref p) (.int k) v H R := .inl (s_setL h hj q)
theorem s_setBD {p : Addr} {kvs : List (Key × V)} {k : Key} {R : Hp → Prop} (h : H p = some (.dK kvs)) (hl : kvs.length < sizeLine) (q : R (upd H p (.dK (putK kvs k v)))) : rSetB (.ref p) (kV k) v H R := .inr ⟨p, _, rfl, .inl ⟨kvs, k, h, rfl, hl, rfl⟩, q⟩
theorem s_gStar {n i : Nat} {gs : TGs} {a : Addr} {xs : List V} {R : L2.St → Hp → Prop} (h : H a = some (.tup xs) ∨ H a = some (.lst xs)) (hn : n ≤ xs.length + 1) (hz : xs.length ≤ 16384)
    (q : ∀ D, H D = none → gs (xs.take i ++ [.ref D] ++ (xs.drop i).drop (xs.length + 1 - n)) σ (upd H D (.lst ((xs.drop i).take (xs.length + 1 - n)))) R) : gStar K n i gs (.ref a) σ H R :=
  ⟨a, xs, rfl, h.elim (fun h => .inl (SqT.of h)) (fun h => .inr (SqL.of h)), hn, hz, q⟩
theorem s_orT {ta tb : TE} (h : ta σ H fun x H1 => ∃ k, TruV K x H1 k ∧ if k = true then Q x H1 else tb σ H1 Q) : tOrT K ta tb σ H Q := h
theorem tru_tup {p : Addr} {xs : List V} (h : H p = some (.tup xs)) : TruV K (.ref p) H (!xs.isEmpty) := .inr (.inl ⟨xs, SqT.of h, rfl⟩)
theorem tru_lst {p : Addr} {xs : List V} (h : H p = some (.lst xs)) : TruV K (.ref p) H (!xs.isEmpty) := .inl ⟨xs, SqL.of h, rfl⟩
end
end Z
namespace Z
open PySem PySem.Spec PyProof.Rows L2 Evl
section
variable {K : PySem.W.Frag} {H : Hp} {Q : VK}
theorem cutV_take (xs : List V) {m : Int} (h : 0 ≤ m) : cutV xs none (some m) = xs.take m.toNat := by
  have e1 : HT.sIx xs.length 0 none = 0 := rfl
  have e2 : HT.sIx xs.length xs.length (some m) = min m.toNat xs.length := by
    unfold HT.sIx
    show (if m < 0 then _ else _) = _
    rw [if_neg (by omega)]
  unfold cutV
  rw [e1, e2, List.drop_zero, Nat.sub_zero]
  rcases Nat.le_total m.toNat xs.length with q | q
  · rw [Nat.min_eq_left q]
  · rw [Nat.min_eq_right q, List.take_length, List.take_of_length_le q]
theorem cutV_drop (xs : List V) {m : Int} (h : 0 ≤ m) : cutV xs (some m) none = xs.drop m.toNat := by
  have e1 : HT.sIx xs.length xs.length none = xs.length := rfl
  have e2 : HT.sIx xs.length 0 (some m) = min m.toNat xs.length := by
    unfold HT.sIx
    show (if m < 0 then _ else _) = _
    rw [if_neg (by omega)]
  unfold cutV
  rw [e1, e2]
  rcases Nat.le_total m.toNat xs.length with q | q
  · rw [Nat.min_eq_left q, List.take_of_length_le (by rw [List.length_drop]; omega)]
  · rw [Nat.min_eq_right q, List.drop_length, List.drop_of_length_le q]
    simp
theorem s_slL {a : Addr} {xs : List V} {lo hi : Option Int} (h : H a = some (.lst xs)) (q : ∀ p, H p = none → Q (.ref p) (upd H p (.lst (cutV xs lo hi)))) : Z.rSlA K (.ref a) lo hi H Q := .inr (.inl ⟨a, xs, rfl, SqL.of h, q⟩)
theorem s_slT {a : Addr} {xs : List V} {lo hi : Option Int} (h : H a = some (.tup xs)) (q0 : HT.sIx xs.length 0 lo = 0 ∧ HT.sIx xs.length xs.length hi = xs.length → Q (.ref a) H)
    (q : ¬ (HT.sIx xs.length 0 lo = 0 ∧ HT.sIx xs.length xs.length hi = xs.length) → ∀ p, H p = none → Q (.ref p) (upd H p (.tup (cutV xs lo hi)))) : Z.rSlA K (.ref a) lo hi H Q := .inr (.inr ⟨a, xs, rfl, SqT.of h, q0, q⟩)
end
end Z
namespace Z
open PySem PySem.Spec PyProof.Rows L2 Evl
theorem s_par3 {i j l : Nat} {t : TA} {D : Ends} {σ : L2.St} {H : Hp} (h : t σ H fun vs H1 => ∃ u v w, vs = [u, v, w] ∧ D.nx (((σ.set i (some u)).set j (some v)).set l (some w)) H1) : tPar3 i j l t D σ H := h
end Z
namespace Z
open PySem PySem.Spec PyProof.Rows L2 Evl
/-! dicts of the module, keys texts -/
def rIxK (K : PySem.W.Frag) (d : Addr) : R2 := fun x y H Q => ∃ (z : Str) (u0 : Value) (v0 : V), x = .ref d ∧ y = .str z ∧ PySem.W.nsIn K d z = some (some u0) ∧ RelV v0 u0 ∧ Q v0 H
def rInK (K : PySem.W.Frag) (d : Addr) : R2 := fun x y H Q => ∃ (z : Str) (r : Option Value), x = .str z ∧ y = .ref d ∧ PySem.W.nsIn K d z = some r ∧ Q (.bl r.isSome) H
def rNinK (K : PySem.W.Frag) (d : Addr) : R2 := fun x y H Q => ∃ (z : Str) (r : Option Value), x = .str z ∧ y = .ref d ∧ PySem.W.nsIn K d z = some r ∧ Q (.bl (!r.isSome)) H
section
variable {X : Cx} {d : Addr}
theorem ix_K (D : ∃ es n, KDict X.K X.w d es n) : IxR X (rIxK X.K d) := by
  obtain ⟨es, n, D⟩ := D
  intro value slice pins s σ H x y v u Q I rx ry h hs
  obtain ⟨z, u0, v0, rfl, rfl, e, r, q⟩ := h
  have rr := rx
  cases rx
  exact tail_any (kd_type D I) PySem.F.slot_dict_getitem.lookup (op_item_kd D pins s σ H _ _ _ u Q I rr ry ⟨z, u0, v0, rfl, rfl, e, r, q⟩) hs
theorem op_inK (D : ∃ es n, KDict X.K X.w d es n) : OpR X (compareOp .In) (rInK X.K d) := by
  obtain ⟨es, n, D⟩ := D
  exact op_in_kd D
theorem op_ninK (D : ∃ es n, KDict X.K X.w d es n) : OpR X (compareOp .NotIn) (rNinK X.K d) := by
  obtain ⟨es, n, D⟩ := D
  exact op_notIn_kd D
end
end Z

/-! L6: methods and len of dicts that may be locked -/
namespace Z
open PySem PySem.Spec PyProof.Rows L2 Evl
def tyW (K : PySem.W.Frag) (T : String) (x : V) (H : Hp) : Prop := tyV K T x H ∨ ∃ p kvs, T = "dict" ∧ x = .ref p ∧ Rd H p (.dK kvs)
theorem tyW_is {X : Cx} {pins : List (Addr × Obj)} {σ : L2.St} {H : Hp} {s : Shared} {T : String} {x : V} {v : Value} (I : Inv X pins σ H s) (r : RelV x v) (ty : tyW X.K T x H) :
    s.TypeIs v T ∧ ∀ a, v = .ref a → ∃ ob, s.heap.get? a = some ob ∧ ob.dict = none := by
  rcases ty with ty | ⟨p, kvs, rfl, rfl, h⟩
  · exact tyV_is I r ty
  · cases r
    obtain ⟨_, _, vs, _, dd⟩ := dk_rd I.hok h
    refine ⟨dd.typeIs, fun a e => ?_⟩
    cases e
    obtain ⟨ob, _, _, h1, h2, _⟩ := dd
    exact ⟨ob, h1, h2.2.1⟩
def tBM0W (K : PySem.W.Frag) (T : String) (r : V → List V → Hp → VK → Prop) (to : TE) : TE := fun σ H Q => to σ H fun x H1 => tyW K T x H1 ∧ r x [] H1 Q
def tBMW (K : PySem.W.Frag) (T : String) (r : V → List V → Hp → VK → Prop) (to : TE) (t : TA) : TE := fun σ H Q => to σ H fun x H1 => tyW K T x H1 ∧ t σ H1 fun xs H2 => r x xs H2 Q
section
variable {X : Cx} {o e : Expr} {es : List Expr} {to : TE} {t : TA} {name : Str} {apos cpos : Pos} {T id : String} {r : V → List V → Hp → VK → Prop}
theorem pe_bm0W (pa : PlainAttrs T) (slot : Slot T name id) (hty : typeOf (.builtin id) = pure (.type "method_descriptor")) (hm : MtR X id r) (ho : PE X o to)
    (hbase : attributeBase o name X.env (eval o X.env) = eval o X.env := by rfl) (hline : (apos.endLine == cpos.line) = true := by rfl) : PE X (.Call (.Attribute o name apos) [] [] cpos) (tBM0W X.K T r to) := by
  refine ⟨fun pins s σ H Q I h => ?_⟩
  refine wpAny_Call_method0_late hbase hline (thn (ho.run pins s σ H _ I h) fun v s1 ⟨x, H1, I1, r1, ty, q1⟩ => ?_)
  obtain ⟨h1, h2⟩ := tyW_is I1 r1 ty
  exact ⟨T, id, pa, slot, hty, h1, h2, Calls.callWith_builtin rfl (PySem.evalArgs_none (hm pins s1 σ H1 x [] v [] Q I1 r1 .nil q1))⟩
theorem pe_bmW (pa : PlainAttrs T) (slot : Slot T name id) (hty : typeOf (.builtin id) = pure (.type "method_descriptor")) (hm : MtR X id r) (ho : PE X o to) (ha : PA X (e :: es) t)
    (hbase : attributeBase o name X.env (eval o X.env) = eval o X.env := by rfl)
    (hfew : ((backTo cpos (starEach (e :: es) X.env)).all (fun x => !x.1) && (backToKw cpos (keywordEach [] X.env)).all (fun x => x.1.isSome)
      && decide ((e :: es).length + ([] : List Keyword).length + (if ([] : List Keyword).isEmpty then 0 else 1) < 30)) = true := by rfl)
    (hline : (apos.endLine == cpos.line) = true := by rfl) (hs : starEach (e :: es) X.env = (false, eval e X.env) :: starEach es X.env := by rfl) (hplain : (backTo cpos (starEach es X.env)).any (·.1) = false := by rfl) :
    PE X (.Call (.Attribute o name apos) (e :: es) [] cpos) (tBMW X.K T r to t) := by
  refine ⟨fun pins s σ H Q I h => ?_⟩
  refine wpAny_Call_method_late hbase hfew hline rfl (thn (ho.run pins s σ H _ I h) fun v s1 ⟨x, H1, I1, r1, ty, q1⟩ => ?_)
  obtain ⟨h1, h2⟩ := tyW_is I1 r1 ty
  refine ⟨T, id, pa, slot, hty, h1, h2, ?_⟩
  have hA := ha.run cpos pins s1 σ H1 _ I1 q1
  rw [hs] at hA ⊢
  refine Calls.callWith_builtin (by show (false || (backTo cpos (starEach es X.env)).any (·.1)) = false; rw [hplain] <;> rfl) (Calls.evalArgs_plain ?_)
  exact thn hA fun us s2 ⟨vs, H2, I2, r2, q2⟩ => hm pins s2 σ H2 x vs v us Q I2 r1 r2 q2
def rLenB (K : PySem.W.Frag) : List V → Hp → VK → Prop := fun xs H Q => rLenA K xs H Q ∨ ∃ a kvs, xs = [V.ref a] ∧ Rd H a (.dK kvs) ∧ Q (.int kvs.length) H
theorem call_lenDR : CallR X (.builtin "len") (fun xs H Q => ∃ a kvs, xs = [V.ref a] ∧ Rd H a (.dK kvs) ∧ Q (.int kvs.length) H) := by
  intro pins s σ H xs us Q I r h
  obtain ⟨a, kvs, rfl, ha, q⟩ := h
  obtain ⟨u, rfl, ru⟩ := vals1 r
  cases ru
  exact d_len I ha fun t s' I' => ⟨.int kvs.length, H, I', ⟨t, rfl⟩, q⟩
theorem call_lenB : CallR X (.builtin "len") (rLenB X.K) := call_lenA.or call_lenDR
end
end Z

namespace Z
open PySem PySem.Spec PyProof.Rows L2 Evl
/-- what a for walks: a list, a tuple, a text, told behind the expression -/
def iSeq (K : PySem.W.Frag) (te : TE) : TI := fun σ H R => te σ H fun x H1 => (∃ a, x = .ref a ∧ (∃ xs, SqL K H1 a xs) ∧ R (Itl K a) H1) ∨ (∃ a, x = .ref a ∧ (∃ xs, SqT K H1 a xs) ∧ R (Itt K a) H1) ∨ ∃ z, x = .str z ∧ R (Its z) H1
theorem pi_seq {X : Cx} {tg l : Expr} {tl : TE} (hl : PE X l tl) : PI X tg l (iSeq X.K tl) := by
  refine ⟨fun pins s σ H R I h => ?_⟩
  refine thn (hl.run pins s σ H _ I h) fun v s1 ⟨x, H1, I1, r1, q1⟩ => ?_
  rcases q1 with ⟨a, e, ⟨xs, hq⟩, q⟩ | ⟨a, e, ⟨xs, hq⟩, q⟩ | ⟨z, e, q⟩
  · subst e
    cases r1
    obtain ⟨its, rv, p, hz⟩ := I1.list hq
    refine wpAny_pyIter_list p.isList ?_
    refine ⟨s1.heap.objs.size, [s1.heap.objs.size], _, _, H1, rfl, I1.kept (t' := s1.toks) fun b o e => Heap.get?_push_of_some _ e, turn_list a _, ⟨_, Heap.get?_push_size _ rfl, rfl, rfl⟩, fun b hb => ?_, q⟩
    have e : b = s1.heap.objs.size := by simpa using hb
    subst e
    exact I1.fpOk (Nat.le_refl _) (I1.hok.fresh (Nat.le_refl _))
  · subst e
    cases r1
    obtain ⟨its, rv, p, hz⟩ := I1.tuple hq
    refine wpAny_pyIter_tuple (show s1.heap.IsTuple a its.toArray from p) ?_
    refine ⟨s1.heap.objs.size, [s1.heap.objs.size], _, _, H1, rfl, I1.kept (t' := s1.toks) fun b o e => Heap.get?_push_of_some _ e, turn_tuple a _, ⟨_, Heap.get?_push_size _ rfl, rfl, rfl⟩, fun b hb => ?_, q⟩
    have e : b = s1.heap.objs.size := by simpa using hb
    subst e
    exact I1.fpOk (Nat.le_refl _) (I1.hok.fresh (Nat.le_refl _))
  · subst e
    obtain ⟨t, rfl⟩ := r1
    cases ha : z.cps.all (· < 128)
    · exact wpAny_pyIter_wide ha (pi_one (tk := s1.toks) I1 _ (turn_str _ z t "str_iterator" (.inr rfl)) ⟨_, Heap.get?_push_size _ rfl, rfl, rfl⟩ q)
    · exact wpAny_pyIter_ascii ha (pi_one (tk := s1.toks) I1 _ (turn_str _ z t "str_ascii_iterator" (.inl rfl)) ⟨_, Heap.get?_push_size _ rfl, rfl, rfl⟩ q)
end Z

/-! L7: list.count, list.index at any depth -/
namespace Z
open PySem PySem.Spec PyProof.Rows L2 Evl
theorem count_vOf (g : V → Bool) : ∀ {xs : List V} {us : List Value}, Vals xs us → us.countP (fun u => g (vOf u)) = xs.countP g
  | _, _, .nil => rfl
  | _, _, .cons r t => by rw [List.countP_cons, List.countP_cons, vOf_rel r, count_vOf g t]
theorem find_vOf (g : V → Bool) : ∀ {xs : List V} {us : List Value}, Vals xs us → us.findIdx? (fun u => g (vOf u)) = xs.findIdx? g
  | _, _, .nil => rfl
  | _, _, .cons r t => by rw [List.findIdx?_cons, List.findIdx?_cons, vOf_rel r, find_vOf g t]
section
variable {X : Cx}
def rCountG (K : PySem.W.Frag) : V → List V → Hp → VK → Prop := fun x xs H Q => ∃ (p : Addr) (ys : List V) (y : V) (g : V → Bool), x = .ref p ∧ xs = [y] ∧ SqL K H p ys ∧ (∀ z ∈ ys, EqI K H 60 z y (g z)) ∧ Q (.int (ys.countP g : Nat)) H
theorem mt_countG (hu : X.A.units + 64 < cLine) : MtR X "list.count" (rCountG X.K) := by
  intro pins s σ H x xs v us Q I rx rxs h
  obtain ⟨p, ys, y, g, rfl, rfl, hs, he, q⟩ := h
  cases rx
  obtain ⟨u, rfl, ru⟩ := rxs.one
  obtain ⟨its, rv, ⟨⟨cls, dd, data, sl⟩, n, ho, hc, hdn, hd⟩, hlen⟩ := I.list hs
  simp only at hc hd
  subst hc hd
  refine call_meets PySem.F.slot_list_count ⟨_, ho, rfl⟩ PySem.F.entry_list_count (PySem.F.args_list_count_2 _ _)
    (SeqAt.list_countAt p its.toArray n dd sl u (fun w => g (vOf w))) ⟨ho, fun w hw => mem_vOf (x := y) rv (fun z hz w rw' => EqI.run I (by show X.A.units + 1 + 60 < cLine; omega) (he z hz) rw' ru) w (by simpa using hw), ?_⟩
  refine ⟨.int (ys.countP g : Nat), H, I.tok _, ⟨s.toks, ?_⟩, q⟩
  show Value.int ((its.toArray.toList.countP _ : Nat) : Int) s.toks = Value.int ((ys.countP g : Nat) : Int) s.toks
  rw [← count_vOf g rv]
def rIndexG (K : PySem.W.Frag) : V → List V → Hp → VK → Prop := fun x xs H Q => ∃ (p : Addr) (ys : List V) (y : V) (g : V → Bool) (j : Nat), x = .ref p ∧ xs = [y] ∧ SqL K H p ys ∧ (∀ z ∈ ys, EqI K H 60 z y (g z)) ∧ ys.findIdx? g = some j ∧ Q (.int (j : Nat)) H
theorem mt_indexG (hu : X.A.units + 64 < cLine) : MtR X "list.index" (rIndexG X.K) := by
  intro pins s σ H x xs v us Q I rx rxs h
  obtain ⟨p, ys, y, g, j, rfl, rfl, hs, he, hj, q⟩ := h
  cases rx
  obtain ⟨u, rfl, ru⟩ := rxs.one
  obtain ⟨its, rv, ⟨⟨cls, dd, data, sl⟩, n, ho, hc, hdn, hd⟩, hlen⟩ := I.list hs
  simp only at hc hd
  subst hc hd
  rw [← find_vOf g rv] at hj
  have hj := hj
  rw [List.findIdx?_eq_some_iff_getElem] at hj
  obtain ⟨hjl, h1, h2⟩ := hj
  have hsl := sizeLine_eq
  have hvl := rv.length
  refine call_meets PySem.F.slot_list_index ⟨_, ho, rfl⟩ PySem.F.entry_list_index (PySem.F.args_list_index_2 _ _)
    (SeqAt.list_indexAt p its.toArray n dd sl u (fun w => g (vOf w)) j (by simpa using hjl) (by omega) (by simpa using h1) (fun m hm hmj => by
      have := h2 m hmj
      simpa using this)) ⟨ho, fun w hw => mem_vOf (x := y) rv (fun z hz w rw' => EqI.run I (by show X.A.units + 1 + 60 < cLine; omega) (he z hz) rw' ru) w (by simpa using hw), ?_⟩
  exact ⟨.int (j : Nat), H, I.tok _, ⟨_, rfl⟩, q⟩
end
end Z

/-! L8: own classes: methods by places and keywords, new instances, properties, len, ==, in, str of instances -/
namespace Z
open PySem PySem.Spec PyProof.Rows L2 Evl
/-- a method of a class as it is called: n positional values behind the object, the keywords ks, the defaults dvs; pm: the parameters' order -/
structure FokM (P : Program) (w : World) (K : PySem.W.Frag) (mg : Str → Option Value) (base : Heap) (CX : CXT) (k : Nat) (C m : Str) (ps : List Str) (sp : Sp) (n : Nat) (ks : List Str) (dvs : List V) (pm : List Nat) : Prop where
  ex : ∃ fd ds, Vals dvs ds ∧ FnOk P w K mg base CX k (He.ma K (He.ga K C) m) fd ps sp ∧ ∀ (s : Shared) (us ws : List Value), K.In s.heap → us.length = n + 1 → ws.length = ks.length → BindsTo s fd ⟨us, ks.zip ws⟩ (ps.zip (perm pm (us ++ ws ++ ds)))
/-- o.m(e, .., k = v, ..) -/
def tMethP (K : PySem.W.Frag) (C m : Str) (pm : List Nat) (n mm : Nat) (sp : Sp) (dvs : List V) (E : L2.St → XK) (ta : TE) (t tk : TA) : TE := fun σ H Q => ta σ H fun x H1 => ∃ a dx fs, x = .ref a ∧ H1 a = some (.ins (He.ga K C) dx fs) ∧ fs.lookup m = none ∧
  t σ H1 fun vs H2 => tk σ H2 fun zs H3 => vs.length = n ∧ zs.length = mm ∧ sp (perm pm ((x :: vs) ++ zs ++ dvs)) H3 Q (E σ)
section
variable {X : Cx} {CX : CXT} {k n : Nat} {ps ks : List Str} {sp : Sp} {E : L2.St → XK} {C m : Str} {p pos apos : Pos} {o e : Expr} {es : List Expr} {kws : List Keyword} {ta : TE} {t tk : TA} {pm : List Nat} {dvs : List V}
theorem run_fnM {pins : List (Addr × Obj)} {σ : L2.St} {H : Hp} {s : Shared} {Q : VK} {a : Addr} {us ws : List Value} {vs zs : List V} (F : FokM X.prog X.w X.K X.mg X.base CX k C m ps sp n ks dvs pm) (hr : Room k X.A) (hx : PassesAt CX X σ (E σ))
    (I : Inv X pins σ H s) (r : Vals vs us) (rz : Vals zs ws) (l1 : vs.length = n) (l2 : zs.length = ks.length) (h : sp (perm pm ((V.ref a :: vs) ++ zs ++ dvs)) H Q (E σ)) : wpAny (model X.prog X.w) X.A (call (.ref (He.ma X.K (He.ga X.K C) m)) (Value.ref a :: us) (ks.zip ws)) (EP X pins σ Q) X.xe s := by
  obtain ⟨fd, ds, rd, F1, b⟩ := F.ex
  have r1 : Vals (V.ref a :: vs) (Value.ref a :: us) := .cons rfl r
  have n1 : (Value.ref a :: us).length = n + 1 := by rw [List.length_cons, ← r.length, l1]
  refine wpAny_call (codeAny_mono (F1.run X.A X.stack s H ⟨Value.ref a :: us, ks.zip ws⟩ (perm pm ((Value.ref a :: us) ++ ws ++ ds)) (perm pm ((V.ref a :: vs) ++ zs ++ dvs)) Q (E σ) hr I.env0 (b s _ ws I.kIn n1 (rz.length.symm.trans l2)) (perm_rel ((r1.append rz).append rd) pm) h) fun r s' hq => ?_)
  cases r with
  | error e => exact hx pins H s e s' I hq
  | ok fl =>
    cases fl with
    | ret u => exact I.after hq
    | next => exact False.elim hq
    | brk => exact False.elim hq
    | cont => exact False.elim hq
theorem pe_methP {pl : Sem Bool} (he : PE X o ta) (c : Cls X.K (He.ga X.K C)) (hm : Meth X.K (He.ga X.K C) m (He.ma X.K (He.ga X.K C) m)) (F : FokM X.prog X.w X.K X.mg X.base CX k C m ps sp n ks dvs pm) (hr : Room k X.A) (hx : ∀ σ, PassesAt CX X σ (E σ))
    (ha : PA X (e :: es) t) (hkw : PK X kws tk) (hall : (backToKw pos (keywordEach kws X.env)).all (·.1.isSome) = true := by rfl) (hks : (backToKw pos (keywordEach kws X.env)).filterMap (·.1) = ks := by rfl)
    (hst : starEach (e :: es) X.env = (false, eval e X.env) :: starEach es X.env := by rfl)
    (hpl : ((backTo pos (starEach (e :: es) X.env)).any (·.1) || (backToKw pos (keywordEach kws X.env)).any (·.1.isNone)) = false := by rfl)
    (ht : eval (.Call (.Attribute o m apos) (e :: es) kws pos) X.env = (do
      let ov ← eval o X.env
      standAt apos.atName
      let (f, first) ← holding [ov] (getMethod ov m pl)
      callWith pos f first (backTo pos (starEach (e :: es) X.env)) (backToKw pos (keywordEach kws X.env))) := by rfl) {mm : Nat} (hmm : ks.length = mm := by rfl) :
    PE X (.Call (.Attribute o m apos) (e :: es) kws pos) (tMethP X.K C m pm n mm sp dvs E ta t tk) := by
  subst hmm
  refine ⟨fun pins s σ H Q I h => ?_⟩
  refine PySem.W.methodCall_KW (pl := pl) (thn (he.run pins s σ H _ I h) fun u s1 ⟨x, H1, I1, rx, a, dx, fs, ex, ea, l, q⟩ => ?_) ht
  subst ex
  obtain rfl : u = Value.ref a := rx
  refine getmeth_ok I1 ea c hm l ?_
  refine PySem.W.callWith_KW (first := [.ref a]) (h₀ := X.base) I.ok.mod.kin hm.kp hall (thn (ha.run pos pins s1 σ H1 _ I1 q) fun us s2 ⟨vs, H2, I2, r, q2⟩ => ?_) hpl hst
  refine thn (hkw.run pos pins s2 σ H2 _ I2 q2) fun ws s3 ⟨zs, H3, I3, rz, l1, l2, q3⟩ => ⟨I3.kIn, ?_⟩
  rw [hks]
  exact run_fnM F hr (hx σ) I3 r rz l1 l2 q3
/-- o.m(k = v, ..), o.m() -/
theorem pe_methP0 {pl : Sem Bool} (he : PE X o ta) (c : Cls X.K (He.ga X.K C)) (hm : Meth X.K (He.ga X.K C) m (He.ma X.K (He.ga X.K C) m)) (F : FokM X.prog X.w X.K X.mg X.base CX k C m ps sp 0 ks dvs pm) (hr : Room k X.A) (hx : ∀ σ, PassesAt CX X σ (E σ))
    (hkw : PK X kws tk) (hall : (backToKw pos (keywordEach kws X.env)).all (·.1.isSome) = true := by rfl) (hks : (backToKw pos (keywordEach kws X.env)).filterMap (·.1) = ks := by rfl)
    (hpl : ((backTo pos (starEach [] X.env)).any (·.1) || (backToKw pos (keywordEach kws X.env)).any (·.1.isNone)) = false := by rfl)
    (ht : eval (.Call (.Attribute o m apos) [] kws pos) X.env = (do
      let ov ← eval o X.env
      standAt apos.atName
      let (f, first) ← holding [ov] (getMethod ov m pl)
      callWith pos f first (backTo pos (starEach [] X.env)) (backToKw pos (keywordEach kws X.env))) := by rfl) {mm : Nat} (hmm : ks.length = mm := by rfl) :
    PE X (.Call (.Attribute o m apos) [] kws pos) (tMethP X.K C m pm 0 mm sp dvs E ta tNil tk) := by
  subst hmm
  refine ⟨fun pins s σ H Q I h => ?_⟩
  refine PySem.W.methodCall_KW (pl := pl) (thn (he.run pins s σ H _ I h) fun u s1 ⟨x, H1, I1, rx, a, dx, fs, ex, ea, l, q⟩ => ?_) ht
  subst ex
  obtain rfl : u = Value.ref a := rx
  refine getmeth_ok I1 ea c hm l ?_
  refine PySem.W.callWith_KW0 (first := [.ref a]) (h₀ := X.base) I.ok.mod.kin hm.kp hall ?_ hpl
  have q' : tk σ H1 fun zs H3 => ([] : List V).length = 0 ∧ zs.length = ks.length ∧ sp (perm pm ((V.ref a :: []) ++ zs ++ dvs)) H3 Q (E σ) := q
  refine thn (hkw.run pos pins s1 σ H1 _ I1 q') fun ws s3 ⟨zs, H3, I3, rz, l1, l2, q3⟩ => ⟨I3.kIn, ?_⟩
  rw [hks]
  exact run_fnM F hr (hx σ) I3 .nil rz l1 l2 q3
/-! ### new instances -/
/-- C(e, .., k = v, ..) -/
def tMakeP (K : PySem.W.Frag) (C : Str) (pm : List Nat) (n mm : Nat) (sp : Sp) (dvs : List V) (E : L2.St → XK) (t tk : TA) : TE := fun σ H Q => t σ H fun vs H1 => tk σ H1 fun zs H2 => vs.length = n ∧ zs.length = mm ∧ ∀ x dx, H2 x = none → H2 dx = none → dx ≠ x →
  sp (perm pm ((.ref x :: vs) ++ zs ++ dvs)) (upd (upd H2 dx (.own x)) x (.ins (He.ga K C) dx [])) (fun v H3 => v = .non ∧ Q (.ref x) H3) (E σ)
theorem run_makeP {pins : List (Addr × Obj)} {σ : L2.St} {H : Hp} {s : Shared} {Q : VK} {us ws : List Value} {vs zs : List V} (M : Mk X.K (He.ga X.K C) (He.ma X.K (He.ga X.K C) "__init__")) (F : FokM X.prog X.w X.K X.mg X.base CX k C "__init__" ps sp n ks dvs pm) (hr : Room (k + 1) X.A) (hx : PassesAt CX X σ (E σ))
    (I : Inv X pins σ H s) (r : Vals vs us) (rz : Vals zs ws) (l1 : vs.length = n) (l2 : zs.length = ks.length)
    (h : ∀ x dx, H x = none → H dx = none → dx ≠ x → sp (perm pm ((V.ref x :: vs) ++ zs ++ dvs)) (upd (upd H dx (.own x)) x (.ins (He.ga X.K C) dx [])) (fun v H2 => v = .non ∧ Q (.ref x) H2) (E σ)) :
    wpAny (model X.prog X.w) X.A (call (.ref (He.ga X.K C)) us (ks.zip ws)) (EP X pins σ Q) X.xe s := by
  obtain ⟨fd, ds, rd, F1, b⟩ := F.ex
  have hq := h (s.heap.objs.size + 1) s.heap.objs.size (I.hok.fresh (Nat.le_succ _)) (I.hok.fresh (Nat.le_refl _)) (Nat.ne_of_lt (Nat.lt_succ_self _))
  have I2 := Inv.made (C := He.ga X.K C) I
  have r1 : Vals (V.ref (s.heap.objs.size + 1) :: vs) (Value.ref (s.heap.objs.size + 1) :: us) := .cons rfl r
  have n1 : (Value.ref (s.heap.objs.size + 1) :: us).length = n + 1 := by
    rw [List.length_cons, ← r.length, l1]
  refine wpAny_call (make_map (f := He.ma X.K (He.ga X.K C) "__init__") I.kIn M.makes M.init (beq_iff_eq.mp M.fn) (codeAny_mono (F1.run _ X.stack _ _ ⟨Value.ref (s.heap.objs.size + 1) :: us, ks.zip ws⟩ (perm pm ((Value.ref (s.heap.objs.size + 1) :: us) ++ ws ++ ds)) _ _ (E σ) (hr.make (He.ga X.K C) us (ks.zip ws))
    (I2.env0.make (He.ga X.K C) us (ks.zip ws)) (b _ _ ws I2.kIn n1 (rz.length.symm.trans l2)) (perm_rel ((r1.append rz).append rd) pm) hq) fun r s' hq' => ?_))
  cases r with
  | error e => exact hx pins _ _ e s' I2 hq'
  | ok fl =>
    cases fl with
    | ret u =>
      obtain ⟨v, H', I3, rv, ev, q3⟩ := I2.after hq'
      subst ev
      exact ⟨rv, ⟨V.ref (s.heap.objs.size + 1), H', I3, rfl, q3⟩⟩
    | next => exact False.elim hq'
    | brk => exact False.elim hq'
    | cont => exact False.elim hq'
theorem pe_makeP0 (M : Mk X.K (He.ga X.K C) (He.ma X.K (He.ga X.K C) "__init__")) (F : FokM X.prog X.w X.K X.mg X.base CX k C "__init__" ps sp 0 ks dvs pm) (hr : Room (k + 1) X.A) (hg : Gl X C) (hm : X.mg C = some (.ref (He.ga X.K C))) (hx : ∀ σ, PassesAt CX X σ (E σ)) (hkw : PK X kws tk)
    (hall : (backToKw pos (keywordEach kws X.env)).all (·.1.isSome) = true := by rfl) (hks : (backToKw pos (keywordEach kws X.env)).filterMap (·.1) = ks := by rfl) (hdb : (C == ("__debug__" : Str)) = false := by decide)
    (hpl : ((backTo pos (starEach [] X.env)).any (·.1) || (backToKw pos (keywordEach kws X.env)).any (·.1.isNone)) = false := by rfl) {mm : Nat} (hmm : ks.length = mm := by rfl) :
    PE X (.Call (.Name C p) [] kws pos) (tMakeP X.K C pm 0 mm sp dvs E tNil tk) := by
  subst hmm
  refine ⟨fun pins s σ H Q I h => ?_⟩
  refine wpAny_Call_Name_kw (ld_glob I hg hm ?_ hdb)
  refine PySem.W.callWith_KW0 (h₀ := X.base) I.ok.mod.kin M.kp hall ?_ hpl
  refine thn (hkw.run pos pins s σ H _ I h) fun ws s2 ⟨zs, H2, I2, rz, l1, l2, q2⟩ => ⟨I2.kIn, ?_⟩
  rw [hks]
  exact run_makeP (us := []) (vs := []) M F hr (hx σ) I2 .nil rz rfl l2 q2
theorem pe_makeP (M : Mk X.K (He.ga X.K C) (He.ma X.K (He.ga X.K C) "__init__")) (F : FokM X.prog X.w X.K X.mg X.base CX k C "__init__" ps sp n ks dvs pm) (hr : Room (k + 1) X.A) (hg : Gl X C) (hm : X.mg C = some (.ref (He.ga X.K C))) (hx : ∀ σ, PassesAt CX X σ (E σ)) (ha : PA X (e :: es) t) (hkw : PK X kws tk)
    (hall : (backToKw pos (keywordEach kws X.env)).all (·.1.isSome) = true := by rfl) (hks : (backToKw pos (keywordEach kws X.env)).filterMap (·.1) = ks := by rfl) (hdb : (C == ("__debug__" : Str)) = false := by decide)
    (he : starEach (e :: es) X.env = (false, eval e X.env) :: starEach es X.env := by rfl) (hpl : ((backTo pos (starEach (e :: es) X.env)).any (·.1) || (backToKw pos (keywordEach kws X.env)).any (·.1.isNone)) = false := by rfl) {mm : Nat} (hmm : ks.length = mm := by rfl) :
    PE X (.Call (.Name C p) (e :: es) kws pos) (tMakeP X.K C pm n mm sp dvs E t tk) := by
  subst hmm
  refine ⟨fun pins s σ H Q I h => ?_⟩
  refine wpAny_Call_Name_kw (ld_glob I hg hm ?_ hdb)
  refine PySem.W.callWith_KW (h₀ := X.base) I.ok.mod.kin M.kp hall (thn (ha.run pos pins s σ H _ I h) fun us s1 ⟨vs, H1, I1, r, q⟩ => ?_) hpl he
  refine thn (hkw.run pos pins s1 σ H1 _ I1 q) fun ws s2 ⟨zs, H2, I2, rz, l1, l2, q2⟩ => ⟨I2.kIn, ?_⟩
  rw [hks]
  exact run_makeP M F hr (hx σ) I2 r rz l1 l2 q2
end
end Z
namespace Z
open PySem PySem.Spec PyProof.Rows L2 Evl
section
variable {X : Cx} {k n : Nat} {ps : List Str} {sp : Sp} {C m : Str} {pm : List Nat} {dvs : List V}
/-- a method that lets nothing out, run one step further in -/
theorem run_in1 {pins : List (Addr × Obj)} {σ : L2.St} {H : Hp} {s : Shared} {Q : VK} {a : Addr} {us : List Value} {vs : List V} {E' : Value → Shared → Prop} (F : FokM X.prog X.w X.K X.mg X.base CX0 k C m ps sp n [] dvs pm) (hr : Room (k + 1) X.A)
    (I : Inv X pins σ H s) (r : Vals vs us) (l1 : vs.length = n) (h : sp (perm pm ((V.ref a :: vs) ++ dvs)) H Q E0) : wpAny (model X.prog X.w) X.A.in1 (call (.ref (He.ma X.K (He.ga X.K C) m)) (Value.ref a :: us)) (EP X pins σ Q) E' s := by
  obtain ⟨fd, ds, rd, F1, b⟩ := F.ex
  have r1 : Vals (V.ref a :: vs) (Value.ref a :: us) := .cons rfl r
  have n1 : (Value.ref a :: us).length = n + 1 := by rw [List.length_cons, ← r.length, l1]
  have b1 := b s (Value.ref a :: us) [] I.kIn n1 rfl
  rw [List.append_nil] at b1
  refine wpAny_call (codeAny_mono (F1.run X.A.in1 X.stack s H ⟨Value.ref a :: us, []⟩ (perm pm ((Value.ref a :: us) ++ ds)) (perm pm ((V.ref a :: vs) ++ dvs)) Q E0 hr.in1 I.env0.in1 b1 (perm_rel (r1.append rd) pm) h) fun r s' hq => ?_)
  cases r with
  | error e => exact hq.elim
  | ok fl =>
    cases fl with
    | ret u => exact I.after hq
    | next => exact False.elim hq
    | brk => exact False.elim hq
    | cont => exact False.elim hq
theorem run_at {pins : List (Addr × Obj)} {σ : L2.St} {H : Hp} {s : Shared} {Q : VK} {a : Addr} {us : List Value} {vs : List V} {E' : Value → Shared → Prop} (F : FokM X.prog X.w X.K X.mg X.base CX0 k C m ps sp n [] dvs pm) (hr : Room k X.A)
    (I : Inv X pins σ H s) (r : Vals vs us) (l1 : vs.length = n) (h : sp (perm pm ((V.ref a :: vs) ++ dvs)) H Q E0) : wpAny (model X.prog X.w) X.A (call (.ref (He.ma X.K (He.ga X.K C) m)) (Value.ref a :: us)) (EP X pins σ Q) E' s := by
  obtain ⟨fd, ds, rd, F1, b⟩ := F.ex
  have r1 : Vals (V.ref a :: vs) (Value.ref a :: us) := .cons rfl r
  have n1 : (Value.ref a :: us).length = n + 1 := by rw [List.length_cons, ← r.length, l1]
  have b1 := b s (Value.ref a :: us) [] I.kIn n1 rfl
  rw [List.append_nil] at b1
  refine wpAny_call (codeAny_mono (F1.run X.A X.stack s H ⟨Value.ref a :: us, []⟩ (perm pm ((Value.ref a :: us) ++ ds)) (perm pm ((V.ref a :: vs) ++ dvs)) Q E0 hr I.env0 b1 (perm_rel (r1.append rd) pm) h) fun r s' hq => ?_)
  cases r with
  | error e => exact hq.elim
  | ok fl =>
    cases fl with
    | ret u => exact I.after hq
    | next => exact False.elim hq
    | brk => exact False.elim hq
    | cont => exact False.elim hq
/-- len(o) by an own __len__ -/
def rLenO (K : PySem.W.Frag) (C : Str) (pm : List Nat) (sp : Sp) (dvs : List V) : List V → Hp → VK → Prop := fun xs H Q => ∃ a dx fs, xs = [.ref a] ∧ H a = some (.ins (He.ga K C) dx fs) ∧ sp (perm pm ([V.ref a] ++ dvs)) H (fun v H' => ∃ i : Int, v = .int i ∧ 0 ≤ i ∧ i < 2 ^ 63 ∧ Q (.int i) H') E0
theorem call_lenO (hm : Meth X.K (He.ga X.K C) "__len__" (He.ma X.K (He.ga X.K C) "__len__")) (F : FokM X.prog X.w X.K X.mg X.base CX0 k C "__len__" ps sp 0 [] dvs pm) (hr : Room (k + 1) X.A) : CallR X (.builtin "len") (rLenO X.K C pm sp dvs) := by
  intro pins s σ H xs us Q I r h
  obtain ⟨a, dx, fs, rfl, ha, hq⟩ := h
  obtain ⟨u, rfl, ru⟩ := vals1 r
  cases ru
  obtain ⟨mA, O, _⟩ := ins_get I.hok ha
  obtain ⟨od, J, _⟩ := O.look
  obtain ⟨m, hF⟩ := I.fr
  refine PySem.W.len_K hF I.ok.mod.kin J hm.at_ hm.fn (wpAny_mono (run_in1 (us := []) F hr I .nil rfl hq) (fun v s' hv => ?_) fun _ _ z => z)
  obtain ⟨w, H', I', rw_, i, rfl, h0, h1, q⟩ := hv
  obtain ⟨t, rfl⟩ := rw_
  exact ⟨⟨h0, h1⟩, ⟨.int i, H', I'.tok _, ⟨_, rfl⟩, q⟩⟩
/-- o == p, two instances of a class, by an own __eq__ -/
def rEqO (K : PySem.W.Frag) (C : Str) (pm : List Nat) (sp : Sp) (dvs : List V) : R2 := fun x y H Q => ∃ a b dx dy fs gs, x = .ref a ∧ y = .ref b ∧ H a = some (.ins (He.ga K C) dx fs) ∧ H b = some (.ins (He.ga K C) dy gs) ∧ sp (perm pm ([V.ref a, V.ref b] ++ dvs)) H (fun v H' => ∃ i : Bool, v = .bl i ∧ Q (.bl i) H') E0
theorem op_eqO (hm : Meth X.K (He.ga X.K C) "__eq__" (He.ma X.K (He.ga X.K C) "__eq__")) (F : FokM X.prog X.w X.K X.mg X.base CX0 k C "__eq__" ps sp 1 [] dvs pm) (hr : Room k X.A) : OpR X (compareOp .Eq) (rEqO X.K C pm sp dvs) := by
  intro pins s σ H x y v u Q I rx ry h
  obtain ⟨a, b, dx, dy, fs, gs, rfl, rfl, ha, hb, hq⟩ := h
  cases rx
  cases ry
  obtain ⟨mA, O, _⟩ := ins_get I.hok ha
  obtain ⟨od, J, _⟩ := O.look
  obtain ⟨mB, O', _⟩ := ins_get I.hok hb
  obtain ⟨od', J', _⟩ := O'.look
  obtain ⟨m, hF⟩ := I.fr
  refine PySem.W.cmp_ofEq (PySem.W.cmp_K (op := .Eq) (tb := .ref (He.ga X.K C)) hr.units0 hF I.ok.mod.kin J J'.type (by simp [PySem.W.notFirst]) hm.at_ hm.fn (wpAny_mono (run_at (us := [.ref b]) (vs := [.ref b]) F hr I (.cons rfl .nil) rfl hq) (fun v s' hv => ?_) fun _ _ z => z))
  obtain ⟨w, H', I', rw_, i, rfl, q⟩ := hv
  cases rw_
  exact ⟨.bl i, H', I', rfl, q⟩
/-- x in o, by an own __contains__ -/
def rInO (K : PySem.W.Frag) (C : Str) (pm : List Nat) (sp : Sp) (dvs : List V) : R2 := fun x y H Q => ∃ a dx fs, y = .ref a ∧ H a = some (.ins (He.ga K C) dx fs) ∧ sp (perm pm ([V.ref a, x] ++ dvs)) H (fun v H' => ∃ i : Bool, v = .bl i ∧ Q (.bl i) H') E0
def rNinO (K : PySem.W.Frag) (C : Str) (pm : List Nat) (sp : Sp) (dvs : List V) : R2 := fun x y H Q => ∃ a dx fs, y = .ref a ∧ H a = some (.ins (He.ga K C) dx fs) ∧ sp (perm pm ([V.ref a, x] ++ dvs)) H (fun v H' => ∃ i : Bool, v = .bl i ∧ Q (.bl (!i)) H') E0
theorem op_inO (hm : Meth X.K (He.ga X.K C) "__contains__" (He.ma X.K (He.ga X.K C) "__contains__")) (F : FokM X.prog X.w X.K X.mg X.base CX0 k C "__contains__" ps sp 1 [] dvs pm) (hr : Room k X.A) : OpR X (compareOp .In) (rInO X.K C pm sp dvs) := by
  intro pins s σ H x y v u Q I rx ry h
  obtain ⟨a, dx, fs, rfl, ha, hq⟩ := h
  cases ry
  obtain ⟨mA, O, _⟩ := ins_get I.hok ha
  obtain ⟨od, J, _⟩ := O.look
  obtain ⟨m, hF⟩ := I.fr
  refine PySem.W.in_K hF I.ok.mod.kin J hm.at_ hm.fn (wpAny_mono (run_at (us := [v]) (vs := [x]) F hr I (.cons rx .nil) rfl hq) (fun v s' hv => ?_) fun _ _ z => z)
  obtain ⟨w, H', I', rw_, i, rfl, q⟩ := hv
  cases rw_
  exact wpAny_truthy_bool ⟨.bl i, H', I', rfl, q⟩
theorem op_ninO (hm : Meth X.K (He.ga X.K C) "__contains__" (He.ma X.K (He.ga X.K C) "__contains__")) (F : FokM X.prog X.w X.K X.mg X.base CX0 k C "__contains__" ps sp 1 [] dvs pm) (hr : Room k X.A) : OpR X (compareOp .NotIn) (rNinO X.K C pm sp dvs) := by
  intro pins s σ H x y v u Q I rx ry h
  obtain ⟨a, dx, fs, rfl, ha, hq⟩ := h
  cases ry
  obtain ⟨mA, O, _⟩ := ins_get I.hok ha
  obtain ⟨od, J, _⟩ := O.look
  obtain ⟨m, hF⟩ := I.fr
  refine PySem.W.notIn_K hF I.ok.mod.kin J hm.at_ hm.fn (wpAny_mono (run_at (us := [v]) (vs := [x]) F hr I (.cons rx .nil) rfl hq) (fun v s' hv => ?_) fun _ _ z => z)
  obtain ⟨w, H', I', rw_, i, rfl, q⟩ := hv
  cases rw_
  exact wpAny_truthy_bool ⟨.bl (!i), H', I', rfl, q⟩
end
/-! ### isinstance with an own class -/
structure IsO (K : PySem.W.Frag) (C : Str) : Prop where
  cl : Cls K (He.ga K C)
  ha : PySem.W.findIn K (.ref (He.ga K C)) "__class__" = some (some (.builtin "object.__class__"))
  hn : PySem.W.specialIn K (.builtin "object.__class__") "__get__" = some (some (.builtin "getset_descriptor.__get__"))
  htk : PySem.W.takesIn K (.builtin "object.__class__") = some true
  hm : PySem.W.mroIn K (He.ga K C) (.type "object") = some true
  me : PySem.W.kitOne K (.ref (He.ga K C)) (.ref (He.ga K C)) = some true
  ty : ∀ T ∈ (["NoneType", "bool", "int", "str", "tuple", "list", "dict"] : List String), PySem.W.kitOne K (.type T) (.ref (He.ga K C)) = some false
  no : ∀ T ∈ (["int", "bool", "str", "tuple", "list", "dict"] : List String), PySem.W.kitOne K (.ref (He.ga K C)) (.type T) = some false
theorem IsO.tyX {K : PySem.W.Frag} {C : Str} (c : IsO K C) {H : Hp} {a dx : Addr} {fs : List (Str × V)} (h : H a = some (.ins (He.ga K C) dx fs)) : TyX K H (.ref a) (.ref (He.ga K C)) := .base (TyOf.ins h c.cl c.ha c.hn c.htk c.hm)
def isoB (K : PySem.W.Frag) (C : Addr) : Bool := eqB (PySem.W.findIn K (.ref C) "__class__") (some (some (.builtin "object.__class__"))) && (eqB (PySem.W.specialIn K (.builtin "object.__class__") "__get__") (some (some (.builtin "getset_descriptor.__get__"))) &&
  (eqB (PySem.W.takesIn K (.builtin "object.__class__")) (some true) && (eqB (PySem.W.mroIn K C (.type "object")) (some true) && (eqB (PySem.W.kitOne K (.ref C) (.ref C)) (some true) && (((["NoneType", "bool", "int", "str", "tuple", "list", "dict"] : List String).all fun T => eqB (PySem.W.kitOne K (.type T) (.ref C)) (some false)) && (["int", "bool", "str", "tuple", "list", "dict"] : List String).all fun T => eqB (PySem.W.kitOne K (.ref C) (.type T)) (some false))))))
theorem isoB_ok {K : PySem.W.Frag} {C : Str} (cl : Cls K (He.ga K C)) (h : isoB K (He.ga K C) = true) : IsO K C := by
  obtain ⟨h1, h⟩ := He.ba h
  obtain ⟨h2, h⟩ := He.ba h
  obtain ⟨h3, h⟩ := He.ba h
  obtain ⟨h4, h⟩ := He.ba h
  obtain ⟨h5, h⟩ := He.ba h
  obtain ⟨h6, h7⟩ := He.ba h
  exact ⟨cl, eqB_ok h1, eqB_ok h2, eqB_ok h3, eqB_ok h4, eqB_ok h5, fun T hT => eqB_ok (List.all_eq_true.mp h6 T hT), fun T hT => eqB_ok (List.all_eq_true.mp h7 T hT)⟩
/-! ### == of dicts, values by identity or == -/
section
variable {X : Cx} {pins : List (Addr × Obj)} {σ : L2.St} {H : Hp} {s : Shared}
/-- key by key -/
inductive KHit (E : V → V → Bool → Prop) (ls : List (Key × V)) : List (Key × V) → Bool → Prop
  | nil : KHit E ls [] true
  | miss {k : Key} {v : V} {r : List (Key × V)} : valV ls k = none → KHit E ls ((k, v) :: r) false
  | hit {k : Key} {v u : V} {r : List (Key × V)} {e b : Bool} : valV ls k = some u → E v u e → KHit E ls r b → KHit E ls ((k, v) :: r) (e && b)
theorem KHit.run {P : Program} {w : World} {A : Around} {E : V → V → Bool → Prop} (ih : ∀ {x y : V} {b : Bool} {v u : Value}, E x y b → RelV x v → RelV y u → SeqAt.EqAt A s v u b) {ls : List (Key × V)} {vb : List (Key × Value)} (rb : KV ls vb) {ks : List (Key × V)} {r : Bool} (h : KHit E ls ks r) :
    ∀ {va : List (Key × Value)}, KV ks va → PySem.W.KeqHitsP P w A s vb va r := by
  induction h with
  | nil =>
    intro va ra
    unfold KV at ra
    cases ra
    exact .nil
  | @miss k v r e =>
    intro va ra
    unfold KV at ra
    cases ra with
    | @cons p q ps qs h t =>
      obtain ⟨h1, h2⟩ := h
      obtain ⟨key, w'⟩ := q
      have h1 : k = key := h1
      subst h1
      have rr : RelO none (valueAt vb k) := by rw [← e]; exact rb.val k
      exact .miss (RelO.none_of rr)
  | @hit k v u r e b hu hE _ ihr =>
    intro va ra
    unfold KV at ra
    cases ra with
    | @cons p q ps qs h t =>
      obtain ⟨h1, h2⟩ := h
      obtain ⟨key, w'⟩ := q
      have h1 : k = key := h1
      subst h1
      have rr : RelO (some u) (valueAt vb k) := by rw [← hu]; exact rb.val k
      obtain ⟨y, hy, ry⟩ := rr.some_of
      exact .hit hy (ih hE h2 ry).eqP (ihr t)
def rEqK (K : PySem.W.Frag) : R2 := fun x y H Q => ∃ a b ks ls r, x = .ref a ∧ y = .ref b ∧ Rd H a (.dK ks) ∧ Rd H b (.dK ls) ∧ (ks.length = ls.length → KHit (EqI K H 60) ls ks r) ∧ Q (.bl (decide (ks.length = ls.length) && r)) H
theorem op_eqK {X : Cx} (hu : X.A.units + 64 < cLine) : OpR X (compareOp .Eq) (rEqK X.K) := by
  intro pins s σ H x y v u Q I rx ry h
  obtain ⟨a, b, ks, ls, r, rfl, rfl, ha, hb, hh, q⟩ := h
  cases rx
  cases ry
  obtain ⟨_, ya, va, ra, da⟩ := dk_rd I.hok ha
  obtain ⟨_, yb, vb, rb, db⟩ := dk_rd I.hok hb
  have la := ra.length
  have lb := rb.length
  refine PySem.W.cmp_ofEq (PySem.W.rcP_dicts (knd := mixKind X.prog X.w) (r := r) ya yb da db (by omega) (fun hl => (hh (by omega)).run (fun h1 r1 r2 => EqI.run I (n := 60) (A := X.A.in1) (by show X.A.units + 1 + 60 < cLine; omega) h1 r1 r2) rb ra) _ _ ?_)
  refine ⟨.bl (va.length == vb.length && r), H, I, rfl, ?_⟩
  have e : (va.length == vb.length) = decide (ks.length = ls.length) := by
    rw [Bool.beq_eq_decide_eq, ← la, ← lb]
  rw [e]
  exact q
end
end Z
namespace Z
open PySem PySem.Spec PyProof.Rows L2 Evl
theorem mbinds {K : PySem.W.Frag} {x qual : Str} {params : Arguments} {body : List Stmt} {scope : Scope} {kws : List (Str × V)} {f : Addr} {fd : FuncData} {ps ks : List Str} {n : Nat} {p : List Nat} (F : FunD K x qual params body scope [] kws f fd)
    (h : ∀ (kV doc pm : Value) (an : Option Addr) (cdv ct : Value) (us ws : List Value), us.length = n + 1 → ws.length = ks.length → bindArgs (PySem.W.fnOf x qual params body scope .none kV doc pm an cdv ct) ⟨us, ks.zip ws⟩ = pure (ps.zip (perm p (us ++ ws)))) :
    ∀ (s : Shared) (us ws : List Value), K.In s.heap → us.length = n + 1 → ws.length = ks.length → BindsTo s fd ⟨us, ks.zip ws⟩ (ps.zip (perm p (us ++ ws ++ []))) := fun s us ws _ h1 h2 => by
  rw [List.append_nil]
  exact kbinds F h s us ws h1 h2
end Z

namespace Z
open PySem PySem.Spec PyProof.Rows L2 Evl
def top (i : Nat) : Stmt := PySem.Challenge.pw_shiftparts_k18_texts_of_strengths.main.body.getD i (.Pass ⟨0, 0, 0, 0⟩)
def mtop (i j : Nat) : Stmt := match top i with
  | .ClassDef _ _ _ b _ _ _ _ _ _ _ => b.getD j (.Pass ⟨0, 0, 0, 0⟩)
  | _ => .Pass ⟨0, 0, 0, 0⟩
abbrev s_is_name : Stmt := top 15
abbrev s_need_modes : Stmt := top 19
abbrev s_need_clashes : Stmt := top 20
abbrev s_Strengths_init : Stmt := mtop 21 0
abbrev s_Strengths_modes : Stmt := mtop 21 1
abbrev s_Strengths_need : Stmt := mtop 21 2
abbrev s_Strengths_clash : Stmt := mtop 21 3
abbrev s_Strengths_clashes : Stmt := mtop 21 6
abbrev s_Strengths_len : Stmt := mtop 21 10
abbrev s_Strengths_eq : Stmt := mtop 21 11
abbrev s_Strengths_str : Stmt := mtop 21 12
abbrev s_read_modes : Stmt := top 22
abbrev s_read_strengths : Stmt := top 23
abbrev s_law_cell : Stmt := top 25
abbrev s_law_box : Stmt := top 26
abbrev s_law_take : Stmt := top 27
abbrev s_law_mixed : Stmt := top 28
abbrev s_law_names : Stmt := top 29
abbrev s_law_modes : Stmt := top 30
abbrev s_law_against : Stmt := top 31
abbrev s_law_pairs : Stmt := top 32
abbrev s_law_text : Stmt := top 33
abbrev s_law_is_name : Stmt := top 34
abbrev s_law_read : Stmt := top 35
abbrev s_law_told : Stmt := top 36
abbrev s_law_bent : Stmt := top 37
abbrev s_law : Stmt := top 38
def fa : List He.Fa := [.free "all", .free "enumerate", .free "isinstance", .free "len", .free "list", .free "max", .free "min", .free "range", .free "str", .free "super", .free "tuple", .glo "Duplicate", .glo "InvalidClash", .glo "InvalidModes", .glo "InvalidName", .glo "InvalidStrengths", .glo "InvalidText", .str "LETTERS" "abcdefghijklmnopqrstuvwxyz", .int "MOST_LETTERS" 8, .int "MOST_MODES" 8, .int "MOST_SIGNS" 4000, .glo "PartsError", .str "SIGN" "!", .glo "Strengths", .str "TABLE" "table", .glo "UnknownMode", .cls "Strengths", .noat "Strengths" "own_modes", .noat "Strengths" "against", .mkr "Strengths", .meth "Strengths" "__eq__", .meth "Strengths" "__str__", .meth "Strengths" "clashes", .meth "Strengths" "need", .exm "Duplicate" "InvalidText" false, .exm "Duplicate" "PartsError" true, .exm "InvalidClash" "InvalidText" false, .exm "InvalidClash" "PartsError" true, .exm "InvalidModes" "InvalidText" false, .exm "InvalidModes" "PartsError" true, .exm "InvalidName" "InvalidText" false, .exm "InvalidName" "PartsError" true, .exm "InvalidStrengths" "InvalidText" false, .exm "InvalidStrengths" "PartsError" true, .exm "InvalidText" "InvalidText" true, .exm "InvalidText" "PartsError" true, .exm "UnknownMode" "InvalidText" false, .exm "UnknownMode" "PartsError" true, .glo "is_name", .glo "need_modes", .glo "need_clashes", .glo "read_modes", .glo "read_strengths", .glo "_law_cell", .glo "_law_box", .glo "_law_take", .glo "_law_mixed", .glo "_law_names", .glo "_law_modes", .glo "_law_against", .glo "_law_pairs", .glo "_law_text", .glo "_law_is_name", .glo "_law_read", .glo "_law_told", .glo "_law_bent", .glo "law"]
def fn : List He.DefD := [⟨("is_name", none), "is_name", "is_name", defArgs s_is_name, defBody s_is_name, defScope s_is_name, [], []⟩, ⟨("need_modes", none), "need_modes", "need_modes", defArgs s_need_modes, defBody s_need_modes, defScope s_need_modes, [], []⟩, ⟨("need_clashes", none), "need_clashes", "need_clashes", defArgs s_need_clashes, defBody s_need_clashes, defScope s_need_clashes, [], []⟩, ⟨("Strengths", some "__init__"), "__init__", "Strengths.__init__", defArgs s_Strengths_init, defBody s_Strengths_init, defScope s_Strengths_init, [], []⟩, ⟨("Strengths", some "modes"), "modes", "Strengths.modes", defArgs s_Strengths_modes, defBody s_Strengths_modes, defScope s_Strengths_modes, [], []⟩, ⟨("Strengths", some "need"), "need", "Strengths.need", defArgs s_Strengths_need, defBody s_Strengths_need, defScope s_Strengths_need, [], []⟩, ⟨("Strengths", some "clash"), "clash", "Strengths.clash", defArgs s_Strengths_clash, defBody s_Strengths_clash, defScope s_Strengths_clash, [], []⟩, ⟨("Strengths", some "clashes"), "clashes", "Strengths.clashes", defArgs s_Strengths_clashes, defBody s_Strengths_clashes, defScope s_Strengths_clashes, [], []⟩, ⟨("Strengths", some "__len__"), "__len__", "Strengths.__len__", defArgs s_Strengths_len, defBody s_Strengths_len, defScope s_Strengths_len, [], []⟩, ⟨("Strengths", some "__eq__"), "__eq__", "Strengths.__eq__", defArgs s_Strengths_eq, defBody s_Strengths_eq, defScope s_Strengths_eq, [], []⟩, ⟨("Strengths", some "__str__"), "__str__", "Strengths.__str__", defArgs s_Strengths_str, defBody s_Strengths_str, defScope s_Strengths_str, [], []⟩, ⟨("read_modes", none), "read_modes", "read_modes", defArgs s_read_modes, defBody s_read_modes, defScope s_read_modes, [], []⟩, ⟨("read_strengths", none), "read_strengths", "read_strengths", defArgs s_read_strengths, defBody s_read_strengths, defScope s_read_strengths, [], []⟩, ⟨("_law_cell", none), "_law_cell", "_law_cell", defArgs s_law_cell, defBody s_law_cell, defScope s_law_cell, [], []⟩, ⟨("_law_box", none), "_law_box", "_law_box", defArgs s_law_box, defBody s_law_box, defScope s_law_box, [], []⟩, ⟨("_law_take", none), "_law_take", "_law_take", defArgs s_law_take, defBody s_law_take, defScope s_law_take, [], []⟩, ⟨("_law_mixed", none), "_law_mixed", "_law_mixed", defArgs s_law_mixed, defBody s_law_mixed, defScope s_law_mixed, [], []⟩, ⟨("_law_names", none), "_law_names", "_law_names", defArgs s_law_names, defBody s_law_names, defScope s_law_names, [], []⟩, ⟨("_law_modes", none), "_law_modes", "_law_modes", defArgs s_law_modes, defBody s_law_modes, defScope s_law_modes, [], []⟩, ⟨("_law_against", none), "_law_against", "_law_against", defArgs s_law_against, defBody s_law_against, defScope s_law_against, [], []⟩, ⟨("_law_pairs", none), "_law_pairs", "_law_pairs", defArgs s_law_pairs, defBody s_law_pairs, defScope s_law_pairs, [], []⟩, ⟨("_law_text", none), "_law_text", "_law_text", defArgs s_law_text, defBody s_law_text, defScope s_law_text, [], []⟩, ⟨("_law_is_name", none), "_law_is_name", "_law_is_name", defArgs s_law_is_name, defBody s_law_is_name, defScope s_law_is_name, [], []⟩, ⟨("_law_read", none), "_law_read", "_law_read", defArgs s_law_read, defBody s_law_read, defScope s_law_read, [], []⟩, ⟨("_law_told", none), "_law_told", "_law_told", defArgs s_law_told, defBody s_law_told, defScope s_law_told, [], []⟩, ⟨("_law_bent", none), "_law_bent", "_law_bent", defArgs s_law_bent, defBody s_law_bent, defScope s_law_bent, [], []⟩, ⟨("law", none), "law", "law", defArgs s_law, defBody s_law, defScope s_law, [], []⟩]
def pr : List He.DefD := []
def fs : List ((Str × Option Str) × FnS) := [(("Duplicate", some "__init__"), some ("__init__", "Duplicate.__init__", (PySem.Sxname.iA ⟨34, 17, 34, 21⟩ ⟨34, 23, 34, 27⟩), FuncBody.stmts (PySem.Sxname.iB "the name comes twice" ⟨35, 8, 35, 13⟩ ⟨35, 8, 35, 15⟩ ⟨35, 8, 35, 24⟩ ⟨35, 25, 35, 47⟩ ⟨35, 8, 35, 48⟩ ⟨35, 8, 35, 48⟩ ⟨36, 8, 36, 12⟩ ⟨36, 8, 36, 17⟩ ⟨36, 20, 36, 24⟩ ⟨36, 8, 36, 24⟩), PySem.Sxname.iS, mainGlobals, [("__class__" : Str)], builtinsNs)),
  (("InvalidClash", some "__init__"), some ("__init__", "InvalidClash.__init__", (PySem.Sxvalue.iA ⟨19, 17, 19, 21⟩ ⟨19, 23, 19, 28⟩), FuncBody.stmts (PySem.Sxvalue.iB "the value is not a clash" ⟨20, 8, 20, 13⟩ ⟨20, 8, 20, 15⟩ ⟨20, 8, 20, 24⟩ ⟨20, 25, 20, 51⟩ ⟨20, 8, 20, 52⟩ ⟨20, 8, 20, 52⟩ ⟨21, 8, 21, 12⟩ ⟨21, 8, 21, 18⟩ ⟨21, 21, 21, 26⟩ ⟨21, 8, 21, 26⟩), PySem.Sxvalue.iS, mainGlobals, [("__class__" : Str)], builtinsNs)),
  (("InvalidModes", some "__init__"), some ("__init__", "InvalidModes.__init__", (PySem.Sxvalue.iA ⟨14, 17, 14, 21⟩ ⟨14, 23, 14, 28⟩), FuncBody.stmts (PySem.Sxvalue.iB "the value is not a list of modes" ⟨15, 8, 15, 13⟩ ⟨15, 8, 15, 15⟩ ⟨15, 8, 15, 24⟩ ⟨15, 25, 15, 59⟩ ⟨15, 8, 15, 60⟩ ⟨15, 8, 15, 60⟩ ⟨16, 8, 16, 12⟩ ⟨16, 8, 16, 18⟩ ⟨16, 21, 16, 26⟩ ⟨16, 8, 16, 26⟩), PySem.Sxvalue.iS, mainGlobals, [("__class__" : Str)], builtinsNs)),
  (("InvalidName", some "__init__"), some ("__init__", "InvalidName.__init__", (PySem.Sxvalue.iA ⟨9, 17, 9, 21⟩ ⟨9, 23, 9, 28⟩), FuncBody.stmts (PySem.Sxvalue.iB "the value is not a name" ⟨10, 8, 10, 13⟩ ⟨10, 8, 10, 15⟩ ⟨10, 8, 10, 24⟩ ⟨10, 25, 10, 50⟩ ⟨10, 8, 10, 51⟩ ⟨10, 8, 10, 51⟩ ⟨11, 8, 11, 12⟩ ⟨11, 8, 11, 18⟩ ⟨11, 21, 11, 26⟩ ⟨11, 8, 11, 26⟩), PySem.Sxvalue.iS, mainGlobals, [("__class__" : Str)], builtinsNs)),
  (("InvalidStrengths", some "__init__"), some ("__init__", "InvalidStrengths.__init__", (PySem.Sxvalue.iA ⟨24, 17, 24, 21⟩ ⟨24, 23, 24, 28⟩), FuncBody.stmts (PySem.Sxvalue.iB "the value is not strengths or clashes" ⟨25, 8, 25, 13⟩ ⟨25, 8, 25, 15⟩ ⟨25, 8, 25, 24⟩ ⟨25, 25, 25, 64⟩ ⟨25, 8, 25, 65⟩ ⟨25, 8, 25, 65⟩ ⟨26, 8, 26, 12⟩ ⟨26, 8, 26, 18⟩ ⟨26, 21, 26, 26⟩ ⟨26, 8, 26, 26⟩), PySem.Sxvalue.iS, mainGlobals, [("__class__" : Str)], builtinsNs)),
  (("InvalidText", some "__init__"), some ("__init__", "InvalidText.__init__", (PySem.Sxvalue.iA ⟨29, 17, 29, 21⟩ ⟨29, 23, 29, 28⟩), FuncBody.stmts (PySem.Sxvalue.iB "the value is not a text that is asked for" ⟨30, 8, 30, 13⟩ ⟨30, 8, 30, 15⟩ ⟨30, 8, 30, 24⟩ ⟨30, 25, 30, 68⟩ ⟨30, 8, 30, 69⟩ ⟨30, 8, 30, 69⟩ ⟨31, 8, 31, 12⟩ ⟨31, 8, 31, 18⟩ ⟨31, 21, 31, 26⟩ ⟨31, 8, 31, 26⟩), PySem.Sxvalue.iS, mainGlobals, [("__class__" : Str)], builtinsNs)),
  (("UnknownMode", some "__init__"), some ("__init__", "UnknownMode.__init__", (PySem.Sxname.iA ⟨39, 17, 39, 21⟩ ⟨39, 23, 39, 27⟩), FuncBody.stmts (PySem.Sxname.iB "there is no such mode" ⟨40, 8, 40, 13⟩ ⟨40, 8, 40, 15⟩ ⟨40, 8, 40, 24⟩ ⟨40, 25, 40, 48⟩ ⟨40, 8, 40, 49⟩ ⟨40, 8, 40, 49⟩ ⟨41, 8, 41, 12⟩ ⟨41, 8, 41, 17⟩ ⟨41, 20, 41, 24⟩ ⟨41, 8, 41, 24⟩), PySem.Sxname.iS, mainGlobals, [("__class__" : Str)], builtinsNs))]
def ts : List He.Tab := []
def cu : List (PySem.W.Frag → Bool) := [fun K => isoB K (He.ga K "Strengths"), fun K => Chkname PySem.Challenge.pw_shiftparts_k18_texts_of_strengths K "Duplicate", fun K => Chkvalue PySem.Challenge.pw_shiftparts_k18_texts_of_strengths K "InvalidClash", fun K => Chkvalue PySem.Challenge.pw_shiftparts_k18_texts_of_strengths K "InvalidModes", fun K => Chkvalue PySem.Challenge.pw_shiftparts_k18_texts_of_strengths K "InvalidName", fun K => Chkvalue PySem.Challenge.pw_shiftparts_k18_texts_of_strengths K "InvalidStrengths", fun K => Chkvalue PySem.Challenge.pw_shiftparts_k18_texts_of_strengths K "InvalidText", fun K => Chkname PySem.Challenge.pw_shiftparts_k18_texts_of_strengths K "UnknownMode", fun K => xfB K (He.ga K "InvalidText"), fun K => eqB (PySem.W.findIn K (.ref (He.ga K "InvalidText")) "value") (some none)]
end Z
namespace Z
open PySem PySem.Spec PyProof.Rows L2
/-! ### the end -/
abbrev R : PySem.W.OpenRow := PySem.W.OpenLaw.row PySem.Challenge.rw_shiftparts_k18_texts_of_strengths
abbrev hk : PySem.W.Hook := hookX 6 fa fn fs cu ts pr
def ob (s : PySem.W.SharedT) : AlX := obsXG 6 fa fn fs cu ts pr (HandSHeadRun.getT s)
theorem ob_eq (s : PySem.W.SharedT) : ob s = hk.obs s.abs := obsXG_eq (HandSHeadRun.getT_eq s)
def loose : List PySem.Str := (["_wall", "PartsError", "InvalidName", "InvalidModes", "InvalidClash", "InvalidStrengths", "InvalidText", "Duplicate", "UnknownMode", "LETTERS", "MOST_LETTERS", "MOST_SIGNS", "TABLE", "is_name", "MOST_MODES", "SIGN", "need_modes", "need_clashes", "Strengths", "read_modes", "read_strengths", "_law_cell", "_law_box", "_law_take", "_law_mixed", "_law_names", "_law_modes", "_law_against", "_law_pairs", "_law_text"] : List PySem.Str) ++ (["_law_is_name", "_law_read", "_law_told", "_law_bent"] : List PySem.Str)
theorem run (w : World) : HandSHeadRun.RunEq R (PySem.W.view R.prog [38]) hk ob 4000 loose w := by
  intro os
  kernel_rfl
end Z
/-! L9: enumerate of a tuple -/
namespace Z
open PySem PySem.Spec PyProof.Rows L2 Evl
set_option maxHeartbeats 4000000 in
theorem meets_enum1 {v : Value} {o : Obj} {G : Heap → Prop} (B : Begins v o G) :
    Meets (Builtin.«enumerate.__new__» ⟨[.type "enumerate", v], []⟩) (fun _ R s => G s.heap ∧
      R (.ok (.ret (.ref (s.heap.push o).objs.size))) { s with heap := (s.heap.push o).push { cls := .type "enumerate", data := .fields #[.none, .bool false, .ref s.heap.objs.size, rawInt 0, .none, .none] } }) :=
  .of_wp fun prog w A R s h => by
    obtain ⟨hp, g, d, tk, os⟩ := s
    obtain ⟨h1, h⟩ := h
    have hsub := sub_enumerate
    have q1 : ∀ {A' : Around} {E : Value → Shared → Prop} {Q : Value → Shared → Prop}, Q (.ref hp.objs.size) ⟨hp.push o, g, d, tk, os⟩ → wpAny (model prog w) A' (pyIter v) Q E ⟨hp, g, d, tk, os⟩ :=
      fun q => B.iter prog w _ _ ⟨hp, g, d, tk, os⟩ _ h1 q
    wp_walk using q1
    refine wpAny_stack_any fun st => wpAny_pure ?_
    split
    · rename_i c _ _ _ _ _
      cases (c == Value.type "enumerate")
      · wp_walk using q1
        exact ⟨_, rfl, h⟩
      · wp_walk using q1
        exact ⟨_, rfl, h⟩
    · wp_walk using q1
      exact ⟨_, rfl, h⟩
section
variable {prog : Program} {w : World} {A : Around} {E : Value → Shared → Prop} {s : Shared}
theorem call_enum1 {v : Value} {o : Obj} {G : Heap → Prop} {Q : Value → Shared → Prop} (B : Begins v o G) (h1 : G s.heap)
    (h : ∀ h', IsEnum h' (s.heap.objs.size + 1) s.heap.objs.size 0 .none → h'.get? s.heap.objs.size = some o →
      (∀ b o, s.heap.get? b = some o → h'.get? b = some o) → Q (.ref (s.heap.objs.size + 1)) { s with heap := h' }) :
    wpAny (model prog w) A (call (.type "enumerate") [v]) Q E s := by
  refine callType_new F.called_enumerate (by decide) (F.typeCall_enumerate_1 _) (F.newCall_enumerate_1 _) (fun obj => F.args_object_init_2 obj _) F.entry_enumerate_new
    (meets_enum1 B) ⟨h1, ?_⟩
  have hz : (s.heap.push o).objs.size = s.heap.objs.size + 1 := Heap.size_push ..
  show _ ∧ _
  rw [hz]
  have he : IsEnum ((s.heap.push o).push { cls := .type "enumerate", data := .fields #[.none, .bool false, .ref s.heap.objs.size, rawInt 0, .none, .none] }) (s.heap.objs.size + 1) s.heap.objs.size 0 .none := by
    have := Heap.get?_push_size (s.heap.push o) (o := { cls := .type "enumerate", data := .fields #[.none, .bool false, .ref s.heap.objs.size, rawInt 0, .none, .none] }) rfl
    rw [hz] at this
    exact this
  exact ⟨⟨_, he, rfl⟩, h _ he (Heap.get?_push_of_some _ (Heap.get?_push_size _ B.free)) fun b o x => Heap.get?_push_of_some _ (Heap.get?_push_of_some _ x)⟩
end
def IteT (K : PySem.W.Frag) (a : Addr) : It :=
  ⟨fun i H => ∃ (xs : List V) (x : V), SqT K H a xs ∧ xs[i]? = some x, fun i H v H' => ∃ T x, v = .ref T ∧ H T = none ∧ H' = upd H T (.tup [.int (i : Nat), x]) ∧ ∀ xs, SqT K H a xs → xs[i]? = some x, fun i H => ∃ xs : List V, SqT K H a xs ∧ xs.length ≤ i⟩
theorem turn_enumT {P : Program} {w : World} {K : PySem.W.Frag} {elts : List Expr} {kk : Nat} {tpos : Pos} (a e it : Addr) (hne : e ≠ it) (hea : e ≠ a) (hia : a ≠ it) :
    Turn P w K (.Tuple elts kk tpos) (IteT K a) [e, it] e (fun i h => (∃ old, IsEnum h e it ((i : Nat) : Int) old) ∧ h.IsTupleIter it a i) where
  mem := by simp
  obj := fun i h st b hb => by
    obtain ⟨⟨old, he⟩, ⟨o, ho, hc, hd⟩⟩ := st
    have e' : b = e ∨ b = it := by simpa using hb
    rcases e' with z | z
    · rw [z]; exact ⟨_, he, fun v q => nomatch q⟩
    · rw [z]; exact ⟨o, ho, fun v q => by rw [hd] at q; cases q⟩
  keep := fun i h h' st k => let ⟨⟨old, he⟩, hi⟩ := st; ⟨⟨old, k e (by simp) _ he⟩, hi.at fun o q => k it (by simp) o q⟩
  item := by
    intro X hP hw hK hc i pins s σ H E I hf st hg
    subst hP hw hK
    obtain ⟨⟨old, he⟩, hit⟩ := st
    obtain ⟨xs, x, hq, hx⟩ := hg
    obtain ⟨its, rv, p, hz⟩ := I.tuple hq
    obtain ⟨u, hu, ru⟩ := rv.get hx
    have hel : e < s.heap.objs.size := Heap.lt_size he
    have hil : it < s.heap.objs.size := by obtain ⟨_, q, _⟩ := hit; exact Heap.lt_size q
    have hlt : i < its.toArray.size := by
      have := (List.getElem?_eq_some_iff.1 hu).1
      simpa using this
    have hD := Draws.tuple (prog := X.prog) (w := X.w) (A := X.A.in1) (I.ok.hd hc) it a hia its.toArray
    refine wpAny_pyNext_enum_itemD hD he ⟨hit, show s.heap.IsTuple a its.toArray from p⟩ hlt hne (by simp [hne, hea]) fun y h' tk hy ho st' hT hsz hk => ?_
    have ey : y = u := by
      have h1 : its.toArray[i]? = some u := by simpa using hu
      exact Option.some.inj (hy.symm.trans h1)
    subst ey
    refine ⟨_, rfl, wpAny_letOwnedTupleGo_enum (s := { s with heap := h', toks := tk + 1 }) ho fun h'' he' sb => ?_⟩
    have hT2 : h''.get? s.heap.objs.size = some { cls := .type "tuple", data := .seq #[.int i tk, y] } := (sb.2 _ (Nat.ne_of_gt hel)).trans hT
    have new : ObjOk X.prog X.w (upd H s.heap.objs.size (.tup [.int (i : Nat), x])) h'' s.heap.objs.size (.tup [.int (i : Nat), x]) :=
      ⟨by show 2 ≤ sizeLine; decide, [.int i tk, y], .cons ⟨_, rfl⟩ (.cons ru .nil), ⟨_, hT2, rfl, _, rfl⟩⟩
    have I1 : Inv X pins σ (upd H s.heap.objs.size (.tup [.int (i : Nat), x])) { s with heap := h'', toks := tk + 1 } :=
      I.turnedNew (ch := [e, it]) (fun b ob hb q => (sb.2 b (fun z => hb (by simp [z]))).trans (hk b ob (fun z => hb (by simp [z])) (fun z => hb (by simp [z])) q)) hf (Nat.le_refl _) new
    refine ⟨.ref s.heap.objs.size, _, I1, rfl, ⟨_, x, rfl, I.hok.fresh (Nat.le_refl _), rfl, fun ys hy => by rw [I.tuple_inj hy hq]; exact hx⟩, ⟨⟨y, ?_⟩, st'.1.at fun o q => (sb.2 it (Ne.symm hne)).trans q⟩, fun b hb => ?_⟩
    · have e1 : ((i + 1 : Nat) : Int) = (i : Int) + 1 := by omega
      rw [e1]; exact he'
    · have hb' : b < s.heap.objs.size := by
        have e' : b = e ∨ b = it := by simpa using hb
        rcases e' with z | z
        · rw [z]; exact hel
        · rw [z]; exact hil
      rw [upd_ne (Nat.ne_of_lt hb')]
      exact (hf b hb).1
  done := by
    intro X hP hw hK hc i pins s σ H E I hf st hg
    subst hP hw hK
    obtain ⟨⟨old, he⟩, hit⟩ := st
    obtain ⟨xs, hq, hx⟩ := hg
    obtain ⟨its, rv, p, hz⟩ := I.tuple hq
    obtain ⟨f0, f1, f2, f3, f4, f5⟩ := hf it (by simp)
    have hl := rv.length
    have hm : s.heap.IsTupleIter it a i := hit
    have hh := I.ok.hd hc
    have hT : s.TypeIs (.ref e) "enumerate" := ⟨_, he, rfl⟩
    unfold pyNext
    refine wpAny_bind (wpAny_attempt (wpAny_callSpecial?_slot (name := Str.ofString "__next__") hT F.slot_enumerate_next
      (wpAny_call_entry F.slot_enumerate_next hT F.entry_enumerate_next ?_ (F.args_enumerate_next_1 _))))
    show wpAny _ _ (field (.ref e) 2 >>= _) _ _ _
    refine wpAny_bind (wpAny_field he rfl (x := .ref it) rfl ?_)
    refine wpAny_bind (wpAny_nextOf_tuple_end hh hm (show s.heap.IsTuple a its.toArray from p) (by simp; omega) fun h' x eb hx' => ?_)
    obtain ⟨o, ho, hc'⟩ := hx'
    refine wpAny_bind (wpAny_isInstance (T := "StopIteration") (b := true) ⟨o, ho, hc'⟩ isSubtype_stop ?_)
    exact wpAny_pure ⟨rfl, I.turned (t' := s.toks) (fun b o hb q => eb b o hb q) f0 f1 f3 f4 f5⟩
  self := fun A i s Q E st h => let ⟨⟨_, he⟩, _⟩ := st; wpAny_pyIter_enum he h
section
variable {X : Cx} {pins : List (Addr × Obj)} {σ : L2.St} {H : Hp} {s : Shared} {a : Addr} {xs : List V} {R : It → Hp → Prop} {E : Value → Shared → Prop} {elts : List Expr} {kk : Nat} {tpos : Pos}
theorem enum_list (I : Inv X pins σ H s) (hq : SqL X.K H a xs) (q : R (Ite X.K a) H) : wpAny (model X.prog X.w) X.A (call (.type "enumerate") [.ref a]) (fun o s1 => wpAny (model X.prog X.w) X.A (pyIter o) (PIE X pins σ (.Tuple elts kk tpos) R) X.xe s1) X.xe s := by
  obtain ⟨its, rv, p', hz⟩ := I.list hq
  refine call_enumerate_list p'.isList fun h' he hit hsz hk => wpAny_pyIter_enum he ?_
  have I2 : Inv X pins σ H { s with heap := h' } := I.kept (t' := s.toks) hk
  refine ⟨s.heap.objs.size + 1, [s.heap.objs.size + 1, s.heap.objs.size], _, _, H, rfl, I2, turn_enum a (s.heap.objs.size + 1) s.heap.objs.size, ⟨⟨.none, he⟩, hit, Nat.succ_ne_self _⟩, fun b hb => ?_, q⟩
  have e' : b = s.heap.objs.size + 1 ∨ b = s.heap.objs.size := by simpa using hb
  have hle : s.heap.objs.size ≤ b := by
    rcases e' with z | z
    · rw [z]; exact Nat.le_add_right _ _
    · rw [z]; exact Nat.le_refl _
  exact I.fpOk hle (I.hok.fresh hle)
theorem enum_tup (I : Inv X pins σ H s) (hq : SqT X.K H a xs) (q : R (IteT X.K a) H) : wpAny (model X.prog X.w) X.A (call (.type "enumerate") [.ref a]) (fun o s1 => wpAny (model X.prog X.w) X.A (pyIter o) (PIE X pins σ (.Tuple elts kk tpos) R) X.xe s1) X.xe s := by
  obtain ⟨its, rv, p', hz⟩ := I.tuple hq
  have hal : a < s.heap.objs.size := by
    obtain ⟨o, ho, _⟩ := (show s.heap.IsTuple a its.toArray from p')
    exact Heap.lt_size ho
  refine call_enum1 (begins_tuple a its.toArray) p' fun h' he ho hk => wpAny_pyIter_enum he ?_
  have I2 : Inv X pins σ H { s with heap := h' } := I.kept (t' := s.toks) hk
  have hit : h'.IsTupleIter s.heap.objs.size a 0 := ⟨_, ho, rfl, rfl⟩
  refine ⟨s.heap.objs.size + 1, [s.heap.objs.size + 1, s.heap.objs.size], _, _, H, rfl, I2, turn_enumT a (s.heap.objs.size + 1) s.heap.objs.size (Nat.succ_ne_self _) (Nat.ne_of_gt (Nat.lt_succ_of_lt hal)) (Nat.ne_of_lt hal), ⟨⟨.none, he⟩, hit⟩, fun b hb => ?_, q⟩
  have e' : b = s.heap.objs.size + 1 ∨ b = s.heap.objs.size := by simpa using hb
  have hle : s.heap.objs.size ≤ b := by
    rcases e' with z | z
    · rw [z]; exact Nat.le_add_right _ _
    · rw [z]; exact Nat.le_refl _
  exact I.fpOk hle (I.hok.fresh hle)
end
end Z

/-! L10: == and != of data with dicts within -/
namespace Z
open PySem PySem.Spec PyProof.Rows L2 Evl
open PySem.SeqAt PySem.AutoSeq1 PySem.MeetsSeq PySem.MeetsSeq2 PySem.MeetsSeq3
section
variable {prog : Program} {w : World} {A : Around} {s : Shared}
def RcP (prog : Program) (w : World) (A : Around) (s : Shared) (v u : Value) (b : Bool) : Prop := ∀ E Q : Value → Shared → Prop, Q (.bool b) s → wpAny (model prog w) A (richCompare .Eq v u) Q E s
def NeP (prog : Program) (w : World) (A : Around) (s : Shared) (v u : Value) (b : Bool) : Prop := ∀ E Q : Value → Shared → Prop, Q (.bool b) s → wpAny (model prog w) A (richCompare .NotEq v u) Q E s
theorem ne_loopP (l b : Addr) (items items2 : Array Value) (n n2 : Nat) (dd dd2 : Option Addr) (sl sl2 : Array (Option Value)) (hsz : items.size = items2.size) (e : Nat → Bool) (k : Nat) :
    ∀ i : Nat, items.size - i = k → ∀ (A : Around) (R : Result → Shared → Prop) (s : Shared), (s.heap.get? l = some { cls := .type "list", dict := dd, data := .seq items n, slots := sl } ∧ s.heap.get? b = some { cls := .type "list", dict := dd2, data := .seq items2 n2, slots := sl2 } ∧
        (∀ j (h1 : j < items.size) (h2 : j < items2.size), EqP prog w A.in1 s items[j] items2[j] (e j)) ∧
        R (.ok (.ret (.bool (!((List.range items.size).drop i).all e)))) s) →
      wpAny (model prog w) A.in1 (Builtin.«list.__eq__.loop» ⟨[.ref l, .ref b, rawInt i, rawInt 3], []⟩) (GQ.FinOf prog w A R) (fun e s' => R (.error e) s') s := by
  induction k with
  | zero =>
    intro i hk A R s h
    obtain ⟨hp, g, d, tk, os⟩ := s
    obtain ⟨hl, hb, he, h⟩ := h
    wp_walk using wpAny_loadPart' hl, wpAny_loadPart' hb
    have hi1 : items[((i : Nat) : Int).toNat]? = none := by simp; omega
    have hi2 : items2[((i : Nat) : Int).toNat]? = none := by simp; omega
    have hd : (List.range items.size).drop i = [] := by simp; omega
    rw [hd] at h
    rw [hi1, hi2]
    wp_walk using wpAny_loadPart' hl, wpAny_loadPart' hb
    show R (.ok (.ret (.bool (items.size != items2.size)))) _
    rw [hsz]
    simpa using h
  | succ k ih =>
    intro i hk A R s h
    obtain ⟨hp, g, d, tk, os⟩ := s
    obtain ⟨hl, hb, he, h⟩ := h
    wp_walk using wpAny_loadPart' hl, wpAny_loadPart' hb
    have hlt : i < items.size := by omega
    have hlt2 : i < items2.size := by omega
    have hi1 : items[((i : Nat) : Int).toNat]? = some items[i] := by simp [hlt]
    have hi2 : items2[((i : Nat) : Int).toNat]? = some items2[i] := by simp [hlt2]
    have hd : (List.range items.size).drop i = i :: (List.range items.size).drop (i + 1) := by simp [List.drop_eq_getElem_cons, hlt]
    have hc : ((i : Int) + 1) = ((i + 1 : Nat) : Int) := by omega
    rw [hd, List.all_cons] at h
    rw [hi1, hi2]
    refine wpAny_bind (he i hlt hlt2 _ _ ?_)
    cases hb' : e i with
    | true =>
      rw [hb'] at h
      wp_walk
      rw [hc]
      exact ⟨plainId_quiet plain_eq_loop _, codeAny_builtin entry_eq_loop (by
        rw [Around.under_plainId plain_eq_loop _]
        exact ih (i + 1) (by omega) A R _ ⟨hl, hb, he, by simpa using h⟩)⟩
    | false =>
      rw [hb'] at h
      wp_walk using wpAny_loadPart' hl, wpAny_loadPart' hb
      rw [hi1, hi2]
      wp_walk
      simpa using h
theorem neP_lists {l b : Addr} {items items2 : Array Value} {e : Nat → Bool} (hl : s.heap.IsList l items) (hb : s.heap.IsList b items2) (hsz : items.size = items2.size) (hu : A.units < cLine)
    (he : ∀ j (h1 : j < items.size) (h2 : j < items2.size), EqP prog w A.in1 s items[j] items2[j] (e j)) : NeP prog w A s (.ref l) (.ref b) (!(List.range items.size).all e) := fun E Q h => by
  obtain ⟨⟨cls, dd, data, sl⟩, ho, hc, n, hd⟩ := id hl
  obtain ⟨⟨cls2, dd2, data2, sl2⟩, ho2, hc2, n2, hd2⟩ := id hb
  simp only at hc hd hc2 hd2
  subst hc hd hc2 hd2
  refine wpAny_richCompare_same_room (op := .NotEq) ⟨_, ho, rfl⟩ ⟨_, ho2, rfl⟩ F.slot_list_ne (GQ.call_here F.slot_list_ne ⟨_, ho, rfl⟩ F.entry_list_ne (F.args_list_ne_2 _ _) ?_) hu
  obtain ⟨hp, g, d, tk, os⟩ := s
  have f3 := AutoSeq1.sub_list_list
  have hne : ¬ (items.size != items2.size) = true := by simp [hsz]
  wp_walk using wpAny_loadPart' ho, wpAny_loadPart' ho2
  exact ⟨plainId_quiet plain_eq_loop _, codeAny_builtin entry_eq_loop (by
    rw [Around.under_plainId plain_eq_loop _]
    exact ne_loopP l b items items2 n n2 dd dd2 sl sl2 hsz e _ 0 rfl A _ _ ⟨ho, ho2, he, ⟨(fun x => nomatch x), by simpa using h⟩⟩)⟩
theorem neP_dicts {K : Type} [DecidableEq K] {knd : KeyKind prog w K} {a b : Addr} {ka kb : List (K × Value)} {r : Bool} (ha : (a == sysModules) = false) (hb : (b == sysModules) = false)
    (da : s.heap.DictOf knd a ka) (db : s.heap.DictOf knd b kb) (hu : A.units < cLine) (hits : ka.length = kb.length → PySem.W.KeqHitsP prog w A.in1 s kb ka r) : NeP prog w A s (.ref a) (.ref b) (!(ka.length == kb.length && r)) := fun E Q h => by
  refine wpAny_richCompare_same_room (op := .NotEq) da.typeIs db.typeIs PySem.F.slot_dict_ne (wpAny_call_entry PySem.F.slot_dict_ne da.typeIs PySem.F.entry_dict_ne ?_ (PySem.F.args_dict_ne_2 _ _)) hu
  show wpAny _ _ (Builtin.Dict.dictSlotArgs "__ne__" ⟨[.ref a, .ref b], []⟩ >>= _) _ _ s
  refine wpAny_bind ?_
  unfold Builtin.Dict.dictSlotArgs
  refine wpAny_bind (wpAny_notOrdered_dict da.typeIs ?_)
  show wpAny _ _ (pure (Value.ref a, Value.ref b)) _ _ s
  refine wpAny_pure ?_
  refine wpAny_bind (wpAny_isInstance (T := "dict") db.typeIs PySem.F.sub_dict_dict ?_)
  simp only [Bool.not_true, Bool.false_eq_true, if_false]
  refine wpAny_bind (wpAny_pure (wpAny_bind (wpAny_pure ?_)))
  refine wpAny_bind (PySem.W.samePairsP ha hb da db hits ?_)
  refine wpAny_pure ⟨_, rfl, ?_, ?_⟩
  · exact fun x => nomatch x
  · simpa using h
theorem neP_tuples {l b : Addr} {items items2 : Array Value} {e : Nat → Bool} (hl : s.heap.IsTuple l items) (hb : s.heap.IsTuple b items2) (hu : A.units < cLine)
    (he : ∀ j (h1 : j < items.size) (h2 : j < items2.size), EqP prog w A.in1 s items[j] items2[j] (e j)) : NeP prog w A s (.ref l) (.ref b) (!((List.range (min items.size items2.size)).all e && items.size == items2.size)) := fun E Q h => by
  obtain ⟨⟨cls, dd, data, sl⟩, ho, hc, n, hd⟩ := id hl
  obtain ⟨⟨cls2, dd2, data2, sl2⟩, ho2, hc2, n2, hd2⟩ := id hb
  simp only at hc hd hc2 hd2
  subst hc hd hc2 hd2
  refine wpAny_richCompare_same_room (op := .NotEq) ⟨_, ho, rfl⟩ ⟨_, ho2, rfl⟩ F.slot_tuple_ne (GQ.call_here F.slot_tuple_ne ⟨_, ho, rfl⟩ F.entry_tuple_ne (F.args_tuple_ne_2 _ _) ?_) hu
  obtain ⟨hp, g, d, tk, os⟩ := s
  have f2 := AutoSeq1.sub_tuple_tuple
  have hZ : (items.toList.zip items2.toList).length = min items.size items2.size := by simp
  wp_walk using wpAny_loadPart' ho, wpAny_loadPart' ho2, wpAny_forIn_list _ (fun rest b s' => b.1 = none ∧ s' = ⟨hp, g, d, tk, os⟩ ∧ ∃ i, rest = (items.toList.zip items2.toList).drop i ∧
    Q (.bool (!(((List.range (min items.size items2.size)).drop i).all e && items.size == items2.size))) ⟨hp, g, d, tk, os⟩) _
  case turn =>
    rintro ⟨y, x⟩ rest b s' ⟨hb', rfl, i, hz, hR⟩
    have hlt : i < (items.toList.zip items2.toList).length := by
      rcases Nat.lt_or_ge i (items.toList.zip items2.toList).length with h' | h'
      · exact h'
      · rw [List.drop_of_length_le h'] at hz; cases hz
    have hm : i < min items.size items2.size := hZ ▸ hlt
    have h1 : i < items.size := Nat.lt_of_lt_of_le hm (Nat.min_le_left _ _)
    have h2 : i < items2.size := Nat.lt_of_lt_of_le hm (Nat.min_le_right _ _)
    rw [List.drop_eq_getElem_cons hlt] at hz
    injection hz with hyx hrest
    have hy : y = items[i] := by have := congrArg Prod.fst hyx; simpa using this
    have hx : x = items2[i] := by have := congrArg Prod.snd hyx; simpa using this
    subst hy hx
    have hd : (List.range (min items.size items2.size)).drop i = i :: (List.range (min items.size items2.size)).drop (i + 1) := by simp [List.drop_eq_getElem_cons, hm]
    rw [hd, List.all_cons] at hR
    refine wpAny_bind (he i h1 h2 _ _ ?_)
    cases hy : e i with
    | true =>
      rw [hy] at hR
      wp_walk
      exact ⟨rfl, rfl, i + 1, hrest, by simpa using hR⟩
    | false =>
      rw [hy] at hR
      wp_walk
      exact ⟨(fun x => nomatch x), by simpa using hR⟩
  case fin =>
    rintro ⟨b1, b2⟩ s' ⟨hb', rfl, i, hz, hR⟩
    simp only at hb'
    subst hb'
    have hge : min items.size items2.size ≤ i := by
      rcases Nat.lt_or_ge i (items.toList.zip items2.toList).length with h' | h'
      · rw [List.drop_eq_getElem_cons h'] at hz; cases hz
      · exact hZ ▸ h'
    rw [List.drop_of_length_le (by simpa using hge)] at hR
    wp_walk
    exact ⟨(fun x => nomatch x), by simpa [Builtin.Tuple.tupleCompareSizes, bne] using hR⟩
  case h =>
    exact ⟨rfl, rfl, 0, rfl, by simpa using h⟩
end
end Z
namespace Z
open PySem PySem.Spec PyProof.Rows L2 Evl
open PySem.SeqAt
inductive EqD (K : PySem.W.Frag) (H : Hp) (E : V → V → Bool → Prop) : V → V → Bool → Prop
  | old {x y : V} {b : Bool} : EqR K H E x y b → EqD K H E x y b
  | dd {a b : Addr} {ks ls : List (Key × V)} {r : Bool} : Rd H a (.dK ks) → Rd H b (.dK ls) → (ks.length = ls.length → KHit E ls ks r) → EqD K H E (.ref a) (.ref b) (decide (ks.length = ls.length) && r)
def EqJ (K : PySem.W.Frag) (H : Hp) : Nat → V → V → Bool → Prop
  | 0 => fun _ _ _ => False
  | n + 1 => fun x y b => (∃ a, x = .ref a ∧ y = .ref a ∧ b = true) ∨ (EqD K H (EqJ K H n) x y b ∧ ∀ a, x = .ref a → y ≠ .ref a)
section
variable {X : Cx} {pins : List (Addr × Obj)} {σ : L2.St} {H : Hp} {s : Shared}
theorem EqZ.runP {P : Program} {w : World} {E : V → V → Bool → Prop} {A : Around} (ih : ∀ {x y : V} {b : Bool} {v u : Value}, E x y b → RelV x v → RelV y u → EqP P w A s v u b) {xs ys : List V} {e : List Bool} (h : EqZ E xs ys e) :
    ∀ {us ws : List Value}, Vals xs us → Vals ys ws → ∀ j (h1 : j < us.length) (h2 : j < ws.length), EqP P w A s us[j] ws[j] (e.getD j false) := by
  induction h with
  | nil =>
    intro us ws r1 r2 j h1 h2
    cases r1
    exact absurd h1 (Nat.not_lt_zero j)
  | nilL =>
    intro us ws r1 r2 j h1 h2
    cases r1
    exact absurd h1 (Nat.not_lt_zero j)
  | nilR =>
    intro us ws r1 r2 j h1 h2
    cases r2
    exact absurd h2 (Nat.not_lt_zero j)
  | cons h _ k =>
    intro us ws r1 r2 j h1 h2
    cases r1 with
    | cons a1 b1 =>
      cases r2 with
      | cons a2 b2 =>
        cases j with
        | zero => exact ih h a1 a2
        | succ j => exact k b1 b2 j (Nat.lt_of_succ_lt_succ h1) (Nat.lt_of_succ_lt_succ h2)
theorem KHit.runP {P : Program} {w : World} {A : Around} {E : V → V → Bool → Prop} (ih : ∀ {x y : V} {b : Bool} {v u : Value}, E x y b → RelV x v → RelV y u → EqP P w A s v u b) {ls : List (Key × V)} {vb : List (Key × Value)} (rb : KV ls vb) {ks : List (Key × V)} {r : Bool} (h : KHit E ls ks r) :
    ∀ {va : List (Key × Value)}, KV ks va → PySem.W.KeqHitsP P w A s vb va r := by
  induction h with
  | nil =>
    intro va ra
    unfold KV at ra
    cases ra
    exact .nil
  | @miss k v r e =>
    intro va ra
    unfold KV at ra
    cases ra with
    | @cons p q ps qs h t =>
      obtain ⟨h1, h2⟩ := h
      obtain ⟨key, w'⟩ := q
      have h1 : k = key := h1
      subst h1
      have rr : RelO none (valueAt vb k) := by rw [← e]; exact rb.val k
      exact .miss (RelO.none_of rr)
  | @hit k v u r e b hu hE _ ihr =>
    intro va ra
    unfold KV at ra
    cases ra with
    | @cons p q ps qs h t =>
      obtain ⟨h1, h2⟩ := h
      obtain ⟨key, w'⟩ := q
      have h1 : k = key := h1
      subst h1
      have rr : RelO (some u) (valueAt vb k) := by rw [← hu]; exact rb.val k
      obtain ⟨y, hy, ry⟩ := rr.some_of
      exact .hit hy (ih hE h2 ry) (ihr t)
/-- what stands in no list, tuple or dict -/
def isLT (K : PySem.W.Frag) (H : Hp) (E : V → V → Bool → Prop) (x y : V) (b : Bool) : Prop :=
  (∃ p q xs ys e, x = .ref p ∧ y = .ref q ∧ SqL K H p xs ∧ SqL K H q ys ∧ xs.length = ys.length ∧ EqZ E xs ys e ∧ b = e.all id) ∨
  (∃ p q xs ys e, x = .ref p ∧ y = .ref q ∧ SqT K H p xs ∧ SqT K H q ys ∧ EqZ E xs ys e ∧ b = (e.all id && decide (xs.length = ys.length)))
theorem EqR.split {K : PySem.W.Frag} {E : V → V → Bool → Prop} {x y : V} {b : Bool} (h : EqR K H E x y b) : isLT K H E x y b ∨ EqR K H (fun _ _ _ => False) x y b := by
  cases h with
  | sc h => exact .inr (.sc h)
  | bi a j => exact .inr (.bi a j)
  | ib i b => exact .inr (.ib i b)
  | ll h1 h2 hn => exact .inr (.ll h1 h2 hn)
  | lst h1 h2 hl hz => exact .inl (.inl ⟨_, _, _, _, _, rfl, rfl, h1, h2, hl, hz, rfl⟩)
  | tup h1 h2 hz => exact .inl (.inr ⟨_, _, _, _, _, rfl, rfl, h1, h2, hz, rfl⟩)
  | lt h1 h2 => exact .inr (.lt h1 h2)
  | tl h1 h2 => exact .inr (.tl h1 h2)
  | ls h1 h2 => exact .inr (.ls h1 h2)
  | sl h1 h2 => exact .inr (.sl h1 h2)
  | ts h1 h2 => exact .inr (.ts h1 h2)
  | st h1 h2 => exact .inr (.st h1 h2)
theorem isLT.rc (I : Inv X pins σ H s) {E : V → V → Bool → Prop} {A : Around} (hu : A.units < cLine) (ih : ∀ {x y : V} {b : Bool} {v u : Value}, E x y b → RelV x v → RelV y u → EqP X.prog X.w A.in1 s v u b)
    {x y : V} {b : Bool} {v u : Value} (h : isLT X.K H E x y b) (rx : RelV x v) (ry : RelV y u) : RcP X.prog X.w A s v u b ∧ NeP X.prog X.w A s v u (!b) := by
  rcases h with ⟨p, q, xs, ys, e, rfl, rfl, h1, h2, hl, hz, rfl⟩ | ⟨p, q, xs, ys, e, rfl, rfl, h1, h2, hz, rfl⟩
  · cases rx; cases ry
    obtain ⟨i1, r1, p1, _⟩ := I.list h1
    obtain ⟨i2, r2, p2, _⟩ := I.list h2
    have e1 := r1.length
    have e2 := r2.length
    have el := hz.len
    have sz : i1.toArray.size = i2.toArray.size := by simp only [List.size_toArray]; omega
    have it : ∀ j (h1 : j < i1.toArray.size) (h2 : j < i2.toArray.size), EqP X.prog X.w A.in1 s i1.toArray[j] i2.toArray[j] (e.getD j false) := fun j h1 h2 => hz.runP ih r1 r2 j (by simpa using h1) (by simpa using h2)
    have rg : (List.range i1.toArray.size).all (fun i => e.getD i false) = e.all id := by
      rw [show i1.toArray.size = e.length by simp only [List.size_toArray]; omega, range_all]
    refine ⟨fun E' Q hq => rcP_lists (e := fun i => e.getD i false) p1.isList p2.isList sz hu it E' Q (by rw [rg]; exact hq), ?_⟩
    have n := neP_lists (e := fun i => e.getD i false) p1.isList p2.isList sz hu it
    rw [rg] at n
    exact n
  · cases rx; cases ry
    obtain ⟨i1, r1, p1, _⟩ := I.tuple h1
    obtain ⟨i2, r2, p2, _⟩ := I.tuple h2
    have e1 := r1.length
    have e2 := r2.length
    have el := hz.len
    have it : ∀ j (h1 : j < i1.toArray.size) (h2 : j < i2.toArray.size), EqP X.prog X.w A.in1 s i1.toArray[j] i2.toArray[j] (e.getD j false) := fun j h1 h2 => hz.runP ih r1 r2 j (by simpa using h1) (by simpa using h2)
    have rg : ((List.range (min i1.toArray.size i2.toArray.size)).all (fun i => e.getD i false) && i1.toArray.size == i2.toArray.size) = (e.all id && decide (xs.length = ys.length)) := by
      rw [show min i1.toArray.size i2.toArray.size = e.length by simp only [List.size_toArray]; omega, range_all]
      congr 1
      rw [Bool.beq_eq_decide_eq]
      simp only [List.size_toArray]
      rw [e1, e2]
    refine ⟨fun E' Q hq => rcIn_tuples (e := fun i => e.getD i false) p1 p2 hu it (by rw [rg]; exact hq), ?_⟩
    have n := neP_tuples (prog := X.prog) (w := X.w) (e := fun i => e.getD i false) p1 p2 hu it
    rw [rg] at n
    exact n
theorem EqD.rc (I : Inv X pins σ H s) {E : V → V → Bool → Prop} {A : Around} (hu : A.units < cLine) (ih : ∀ {x y : V} {b : Bool} {v u : Value}, E x y b → RelV x v → RelV y u → EqP X.prog X.w A.in1 s v u b)
    {x y : V} {b : Bool} {v u : Value} (h : EqD X.K H E x y b) (rx : RelV x v) (ry : RelV y u) : RcP X.prog X.w A s v u b ∧ NeP X.prog X.w A s v u (!b) := by
  cases h with
  | old h =>
    rcases h.split with h | h
    · exact h.rc I hu ih rx ry
    · exact ⟨fun E' Q q => EqR.run I hu (E := fun _ _ _ => False) (fun h => h.elim) h rx ry X.prog X.w E' Q q, fun E' Q q => EqR.runNe I hu (E := fun _ _ _ => False) (fun h => h.elim) h rx ry X.prog X.w E' Q q⟩
  | @dd p q ks ls r ha hb hh =>
    cases rx; cases ry
    obtain ⟨_, ya, va, ra, da⟩ := dk_rd I.hok ha
    obtain ⟨_, yb, vb, rb, db⟩ := dk_rd I.hok hb
    have la := ra.length
    have lb := rb.length
    have hits : va.length = vb.length → PySem.W.KeqHitsP X.prog X.w A.in1 s vb va r := fun hl => (hh (by omega)).runP ih rb ra
    have e : (va.length == vb.length) = decide (ks.length = ls.length) := by
      rw [Bool.beq_eq_decide_eq, ← la, ← lb]
    refine ⟨fun E' Q hq => PySem.W.rcP_dicts (knd := mixKind X.prog X.w) (r := r) ya yb da db hu hits E' Q (by rw [e]; exact hq), ?_⟩
    have n := neP_dicts (knd := mixKind X.prog X.w) (r := r) ya yb da db hu hits
    rw [e] at n
    exact n
theorem EqJ.run (I : Inv X pins σ H s) : ∀ {n : Nat} {A : Around}, A.units + n < cLine → ∀ {x y : V} {b : Bool} {v u : Value}, EqJ X.K H n x y b → RelV x v → RelV y u → EqP X.prog X.w A s v u b
  | 0, _, _, _, _, _, _, _, h, _, _ => h.elim
  | n + 1, A, hu, x, y, b, v, u, h, rx, ry => by
    rcases h with ⟨a, rfl, rfl, rfl⟩ | ⟨h, ne⟩
    · cases rx; cases ry
      exact (EqAt.same _).eqP
    · have ih := fun {x y : V} {b : Bool} {v u : Value} => EqJ.run (n := n) (A := A.in1) I (by show A.units + 1 + n < cLine; omega) (x := x) (y := y) (b := b) (v := v) (u := u)
      have step := h.rc I (A := A) (by omega) ih rx ry
      have refs : ∀ {p q : Addr}, x = .ref p → y = .ref q → EqP X.prog X.w A s v u b := by
        intro p q e1 e2
        subst e1 e2
        cases rx; cases ry
        exact eqP_refs (fun e => ne p rfl (by rw [e])) step.1
      cases h with
      | old h =>
        rcases h.split with (⟨p, q, xs, ys, e, rfl, rfl, _⟩ | ⟨p, q, xs, ys, e, rfl, rfl, _⟩) | h
        · exact refs rfl rfl
        · exact refs rfl rfl
        · have h1 : EqR X.K H (EqI X.K H 0) x y b := h
          exact (EqI.run I (n := 1) (A := A) (by omega) (x := x) (y := y) (b := b) (.inr ⟨h1, ne⟩) rx ry).eqP
      | dd ha hb hh => exact refs rfl rfl
end
def rEqE (K : PySem.W.Frag) : R2 := fun x y H Q => ∃ b, EqD K H (EqJ K H 60) x y b ∧ Q (.bl b) H
def rNeE (K : PySem.W.Frag) : R2 := fun x y H Q => ∃ b, EqD K H (EqJ K H 60) x y b ∧ Q (.bl (!b)) H
theorem op_eqE {X : Cx} (hu : X.A.units + 64 < cLine) : OpR X (compareOp .Eq) (rEqE X.K) := by
  intro pins s σ H x y v u Q I rx ry h
  obtain ⟨b, h, q⟩ := h
  exact PySem.W.cmp_ofEq ((h.rc I (A := X.A) (by omega) (fun h1 r1 r2 => EqJ.run I (n := 60) (A := X.A.in1) (by show X.A.units + 1 + 60 < cLine; omega) h1 r1 r2) rx ry).1 _ _ ⟨.bl b, H, I, rfl, q⟩)
theorem op_neE {X : Cx} (hu : X.A.units + 64 < cLine) : OpR X (compareOp .NotEq) (rNeE X.K) := by
  intro pins s σ H x y v u Q I rx ry h
  obtain ⟨b, h, q⟩ := h
  exact PySem.W.cmp_ofNotEq ((h.rc I (A := X.A) (by omega) (fun h1 r1 r2 => EqJ.run I (n := 60) (A := X.A.in1) (by show X.A.units + 1 + 60 < cLine; omega) h1 r1 r2) rx ry).2 _ _ ⟨.bl (!b), H, I, rfl, q⟩)
end Z

/-! T1: data without addresses. Da: a datum as a tree; a thing that is changed is a cell, its content stands in a memory. Rp tells which value a datum stands for. -/
namespace Z
open PySem PySem.Spec PyProof.Rows L2 Evl
inductive Da where
  | non | bl (b : Bool) | int (i : Int) | str (s : Str) | ty (n : String) | gl (x : Str)
  | tup (ds : List Da) | lst (ds : List Da) | dct (kds : List (Key × Da)) | obj (c : Str) (fds : List (Str × Da))
  | kl (ds : List Da) | kt (ds : List Da)
  | cell (n : Nat) | exv (a dd : Addr) (c : Str) (fds : List (Str × Da))
abbrev Mem := List Da
abbrev Sl := List (Option Da)
/-- a dict's entries, the dict locked or not -/
def coreD : HO → Option (List (Key × V))
  | .dK kvs => some kvs
  | .frz _ (.dK kvs) => some kvs
  | _ => none
mutual
inductive Rp (K : PySem.W.Frag) (H : Hp) (φ χ : List Addr) : V → Da → Prop
  | non : Rp K H φ χ .non .non
  | bl (b : Bool) : Rp K H φ χ (.bl b) (.bl b)
  | int (i : Int) : Rp K H φ χ (.int i) (.int i)
  | str {s : Str} : s.length ≤ sizeLine → Rp K H φ χ (.str s) (.str s)
  | ty (n : String) : Rp K H φ χ (.ty n) (.ty n)
  | gl (x : Str) : Rp K H φ χ (.ref (He.ga K x)) (.gl x)
  | tup {a : Addr} {vs : List V} {ds : List Da} : H a = some (.tup vs) → a ∉ φ → a ∉ χ → RpL K H φ χ vs ds → Rp K H φ χ (.ref a) (.tup ds)
  | lst {a : Addr} {vs : List V} {ds : List Da} : H a = some (.lst vs) → a ∉ φ → a ∉ χ → RpL K H φ χ vs ds → Rp K H φ χ (.ref a) (.lst ds)
  | dct {a : Addr} {o : HO} {kvs : List (Key × V)} {kds : List (Key × Da)} : H a = some o → coreD o = some kvs → a ∉ φ → a ∉ χ → RpK K H φ χ kvs kds → Rp K H φ χ (.ref a) (.dct kds)
  | obj {a dx : Addr} {c : Str} {fs : List (Str × V)} {fds : List (Str × Da)} : H a = some (.ins (He.ga K c) dx fs) → a ∉ φ → a ∉ χ → RpF K H φ χ fs fds → Rp K H φ χ (.ref a) (.obj c fds)
  | klR {a : Addr} {o : HO} {vs : List V} {ds : List Da} : H a = some o → (o = .lst vs ∨ ∃ ob, o = .frz ob (.lst vs)) → a ∉ φ → a ∉ χ → RpL K H φ χ vs ds → Rp K H φ χ (.ref a) (.kl ds)
  | klK {a : Addr} {vs : List V} {ds : List Da} : (∀ H', SqL K H' a vs) → RpL K H φ χ vs ds → Rp K H φ χ (.ref a) (.kl ds)
  | ktK {a : Addr} {vs : List V} {ds : List Da} : (∀ H', SqT K H' a vs) → RpL K H φ χ vs ds → Rp K H φ χ (.ref a) (.kt ds)
  | cell {n : Nat} {a : Addr} : φ[n]? = some a → Rp K H φ χ (.ref a) (.cell n)
  | exv {a dd : Addr} {c : Str} {vfs : List (Str × V)} {fds : List (Str × Da)} : H dd = some (.xd vfs) → dd ∉ φ → dd ∉ χ → RpF K H φ χ vfs fds → Rp K H φ χ (.ref a) (.exv a dd c fds)
inductive RpL (K : PySem.W.Frag) (H : Hp) (φ χ : List Addr) : List V → List Da → Prop
  | nil : RpL K H φ χ [] []
  | cons {v : V} {d : Da} {vs : List V} {ds : List Da} : Rp K H φ χ v d → RpL K H φ χ vs ds → RpL K H φ χ (v :: vs) (d :: ds)
inductive RpK (K : PySem.W.Frag) (H : Hp) (φ χ : List Addr) : List (Key × V) → List (Key × Da) → Prop
  | nil : RpK K H φ χ [] []
  | cons {k : Key} {v : V} {d : Da} {vs : List (Key × V)} {ds : List (Key × Da)} : Rp K H φ χ v d → RpK K H φ χ vs ds → RpK K H φ χ ((k, v) :: vs) ((k, d) :: ds)
inductive RpF (K : PySem.W.Frag) (H : Hp) (φ χ : List Addr) : List (Str × V) → List (Str × Da) → Prop
  | nil : RpF K H φ χ [] []
  | cons {k : Str} {v : V} {d : Da} {vs : List (Str × V)} {ds : List (Str × Da)} : Rp K H φ χ v d → RpF K H φ χ vs ds → RpF K H φ χ ((k, v) :: vs) ((k, d) :: ds)
end
/-- from one heap to a later one: what is no cell stays, new cells stand where nothing was -/
structure Adv (H : Hp) (φ : List Addr) (H' : Hp) (φ' : List Addr) : Prop where
  keep : ∀ a o, H a = some o → a ∉ φ → H' a = some o
  pre : ∃ ψ, φ' = φ ++ ψ ∧ ∀ a ∈ ψ, H a = none
  dom : ∀ a, H a ≠ none → H' a ≠ none
theorem nmc {α : Type} {a b : α} {l : List α} (h : a ≠ b ∧ a ∉ l) : a ∉ b :: l := fun m => (List.mem_cons.1 m).elim h.1 h.2
theorem upd_ni {H : Hp} {D a : Addr} {o : HO} {χ : List Addr} (e : D ∈ χ) (m : a ∉ χ) : upd H D o a = H a := upd_ne fun q => m (by rw [q]; exact e)
theorem Adv.refl {H : Hp} {φ : List Addr} : Adv H φ H φ := ⟨fun _ _ h _ => h, ⟨[], by simp, fun _ h => by cases h⟩, fun _ h => h⟩
theorem Adv.nin {H H' : Hp} {φ φ' : List Addr} (A : Adv H φ H' φ') {a : Addr} {o : HO} (h : H a = some o) (n : a ∉ φ) : a ∉ φ' := by
  obtain ⟨ψ, rfl, q⟩ := A.pre
  intro m
  rcases List.mem_append.1 m with m | m
  · exact n m
  · rw [q a m] at h
    cases h
theorem Adv.trans {H H1 H2 : Hp} {φ φ1 φ2 : List Addr} (A : Adv H φ H1 φ1) (B : Adv H1 φ1 H2 φ2) : Adv H φ H2 φ2 where
  keep := fun a o h n => B.keep a o (A.keep a o h n) (A.nin h n)
  pre := by
    obtain ⟨ψ, rfl, q⟩ := A.pre
    obtain ⟨ψ', rfl, q'⟩ := B.pre
    refine ⟨ψ ++ ψ', by simp, fun a m => ?_⟩
    rcases List.mem_append.1 m with m | m
    · exact q a m
    · cases e : H a with
      | none => rfl
      | some o => exact absurd (q' a m) (A.dom a (by rw [e]; simp))
  dom := fun a h => B.dom a (A.dom a h)
theorem Adv.at_ {H H' : Hp} {φ φ' : List Addr} (A : Adv H φ H' φ') {n : Nat} {a : Addr} (h : φ[n]? = some a) : φ'[n]? = some a := by
  obtain ⟨ψ, rfl, _⟩ := A.pre
  rw [List.getElem?_append_left (List.getElem?_eq_some_iff.1 h).1]
  exact h
theorem Adv.le {H H' : Hp} {φ φ' : List Addr} (A : Adv H φ H' φ') : φ.length ≤ φ'.length := by
  obtain ⟨ψ, rfl, _⟩ := A.pre
  simp
/-- a new object -/
theorem Adv.new {H : Hp} {φ : List Addr} {p : Addr} {o : HO} (h : H p = none) : Adv H φ (upd H p o) φ where
  keep := fun a u e _ => Ex.new h a u e
  pre := ⟨[], by simp, fun _ h => by cases h⟩
  dom := fun a e => by
    by_cases q : a = p
    · rw [q, upd_same]; simp
    · rw [upd_ne q]; exact e
/-- a new cell -/
theorem Adv.newC {H : Hp} {φ : List Addr} {p : Addr} {o : HO} (h : H p = none) : Adv H φ (upd H p o) (φ ++ [p]) where
  keep := (Adv.new h).keep
  pre := ⟨[p], rfl, fun a m => by rw [List.mem_singleton.1 m]; exact h⟩
  dom := (Adv.new (φ := φ) h).dom
/-- a cell changes -/
theorem Adv.mut {H : Hp} {φ : List Addr} {p : Addr} {o : HO} (h : p ∈ φ) : Adv H φ (upd H p o) φ where
  keep := fun a u e n => by
    rw [upd_ne (fun q => n (by rw [q]; exact h))]
    exact e
  pre := ⟨[], by simp, fun _ h => by cases h⟩
  dom := fun a e => by
    by_cases q : a = p
    · rw [q, upd_same]; simp
    · rw [upd_ne q]; exact e
/-- later cells are forgotten -/
theorem Adv.cut {H H' : Hp} {φ φ' : List Addr} (A : Adv H φ H' φ') {n : Nat} (h : φ.length ≤ n) : Adv H φ H' (φ'.take n) where
  keep := A.keep
  pre := by
    obtain ⟨ψ, rfl, q⟩ := A.pre
    refine ⟨ψ.take (n - φ.length), ?_, fun a m => q a (List.mem_of_mem_take m)⟩
    rw [List.take_append, List.take_of_length_le h]
  dom := A.dom
section
variable {K : PySem.W.Frag} {χ : List Addr}
mutual
theorem Rp.adv {H H' : Hp} {φ φ' : List Addr} (A : Adv H φ H' φ') : ∀ {v : V} {d : Da}, Rp K H φ χ v d → Rp K H' φ' χ v d
  | _, _, .non => .non
  | _, _, .bl b => .bl b
  | _, _, .int i => .int i
  | _, _, .str h => .str h
  | _, _, .ty n => .ty n
  | _, _, .gl x => .gl x
  | _, _, .tup h n m r => .tup (A.keep _ _ h n) (A.nin h n) m (RpL.adv A r)
  | _, _, .lst h n m r => .lst (A.keep _ _ h n) (A.nin h n) m (RpL.adv A r)
  | _, _, .dct h c n m r => .dct (A.keep _ _ h n) c (A.nin h n) m (RpK.adv A r)
  | _, _, .obj h n m r => .obj (A.keep _ _ h n) (A.nin h n) m (RpF.adv A r)
  | _, _, .klR h e n m r => .klR (A.keep _ _ h n) e (A.nin h n) m (RpL.adv A r)
  | _, _, .klK h r => .klK h (RpL.adv A r)
  | _, _, .ktK h r => .ktK h (RpL.adv A r)
  | _, _, .cell h => .cell (A.at_ h)
  | _, _, .exv h n m r => .exv (A.keep _ _ h n) (A.nin h n) m (RpF.adv A r)
theorem RpL.adv {H H' : Hp} {φ φ' : List Addr} (A : Adv H φ H' φ') : ∀ {v : List V} {d : List Da}, RpL K H φ χ v d → RpL K H' φ' χ v d
  | _, _, .nil => .nil
  | _, _, .cons h r => .cons (Rp.adv A h) (RpL.adv A r)
theorem RpK.adv {H H' : Hp} {φ φ' : List Addr} (A : Adv H φ H' φ') : ∀ {v : List (Key × V)} {d : List (Key × Da)}, RpK K H φ χ v d → RpK K H' φ' χ v d
  | _, _, .nil => .nil
  | _, _, .cons h r => .cons (Rp.adv A h) (RpK.adv A r)
theorem RpF.adv {H H' : Hp} {φ φ' : List Addr} (A : Adv H φ H' φ') : ∀ {v : List (Str × V)} {d : List (Str × Da)}, RpF K H φ χ v d → RpF K H' φ' χ v d
  | _, _, .nil => .nil
  | _, _, .cons h r => .cons (Rp.adv A h) (RpF.adv A r)
end
mutual
/-- addresses where nothing is may be hidden -/
theorem Rp.wide {H : Hp} {φ χ1 : List Addr} (e : ∀ a ∈ χ1, a ∈ χ ∨ H a = none) : ∀ {v : V} {d : Da}, Rp K H φ χ v d → Rp K H φ χ1 v d
  | _, _, .non => .non
  | _, _, .bl b => .bl b
  | _, _, .int i => .int i
  | _, _, .str h => .str h
  | _, _, .ty n => .ty n
  | _, _, .gl x => .gl x
  | _, _, .tup h n m r => .tup h n (fun q => (e _ q).elim m fun z => ne_of_none h z rfl) (RpL.wide e r)
  | _, _, .lst h n m r => .lst h n (fun q => (e _ q).elim m fun z => ne_of_none h z rfl) (RpL.wide e r)
  | _, _, .dct h c n m r => .dct h c n (fun q => (e _ q).elim m fun z => ne_of_none h z rfl) (RpK.wide e r)
  | _, _, .obj h n m r => .obj h n (fun q => (e _ q).elim m fun z => ne_of_none h z rfl) (RpF.wide e r)
  | _, _, .klR h q n m r => .klR h q n (fun q => (e _ q).elim m fun z => ne_of_none h z rfl) (RpL.wide e r)
  | _, _, .klK h r => .klK h (RpL.wide e r)
  | _, _, .ktK h r => .ktK h (RpL.wide e r)
  | _, _, .cell h => .cell h
  | _, _, .exv h n m r => .exv h n (fun q => (e _ q).elim m fun z => ne_of_none h z rfl) (RpF.wide e r)
theorem RpL.wide {H : Hp} {φ χ1 : List Addr} (e : ∀ a ∈ χ1, a ∈ χ ∨ H a = none) : ∀ {v : List V} {d : List Da}, RpL K H φ χ v d → RpL K H φ χ1 v d
  | _, _, .nil => .nil
  | _, _, .cons h r => .cons (Rp.wide e h) (RpL.wide e r)
theorem RpK.wide {H : Hp} {φ χ1 : List Addr} (e : ∀ a ∈ χ1, a ∈ χ ∨ H a = none) : ∀ {v : List (Key × V)} {d : List (Key × Da)}, RpK K H φ χ v d → RpK K H φ χ1 v d
  | _, _, .nil => .nil
  | _, _, .cons h r => .cons (Rp.wide e h) (RpK.wide e r)
theorem RpF.wide {H : Hp} {φ χ1 : List Addr} (e : ∀ a ∈ χ1, a ∈ χ ∨ H a = none) : ∀ {v : List (Str × V)} {d : List (Str × Da)}, RpF K H φ χ v d → RpF K H φ χ1 v d
  | _, _, .nil => .nil
  | _, _, .cons h r => .cons (Rp.wide e h) (RpF.wide e r)
end
theorem hidden {H : Hp} {D : Addr} (e : H D = none) : ∀ a ∈ D :: χ, a ∈ χ ∨ H a = none := fun a m => (List.mem_cons.1 m).elim (fun z => .inr (by rw [z]; exact e)) .inl
theorem Rp.hide {H : Hp} {φ : List Addr} {D : Addr} (e : H D = none) {v : V} {d : Da} (h : Rp K H φ χ v d) : Rp K H φ (D :: χ) v d := h.wide (hidden e)
theorem RpL.hide {H : Hp} {φ : List Addr} {D : Addr} (e : H D = none) {v : List V} {d : List Da} (h : RpL K H φ χ v d) : RpL K H φ (D :: χ) v d := h.wide (hidden e)
theorem RpK.hide {H : Hp} {φ : List Addr} {D : Addr} (e : H D = none) {v : List (Key × V)} {d : List (Key × Da)} (h : RpK K H φ χ v d) : RpK K H φ (D :: χ) v d := h.wide (hidden e)
theorem RpF.hide {H : Hp} {φ : List Addr} {D : Addr} (e : H D = none) {v : List (Str × V)} {d : List (Str × Da)} (h : RpF K H φ χ v d) : RpF K H φ (D :: χ) v d := h.wide (hidden e)
mutual
theorem Rp.bare {H : Hp} {φ : List Addr} {D : Addr} : ∀ {v : V} {d : Da}, Rp K H φ (D :: χ) v d → Rp K H φ χ v d
  | _, _, .non => .non
  | _, _, .bl b => .bl b
  | _, _, .int i => .int i
  | _, _, .str h => .str h
  | _, _, .ty n => .ty n
  | _, _, .gl x => .gl x
  | _, _, .tup h n m r => .tup h n (fun q => m (List.mem_cons_of_mem _ q)) (RpL.bare r)
  | _, _, .lst h n m r => .lst h n (fun q => m (List.mem_cons_of_mem _ q)) (RpL.bare r)
  | _, _, .dct h c n m r => .dct h c n (fun q => m (List.mem_cons_of_mem _ q)) (RpK.bare r)
  | _, _, .obj h n m r => .obj h n (fun q => m (List.mem_cons_of_mem _ q)) (RpF.bare r)
  | _, _, .klR h q n m r => .klR h q n (fun q => m (List.mem_cons_of_mem _ q)) (RpL.bare r)
  | _, _, .klK h r => .klK h (RpL.bare r)
  | _, _, .ktK h r => .ktK h (RpL.bare r)
  | _, _, .cell h => .cell h
  | _, _, .exv h n m r => .exv h n (fun q => m (List.mem_cons_of_mem _ q)) (RpF.bare r)
theorem RpL.bare {H : Hp} {φ : List Addr} {D : Addr} : ∀ {v : List V} {d : List Da}, RpL K H φ (D :: χ) v d → RpL K H φ χ v d
  | _, _, .nil => .nil
  | _, _, .cons h r => .cons (Rp.bare h) (RpL.bare r)
theorem RpK.bare {H : Hp} {φ : List Addr} {D : Addr} : ∀ {v : List (Key × V)} {d : List (Key × Da)}, RpK K H φ (D :: χ) v d → RpK K H φ χ v d
  | _, _, .nil => .nil
  | _, _, .cons h r => .cons (Rp.bare h) (RpK.bare r)
theorem RpF.bare {H : Hp} {φ : List Addr} {D : Addr} : ∀ {v : List (Str × V)} {d : List (Str × Da)}, RpF K H φ (D :: χ) v d → RpF K H φ χ v d
  | _, _, .nil => .nil
  | _, _, .cons h r => .cons (Rp.bare h) (RpF.bare r)
end
mutual
/-- a change at a hidden address -/
theorem Rp.at_ {H : Hp} {φ : List Addr} {D : Addr} {o : HO} (e : D ∈ χ) : ∀ {v : V} {d : Da}, Rp K H φ χ v d → Rp K (upd H D o) φ χ v d
  | _, _, .non => .non
  | _, _, .bl b => .bl b
  | _, _, .int i => .int i
  | _, _, .str h => .str h
  | _, _, .ty n => .ty n
  | _, _, .gl x => .gl x
  | _, _, .tup h n m r => .tup (by rw [upd_ni e m]; exact h) n m (RpL.at_ e r)
  | _, _, .lst h n m r => .lst (by rw [upd_ni e m]; exact h) n m (RpL.at_ e r)
  | _, _, .dct h c n m r => .dct (by rw [upd_ni e m]; exact h) c n m (RpK.at_ e r)
  | _, _, .obj h n m r => .obj (by rw [upd_ni e m]; exact h) n m (RpF.at_ e r)
  | _, _, .klR h q n m r => .klR (by rw [upd_ni e m]; exact h) q n m (RpL.at_ e r)
  | _, _, .klK h r => .klK h (RpL.at_ e r)
  | _, _, .ktK h r => .ktK h (RpL.at_ e r)
  | _, _, .cell h => .cell h
  | _, _, .exv h n m r => .exv (by rw [upd_ni e m]; exact h) n m (RpF.at_ e r)
theorem RpL.at_ {H : Hp} {φ : List Addr} {D : Addr} {o : HO} (e : D ∈ χ) : ∀ {v : List V} {d : List Da}, RpL K H φ χ v d → RpL K (upd H D o) φ χ v d
  | _, _, .nil => .nil
  | _, _, .cons h r => .cons (Rp.at_ e h) (RpL.at_ e r)
theorem RpK.at_ {H : Hp} {φ : List Addr} {D : Addr} {o : HO} (e : D ∈ χ) : ∀ {v : List (Key × V)} {d : List (Key × Da)}, RpK K H φ χ v d → RpK K (upd H D o) φ χ v d
  | _, _, .nil => .nil
  | _, _, .cons h r => .cons (Rp.at_ e h) (RpK.at_ e r)
theorem RpF.at_ {H : Hp} {φ : List Addr} {D : Addr} {o : HO} (e : D ∈ χ) : ∀ {v : List (Str × V)} {d : List (Str × Da)}, RpF K H φ χ v d → RpF K (upd H D o) φ χ v d
  | _, _, .nil => .nil
  | _, _, .cons h r => .cons (Rp.at_ e h) (RpF.at_ e r)
end
end
/-! ### cells below n alone -/
mutual
def cloD (n : Nat) : Da → Bool
  | .tup ds => cloL n ds
  | .lst ds => cloL n ds
  | .kl ds => cloL n ds
  | .kt ds => cloL n ds
  | .dct kds => cloK n kds
  | .obj _ fds => cloF n fds
  | .exv _ _ _ fds => cloF n fds
  | .cell m => decide (m < n)
  | .non => true
  | .bl _ => true
  | .int _ => true
  | .str _ => true
  | .ty _ => true
  | .gl _ => true
def cloL (n : Nat) : List Da → Bool
  | [] => true
  | d :: ds => cloD n d && cloL n ds
def cloK (n : Nat) : List (Key × Da) → Bool
  | [] => true
  | (_, d) :: ds => cloD n d && cloK n ds
def cloF (n : Nat) : List (Str × Da) → Bool
  | [] => true
  | (_, d) :: ds => cloD n d && cloF n ds
end
section
variable {K : PySem.W.Frag} {χ : List Addr} {H : Hp}
theorem take_at {α : Type} {l : List α} {n i : Nat} {a : α} (h : l[i]? = some a) (lt : i < n) : (l.take n)[i]? = some a := by
  rw [List.getElem?_take]
  simp [lt, h]
theorem nin_take {α : Type} {l : List α} {n : Nat} {a : α} (h : a ∉ l) : a ∉ l.take n := fun m => h (List.mem_of_mem_take m)
mutual
theorem Rp.cut {φ : List Addr} {n : Nat} : ∀ {v : V} {d : Da}, Rp K H φ χ v d → cloD n d = true → Rp K H (φ.take n) χ v d
  | _, _, .non, _ => .non
  | _, _, .bl b, _ => .bl b
  | _, _, .int i, _ => .int i
  | _, _, .str h, _ => .str h
  | _, _, .ty n, _ => .ty n
  | _, _, .gl x, _ => .gl x
  | _, _, .tup h a m r, c => .tup h (nin_take a) m (RpL.cut r (by unfold cloD at c; exact c))
  | _, _, .lst h a m r, c => .lst h (nin_take a) m (RpL.cut r (by unfold cloD at c; exact c))
  | _, _, .dct h q a m r, c => .dct h q (nin_take a) m (RpK.cut r (by unfold cloD at c; exact c))
  | _, _, .obj h a m r, c => .obj h (nin_take a) m (RpF.cut r (by unfold cloD at c; exact c))
  | _, _, .klR h q a m r, c => .klR h q (nin_take a) m (RpL.cut r (by unfold cloD at c; exact c))
  | _, _, .klK h r, c => .klK h (RpL.cut r (by unfold cloD at c; exact c))
  | _, _, .ktK h r, c => .ktK h (RpL.cut r (by unfold cloD at c; exact c))
  | _, _, .cell h, c => .cell (take_at h (by unfold cloD at c; exact of_decide_eq_true c))
  | _, _, .exv h a m r, c => .exv h (nin_take a) m (RpF.cut r (by unfold cloD at c; exact c))
theorem RpL.cut {φ : List Addr} {n : Nat} : ∀ {v : List V} {d : List Da}, RpL K H φ χ v d → cloL n d = true → RpL K H (φ.take n) χ v d
  | _, _, .nil, _ => .nil
  | _, _, .cons h r, c => by
    unfold cloL at c
    rw [Bool.and_eq_true] at c
    exact .cons (Rp.cut h c.1) (RpL.cut r c.2)
theorem RpK.cut {φ : List Addr} {n : Nat} : ∀ {v : List (Key × V)} {d : List (Key × Da)}, RpK K H φ χ v d → cloK n d = true → RpK K H (φ.take n) χ v d
  | _, _, .nil, _ => .nil
  | _, _, .cons h r, c => by
    unfold cloK at c
    rw [Bool.and_eq_true] at c
    exact .cons (Rp.cut h c.1) (RpK.cut r c.2)
theorem RpF.cut {φ : List Addr} {n : Nat} : ∀ {v : List (Str × V)} {d : List (Str × Da)}, RpF K H φ χ v d → cloF n d = true → RpF K H (φ.take n) χ v d
  | _, _, .nil, _ => .nil
  | _, _, .cons h r, c => by
    unfold cloF at c
    rw [Bool.and_eq_true] at c
    exact .cons (Rp.cut h c.1) (RpF.cut r c.2)
end
mutual
theorem Rp.clo {φ : List Addr} {n : Nat} (l : φ.length ≤ n) : ∀ {v : V} {d : Da}, Rp K H φ χ v d → cloD n d = true
  | _, _, .non => rfl
  | _, _, .bl b => rfl
  | _, _, .int i => rfl
  | _, _, .str h => rfl
  | _, _, .ty n => rfl
  | _, _, .gl x => rfl
  | _, _, .tup h a m r => by unfold cloD; exact RpL.clo l r
  | _, _, .lst h a m r => by unfold cloD; exact RpL.clo l r
  | _, _, .dct h q a m r => by unfold cloD; exact RpK.clo l r
  | _, _, .obj h a m r => by unfold cloD; exact RpF.clo l r
  | _, _, .klR h q a m r => by unfold cloD; exact RpL.clo l r
  | _, _, .klK h r => by unfold cloD; exact RpL.clo l r
  | _, _, .ktK h r => by unfold cloD; exact RpL.clo l r
  | _, _, .cell h => by
    unfold cloD
    exact decide_eq_true (Nat.lt_of_lt_of_le (List.getElem?_eq_some_iff.1 h).1 l)
  | _, _, .exv h a m r => by unfold cloD; exact RpF.clo l r
theorem RpL.clo {φ : List Addr} {n : Nat} (l : φ.length ≤ n) : ∀ {v : List V} {d : List Da}, RpL K H φ χ v d → cloL n d = true
  | _, _, .nil => rfl
  | _, _, .cons h r => by unfold cloL; rw [Rp.clo l h, RpL.clo l r]; rfl
theorem RpK.clo {φ : List Addr} {n : Nat} (l : φ.length ≤ n) : ∀ {v : List (Key × V)} {d : List (Key × Da)}, RpK K H φ χ v d → cloK n d = true
  | _, _, .nil => rfl
  | _, _, .cons h r => by unfold cloK; rw [Rp.clo l h, RpK.clo l r]; rfl
theorem RpF.clo {φ : List Addr} {n : Nat} (l : φ.length ≤ n) : ∀ {v : List (Str × V)} {d : List (Str × Da)}, RpF K H φ χ v d → cloF n d = true
  | _, _, .nil => rfl
  | _, _, .cons h r => by unfold cloF; rw [Rp.clo l h, RpF.clo l r]; rfl
end
/-! ### lists of data -/
theorem RpL.len {φ : List Addr} : ∀ {vs : List V} {ds : List Da}, RpL K H φ χ vs ds → vs.length = ds.length
  | _, _, .nil => rfl
  | _, _, .cons _ r => by rw [List.length_cons, List.length_cons, r.len]
theorem RpL.app {φ : List Addr} : ∀ {vs : List V} {ds : List Da} {ws : List V} {es : List Da}, RpL K H φ χ vs ds → RpL K H φ χ ws es → RpL K H φ χ (vs ++ ws) (ds ++ es)
  | _, _, _, _, .nil, r => r
  | _, _, _, _, .cons h l, r => .cons h (l.app r)
theorem RpL.get {φ : List Addr} : ∀ {vs : List V} {ds : List Da} {i : Nat} {d : Da}, RpL K H φ χ vs ds → ds[i]? = some d → ∃ v, vs[i]? = some v ∧ Rp K H φ χ v d
  | _, _, _, _, .nil, e => by simp at e
  | _, _, 0, _, .cons h _, e => by
    simp only [List.getElem?_cons_zero, Option.some.injEq] at e
    subst e
    exact ⟨_, rfl, h⟩
  | _, _, i + 1, _, .cons _ r, e => by
    obtain ⟨v, h1, h2⟩ := r.get (i := i) (by simpa using e)
    exact ⟨v, by simpa using h1, h2⟩
theorem RpL.get' {φ : List Addr} : ∀ {vs : List V} {ds : List Da} {i : Nat} {v : V}, RpL K H φ χ vs ds → vs[i]? = some v → ∃ d, ds[i]? = some d ∧ Rp K H φ χ v d
  | _, _, _, _, .nil, e => by simp at e
  | _, _, 0, _, .cons h _, e => by
    simp only [List.getElem?_cons_zero, Option.some.injEq] at e
    subst e
    exact ⟨_, rfl, h⟩
  | _, _, i + 1, _, .cons _ r, e => by
    obtain ⟨v, h1, h2⟩ := r.get' (i := i) (by simpa using e)
    exact ⟨v, by simpa using h1, h2⟩
theorem RpL.take {φ : List Addr} : ∀ {vs : List V} {ds : List Da} (n : Nat), RpL K H φ χ vs ds → RpL K H φ χ (vs.take n) (ds.take n)
  | _, _, 0, _ => .nil
  | _, _, _ + 1, .nil => .nil
  | _, _, n + 1, .cons h r => .cons h (r.take n)
theorem RpL.drop {φ : List Addr} : ∀ {vs : List V} {ds : List Da} (n : Nat), RpL K H φ χ vs ds → RpL K H φ χ (vs.drop n) (ds.drop n)
  | _, _, 0, r => r
  | _, _, _ + 1, .nil => .nil
  | _, _, n + 1, .cons _ r => r.drop n
theorem RpL.set {φ : List Addr} {v : V} {d : Da} (h : Rp K H φ χ v d) : ∀ {vs : List V} {ds : List Da} (i : Nat), RpL K H φ χ vs ds → RpL K H φ χ (vs.set i v) (ds.set i d)
  | _, _, _, .nil => .nil
  | _, _, 0, .cons _ r => .cons h r
  | _, _, i + 1, .cons q r => .cons q (RpL.set h i r)
theorem RpL.erase {φ : List Addr} : ∀ {vs : List V} {ds : List Da} (i : Nat), RpL K H φ χ vs ds → RpL K H φ χ (vs.eraseIdx i) (ds.eraseIdx i)
  | _, _, _, .nil => .nil
  | _, _, 0, .cons _ r => r
  | _, _, i + 1, .cons q r => .cons q (RpL.erase i r)
theorem RpL.mem {φ : List Addr} : ∀ {vs : List V} {ds : List Da}, RpL K H φ χ vs ds → ∀ v ∈ vs, ∃ d ∈ ds, Rp K H φ χ v d
  | _, _, .nil => fun v hv => by cases hv
  | _, _, .cons h r => fun v hv => by
    rcases List.mem_cons.mp hv with rfl | hv
    · exact ⟨_, List.mem_cons_self .., h⟩
    · obtain ⟨t, ht, q⟩ := r.mem v hv
      exact ⟨t, List.mem_cons_of_mem _ ht, q⟩
theorem RpK.len {φ : List Addr} : ∀ {vs : List (Key × V)} {ds : List (Key × Da)}, RpK K H φ χ vs ds → vs.length = ds.length
  | _, _, .nil => rfl
  | _, _, .cons _ r => by rw [List.length_cons, List.length_cons, r.len]
end
/-! ### the memory: what the cells hold -/
def CellAt (K : PySem.W.Frag) (H : Hp) (φ χ : List Addr) (a : Addr) : Da → Prop
  | .lst ds => ∃ vs, H a = some (.lst vs) ∧ RpL K H φ χ vs ds
  | .dct kds => ∃ kvs, H a = some (.dK kvs) ∧ RpK K H φ χ kvs kds
  | .obj c fds => ∃ dx fs, H a = some (.ins (He.ga K c) dx fs) ∧ RpF K H φ χ fs fds
  | .gl _ => H a ≠ none
  | _ => False
structure Mm (K : PySem.W.Frag) (H : Hp) (φ χ : List Addr) (M : Mem) : Prop where
  nd : φ.Nodup
  len : φ.length = M.length
  dis : ∀ a ∈ φ, a ∉ χ
  hid : ∀ a ∈ χ, H a ≠ none
  at_ : ∀ (n : Nat) (a : Addr) (d : Da), φ[n]? = some a → M[n]? = some d → CellAt K H φ χ a d
/-- the slots -/
structure Rs (K : PySem.W.Frag) (H : Hp) (φ χ : List Addr) (σ : L2.St) (ρ : Sl) : Prop where
  len : σ.length = ρ.length
  at_ : ∀ (i : Nat) (d : Da), ρ[i]? = some (some d) → ∃ v, σ[i]? = some (some v) ∧ Rp K H φ χ v d
section
variable {K : PySem.W.Frag} {χ φ : List Addr} {H : Hp} {M : Mem}
theorem upd_some {H : Hp} {p a : Addr} {o : HO} (e : H a ≠ none) : upd H p o a ≠ none := by
  by_cases q : a = p
  · rw [q, upd_same]; simp
  · rw [upd_ne q]; exact e
theorem CellAt.in_ {a : Addr} {d : Da} (h : CellAt K H φ χ a d) : H a ≠ none := by
  cases d with
  | lst ds => obtain ⟨_, e, _⟩ := h; rw [e]; simp
  | dct ds => obtain ⟨_, e, _⟩ := h; rw [e]; simp
  | obj c ds => obtain ⟨_, _, e, _⟩ := h; rw [e]; simp
  | gl x => exact h
  | _ => exact h.elim
theorem Mm.has (m : Mm K H φ χ M) {n : Nat} {a : Addr} (h : φ[n]? = some a) : ∃ d, M[n]? = some d ∧ CellAt K H φ χ a d := by
  have l := (List.getElem?_eq_some_iff.1 h).1
  have l2 : n < M.length := by rw [← m.len]; exact l
  exact ⟨M[n], by simp [l2], m.at_ n a _ h (by simp [l2])⟩
theorem Mm.has' (m : Mm K H φ χ M) {n : Nat} {d : Da} (h : M[n]? = some d) : ∃ a, φ[n]? = some a ∧ CellAt K H φ χ a d := by
  have l := (List.getElem?_eq_some_iff.1 h).1
  have l2 : n < φ.length := by rw [m.len]; exact l
  exact ⟨φ[n], by simp [l2], m.at_ n _ d (by simp [l2]) h⟩
theorem Mm.dom (m : Mm K H φ χ M) {a : Addr} (h : a ∈ φ) : H a ≠ none := by
  obtain ⟨n, l, e⟩ := List.getElem_of_mem h
  obtain ⟨d, _, c⟩ := m.has (n := n) (a := a) (by rw [List.getElem?_eq_getElem l, e])
  exact c.in_
theorem CellAt.adv {H' : Hp} {φ' : List Addr} {a : Addr} {d : Da} (A : Adv H φ H' φ') (e : H' a = H a) (h : CellAt K H φ χ a d) : CellAt K H' φ' χ a d := by
  cases d with
  | lst ds => obtain ⟨vs, q, r⟩ := h; exact ⟨vs, e.trans q, r.adv A⟩
  | dct ds => obtain ⟨vs, q, r⟩ := h; exact ⟨vs, e.trans q, r.adv A⟩
  | obj c ds => obtain ⟨dx, vs, q, r⟩ := h; exact ⟨dx, vs, e.trans q, r.adv A⟩
  | gl x => show H' a ≠ none; rw [e]; exact h
  | _ => exact h.elim
theorem Mm.new {p : Addr} {o : HO} (m : Mm K H φ χ M) (h : H p = none) : Mm K (upd H p o) φ χ M where
  nd := m.nd
  len := m.len
  dis := m.dis
  hid := fun a ha => upd_some (m.hid a ha)
  at_ := fun n a d e1 e2 => (m.at_ n a d e1 e2).adv (Adv.new h) (upd_ne fun q => m.dom (List.mem_of_getElem? e1) (by rw [q]; exact h))
theorem Mm.newC {p : Addr} {o : HO} {d : Da} (m : Mm K H φ χ M) (h : H p = none) (c : CellAt K (upd H p o) (φ ++ [p]) χ p d) : Mm K (upd H p o) (φ ++ [p]) χ (M ++ [d]) where
  nd := by
    rw [List.nodup_append]
    refine ⟨m.nd, by simp, fun a ha b hb q => ?_⟩
    rw [List.mem_singleton.1 hb] at q
    exact m.dom ha (by rw [q]; exact h)
  len := by rw [List.length_append, List.length_append, m.len]; rfl
  dis := fun a ha => by
    rcases List.mem_append.1 ha with ha | ha
    · exact m.dis a ha
    · rw [List.mem_singleton.1 ha]; exact fun q => m.hid p q h
  hid := fun a ha => upd_some (m.hid a ha)
  at_ := fun n a e e1 e2 => by
    by_cases l : n < φ.length
    · rw [List.getElem?_append_left l] at e1
      rw [List.getElem?_append_left (by rw [← m.len]; exact l)] at e2
      exact (m.at_ n a e e1 e2).adv (Adv.newC h) (upd_ne fun q => m.dom (List.mem_of_getElem? e1) (by rw [q]; exact h))
    · have l2 : φ.length ≤ n := Nat.le_of_not_lt l
      rw [List.getElem?_append_right l2] at e1
      rw [List.getElem?_append_right (by rw [← m.len]; exact l2)] at e2
      have z : n - φ.length = 0 := by
        have := (List.getElem?_eq_some_iff.1 e1).1
        simp at this
        omega
      rw [z] at e1
      rw [show n - M.length = 0 by rw [← m.len]; exact z] at e2
      simp at e1 e2
      rw [← e1, ← e2]
      exact c
theorem Mm.mut {n : Nat} {a : Addr} {o : HO} {d : Da} (m : Mm K H φ χ M) (h : φ[n]? = some a) (c : CellAt K (upd H a o) φ χ a d) : Mm K (upd H a o) φ χ (M.set n d) where
  nd := m.nd
  len := by rw [List.length_set]; exact m.len
  dis := m.dis
  hid := fun a ha => upd_some (m.hid a ha)
  at_ := fun k b e e1 e2 => by
    by_cases q : k = n
    · rw [q] at e1 e2
      have l : n < M.length := by rw [← m.len]; exact (List.getElem?_eq_some_iff.1 h).1
      rw [List.getElem?_set_self l] at e2
      cases e2
      rw [h] at e1
      cases e1
      exact c
    · rw [List.getElem?_set_ne (Ne.symm q)] at e2
      refine (m.at_ k b e e1 e2).adv (Adv.mut (List.mem_of_getElem? h)) (upd_ne fun z => q ?_)
      subst z
      have l1 := List.getElem?_eq_some_iff.1 e1
      exact (List.getElem?_inj l1.1 m.nd).1 (e1.trans h.symm)
theorem Mm.hideN {D : Addr} {o : HO} (m : Mm K H φ χ M) (h : H D = none) : Mm K (upd H D o) φ (D :: χ) M where
  nd := m.nd
  len := m.len
  dis := fun a ha => nmc ⟨fun q => m.dom ha (by rw [q]; exact h), m.dis a ha⟩
  hid := fun a ha => by
    rcases List.mem_cons.1 ha with rfl | ha
    · rw [upd_same]; simp
    · exact upd_some (m.hid a ha)
  at_ := fun n a d e1 e2 => by
    have c := m.at_ n a d e1 e2
    have ne : a ≠ D := fun q => m.dom (List.mem_of_getElem? e1) (by rw [q]; exact h)
    have hD : D ∈ D :: χ := List.mem_cons_self ..
    cases d with
    | lst ds => obtain ⟨vs, q, r⟩ := c; exact ⟨vs, by rw [upd_ne ne]; exact q, (r.hide h).at_ hD⟩
    | dct ds => obtain ⟨vs, q, r⟩ := c; exact ⟨vs, by rw [upd_ne ne]; exact q, (r.hide h).at_ hD⟩
    | obj c ds => obtain ⟨dx, vs, q, r⟩ := c; exact ⟨dx, vs, by rw [upd_ne ne]; exact q, (r.hide h).at_ hD⟩
    | gl x => show upd H D o a ≠ none; rw [upd_ne ne]; exact c
    | _ => exact c.elim
theorem Mm.bare {D : Addr} (m : Mm K H φ (D :: χ) M) : Mm K H φ χ M where
  nd := m.nd
  len := m.len
  dis := fun a ha => fun q => m.dis a ha (List.mem_cons_of_mem _ q)
  hid := fun a ha => m.hid a (List.mem_cons_of_mem _ ha)
  at_ := fun n a d e1 e2 => by
    have c := m.at_ n a d e1 e2
    cases d with
    | lst ds => obtain ⟨vs, q, r⟩ := c; exact ⟨vs, q, r.bare⟩
    | dct ds => obtain ⟨vs, q, r⟩ := c; exact ⟨vs, q, r.bare⟩
    | obj c ds => obtain ⟨dx, vs, q, r⟩ := c; exact ⟨dx, vs, q, r.bare⟩
    | gl x => exact c
    | _ => exact c.elim
theorem Mm.updH {D : Addr} {o : HO} (m : Mm K H φ χ M) (h : D ∈ χ) : Mm K (upd H D o) φ χ M where
  nd := m.nd
  len := m.len
  dis := m.dis
  hid := fun a ha => upd_some (m.hid a ha)
  at_ := fun n a d e1 e2 => by
    have c := m.at_ n a d e1 e2
    have ne : a ≠ D := fun q => m.dis a (List.mem_of_getElem? e1) (by rw [q]; exact h)
    cases d with
    | lst ds => obtain ⟨vs, q, r⟩ := c; exact ⟨vs, by rw [upd_ne ne]; exact q, r.at_ h⟩
    | dct ds => obtain ⟨vs, q, r⟩ := c; exact ⟨vs, by rw [upd_ne ne]; exact q, r.at_ h⟩
    | obj c ds => obtain ⟨dx, vs, q, r⟩ := c; exact ⟨dx, vs, by rw [upd_ne ne]; exact q, r.at_ h⟩
    | gl x => show upd H D o a ≠ none; rw [upd_ne ne]; exact c
    | _ => exact c.elim
theorem Mm.cut {n : Nat} (m : Mm K H φ χ M) (c : cloL n (M.take n) = true) : Mm K H (φ.take n) χ (M.take n) where
  nd := m.nd.sublist (List.take_sublist _ _)
  len := by rw [List.length_take, List.length_take, m.len]
  dis := fun a ha => m.dis a (List.mem_of_mem_take ha)
  hid := m.hid
  at_ := fun k a d e1 e2 => by
    have all : ∀ {l : List Da} {k : Nat} {d : Da}, cloL n l = true → l[k]? = some d → cloD n d = true := by
      intro l
      induction l with
      | nil => intro k d _ e; simp at e
      | cons x xs ih =>
        intro k d c e
        unfold cloL at c
        rw [Bool.and_eq_true] at c
        cases k with
        | zero => simp at e; rw [← e]; exact c.1
        | succ k => exact ih c.2 (by simpa using e)
    have cd := all c e2
    have e1' : φ[k]? = some a := by
      rw [List.getElem?_take] at e1
      split at e1
      · exact e1
      · cases e1
    have e2' : M[k]? = some d := by
      rw [List.getElem?_take] at e2
      split at e2
      · exact e2
      · cases e2
    have q := m.at_ k a d e1' e2'
    cases d with
    | lst ds => obtain ⟨vs, q, r⟩ := q; exact ⟨vs, q, r.cut (by unfold cloD at cd; exact cd)⟩
    | dct ds => obtain ⟨vs, q, r⟩ := q; exact ⟨vs, q, r.cut (by unfold cloD at cd; exact cd)⟩
    | obj c ds => obtain ⟨dx, vs, q, r⟩ := q; exact ⟨dx, vs, q, r.cut (by unfold cloD at cd; exact cd)⟩
    | gl x => exact q
    | _ => exact q.elim
theorem Mm.clo (m : Mm K H φ χ M) : cloL M.length M = true := by
  have all : ∀ (l : List Da), (∀ d ∈ l, cloD M.length d = true) → cloL M.length l = true := by
    intro l
    induction l with
    | nil => intro _; rfl
    | cons x xs ih =>
      intro h
      unfold cloL
      rw [h x (List.mem_cons_self ..), ih fun d hd => h d (List.mem_cons_of_mem _ hd)]
      rfl
  refine all M fun d hd => ?_
  obtain ⟨n, l, e⟩ := List.getElem_of_mem hd
  obtain ⟨a, _, c⟩ := m.has' (n := n) (d := d) (by rw [List.getElem?_eq_getElem l, e])
  have le : φ.length ≤ M.length := Nat.le_of_eq m.len
  cases d with
  | lst ds => obtain ⟨vs, _, r⟩ := c; unfold cloD; exact r.clo le
  | dct ds => obtain ⟨vs, _, r⟩ := c; unfold cloD; exact r.clo le
  | obj c ds => obtain ⟨dx, vs, _, r⟩ := c; unfold cloD; exact r.clo le
  | gl x => rfl
  | _ => exact c.elim
variable {σ : L2.St} {ρ : Sl}
theorem Rs.adv {H' : Hp} {φ' : List Addr} (A : Adv H φ H' φ') (r : Rs K H φ χ σ ρ) : Rs K H' φ' χ σ ρ := ⟨r.len, fun i d e => by
  obtain ⟨v, h, q⟩ := r.at_ i d e
  exact ⟨v, h, q.adv A⟩⟩
theorem Rs.set {i : Nat} {v : V} {d : Da} (r : Rs K H φ χ σ ρ) (h : Rp K H φ χ v d) : Rs K H φ χ (σ.set i (some v)) (ρ.set i (some d)) := ⟨by rw [List.length_set, List.length_set]; exact r.len, fun k e q => by
  by_cases z : k = i
  · subst z
    have l : k < ρ.length := by
      have := (List.getElem?_eq_some_iff.1 q).1
      rwa [List.length_set] at this
    rw [List.getElem?_set_self l] at q
    cases q
    exact ⟨v, List.getElem?_set_self (by rw [r.len]; exact l), h⟩
  · rw [List.getElem?_set_ne (Ne.symm z)] at q
    rw [List.getElem?_set_ne (Ne.symm z)]
    exact r.at_ k e q⟩
theorem Rs.gone {i : Nat} (r : Rs K H φ χ σ ρ) : Rs K H φ χ (σ.set i none) (ρ.set i none) := ⟨by rw [List.length_set, List.length_set]; exact r.len, fun k e q => by
  by_cases z : k = i
  · subst z
    have l : k < ρ.length := by
      have := (List.getElem?_eq_some_iff.1 q).1
      rwa [List.length_set] at this
    rw [List.getElem?_set_self l] at q
    cases q
  · rw [List.getElem?_set_ne (Ne.symm z)] at q
    rw [List.getElem?_set_ne (Ne.symm z)]
    exact r.at_ k e q⟩
theorem Rs.hideN {D : Addr} {o : HO} (r : Rs K H φ χ σ ρ) (h : H D = none) : Rs K (upd H D o) φ (D :: χ) σ ρ := ⟨r.len, fun i d e => by
  obtain ⟨v, q, p⟩ := r.at_ i d e
  exact ⟨v, q, (p.hide h).at_ (List.mem_cons_self ..)⟩⟩
theorem Rs.bare {D : Addr} (r : Rs K H φ (D :: χ) σ ρ) : Rs K H φ χ σ ρ := ⟨r.len, fun i d e => by
  obtain ⟨v, q, p⟩ := r.at_ i d e
  exact ⟨v, q, p.bare⟩⟩
theorem Rs.updH {D : Addr} {o : HO} (r : Rs K H φ χ σ ρ) (h : D ∈ χ) : Rs K (upd H D o) φ χ σ ρ := ⟨r.len, fun i d e => by
  obtain ⟨v, q, p⟩ := r.at_ i d e
  exact ⟨v, q, p.at_ h⟩⟩
/-- slots whose data have cells below n alone; the others are forgotten -/
def slClo (n : Nat) (ρ ρ' : Sl) : Prop := ρ'.length = ρ.length ∧ ∀ (i : Nat) (d : Da), ρ'[i]? = some (some d) → ρ[i]? = some (some d) ∧ cloD n d = true
theorem Rs.cut {n : Nat} {ρ' : Sl} (r : Rs K H φ χ σ ρ) (c : slClo n ρ ρ') : Rs K H (φ.take n) χ σ ρ' := ⟨by rw [c.1]; exact r.len, fun i d e => by
  obtain ⟨h, q⟩ := c.2 i d e
  obtain ⟨v, h2, p⟩ := r.at_ i d h
  exact ⟨v, h2, p.cut q⟩⟩
end
end Z

/-! T2: readings over data. For each construct the data's reading (n.., m..) and a theorem (O_.., E_..) that it carries the machine's. -/
namespace Z
open PySem PySem.Spec PyProof.Rows L2 Evl
abbrev TK := Da → Mem → Prop
abbrev WD := Str → List (Str × Da) → Sl → Mem → Prop
abbrev ME := Sl → Mem → TK → Prop
abbrev MA := Sl → Mem → (List Da → Mem → Prop) → Prop
abbrev MT := Sl → Mem → (Bool → Mem → Prop) → Prop
abbrev MO := Da → Da → Mem → TK → Prop
structure En where
  nx : Sl → Mem → Prop
  rt : TK
  bk : Sl → Mem → Prop := fun _ _ => False
  ct : Sl → Mem → Prop := fun _ _ => False
abbrev MS := En → Sl → Mem → Prop
abbrev MG := Da → Sl → Mem → (Sl → Mem → Prop) → Prop
abbrev MGs := List Da → Sl → Mem → (Sl → Mem → Prop) → Prop
def look (M : Mem) : Da → Da
  | .cell n => M.getD n (.gl "")
  | .kl ds => .lst ds
  | .kt ds => .tup ds
  | d => d
def lookE (M : Mem) : Da → Da
  | .cell n => M.getD n (.gl "")
  | .kl _ => .gl ""
  | .kt _ => .gl ""
  | d => d
/-! ### the ends carried -/
def FE (K : PySem.W.Frag) (χ : List Addr) (H : Hp) (φ : List Addr) (Q' : TK) (Q : VK) : Prop := ∀ v d H' φ' M', Adv H φ H' φ' → Mm K H' φ' χ M' → Rp K H' φ' χ v d → Q' d M' → Q v H'
def FA (K : PySem.W.Frag) (χ : List Addr) (H : Hp) (φ : List Addr) (Q' : List Da → Mem → Prop) (Q : List V → Hp → Prop) : Prop := ∀ v d H' φ' M', Adv H φ H' φ' → Mm K H' φ' χ M' → RpL K H' φ' χ v d → Q' d M' → Q v H'
def FT (K : PySem.W.Frag) (χ : List Addr) (H : Hp) (φ : List Addr) (Q' : Bool → Mem → Prop) (Q : Bool → Hp → Prop) : Prop := ∀ b H' φ' M', Adv H φ H' φ' → Mm K H' φ' χ M' → Q' b M' → Q b H'
def FN (K : PySem.W.Frag) (χ : List Addr) (H : Hp) (φ : List Addr) (Q' : Sl → Mem → Prop) (Q : L2.St → Hp → Prop) : Prop := ∀ σ' H' φ' ρ' M', Adv H φ H' φ' → Rs K H' φ' χ σ' ρ' → Mm K H' φ' χ M' → Q' ρ' M' → Q σ' H'
def FW (K : PySem.W.Frag) (χ : List Addr) (H : Hp) (φ : List Addr) (W' : WD) (W : WX) : Prop := ∀ c fs vfs dd σ' H' φ' ρ' M', Adv H φ H' φ' → Rs K H' φ' χ σ' ρ' → Mm K H' φ' χ M' → H' dd = some (.xd vfs) → dd ∉ φ' → dd ∉ χ → RpF K H' φ' χ vfs fs →
  W' c fs ρ' M' → W (.ref (He.ga K c)) (some dd) σ' H'
section
variable {K : PySem.W.Frag} {χ : List Addr} {H H1 : Hp} {φ φ1 : List Addr}
theorem FE.adv {Q' : TK} {Q : VK} (f : FE K χ H φ Q' Q) (A : Adv H φ H1 φ1) : FE K χ H1 φ1 Q' Q := fun v d H' φ' M' B => f v d H' φ' M' (A.trans B)
theorem FA.adv {Q' : List Da → Mem → Prop} {Q : List V → Hp → Prop} (f : FA K χ H φ Q' Q) (A : Adv H φ H1 φ1) : FA K χ H1 φ1 Q' Q := fun v d H' φ' M' B => f v d H' φ' M' (A.trans B)
theorem FT.adv {Q' : Bool → Mem → Prop} {Q : Bool → Hp → Prop} (f : FT K χ H φ Q' Q) (A : Adv H φ H1 φ1) : FT K χ H1 φ1 Q' Q := fun b H' φ' M' B => f b H' φ' M' (A.trans B)
theorem FN.adv {Q' : Sl → Mem → Prop} {Q : L2.St → Hp → Prop} (f : FN K χ H φ Q' Q) (A : Adv H φ H1 φ1) : FN K χ H1 φ1 Q' Q := fun σ' H' φ' ρ' M' B => f σ' H' φ' ρ' M' (A.trans B)
theorem FW.adv {W' : WD} {W : WX} (f : FW K χ H φ W' W) (A : Adv H φ H1 φ1) : FW K χ H1 φ1 W' W := fun c fs vfs dd σ' H' φ' ρ' M' B => f c fs vfs dd σ' H' φ' ρ' M' (A.trans B)
end
/-! ### what carries -/
structure SE (K : PySem.W.Frag) (te : WX → TE) (me : WD → ME) : Prop where
  run : ∀ {χ W W' σ H φ ρ M Q Q'}, Rs K H φ χ σ ρ → Mm K H φ χ M → FW K χ H φ W' W → FE K χ H φ Q' Q → me W' ρ M Q' → te W σ H Q
structure SA (K : PySem.W.Frag) (te : WX → TA) (me : WD → MA) : Prop where
  run : ∀ {χ W W' σ H φ ρ M Q Q'}, Rs K H φ χ σ ρ → Mm K H φ χ M → FW K χ H φ W' W → FA K χ H φ Q' Q → me W' ρ M Q' → te W σ H Q
structure ST (K : PySem.W.Frag) (te : WX → TT) (me : WD → MT) : Prop where
  run : ∀ {χ W W' σ H φ ρ M Q Q'}, Rs K H φ χ σ ρ → Mm K H φ χ M → FW K χ H φ W' W → FT K χ H φ Q' Q → me W' ρ M Q' → te W σ H Q
structure SS (K : PySem.W.Frag) (ts : WX → TS) (ms : WD → MS) : Prop where
  run : ∀ {χ W W' σ H φ ρ M D D'}, Rs K H φ χ σ ρ → Mm K H φ χ M → FW K χ H φ W' W → FN K χ H φ D'.nx D.nx → FE K χ H φ D'.rt D.rt → FN K χ H φ D'.bk D.bk → FN K χ H φ D'.ct D.ct → ms W' D' ρ M → ts W D σ H
structure SG (K : PySem.W.Frag) (g : WX → TG) (mg : WD → MG) : Prop where
  run : ∀ {χ W W' σ H φ ρ M v d Q Q'}, Rs K H φ χ σ ρ → Mm K H φ χ M → FW K χ H φ W' W → Rp K H φ χ v d → FN K χ H φ Q' Q → mg W' d ρ M Q' → g W v σ H Q
structure SGs (K : PySem.W.Frag) (g : WX → TGs) (mg : WD → MGs) : Prop where
  run : ∀ {χ W W' σ H φ ρ M v d Q Q'}, Rs K H φ χ σ ρ → Mm K H φ χ M → FW K χ H φ W' W → RpL K H φ χ v d → FN K χ H φ Q' Q → mg W' d ρ M Q' → g W v σ H Q
/-- operators -/
def SO (K : PySem.W.Frag) (r : R2) (n : MO) : Prop := ∀ {χ H φ M x y dx dy Q Q'}, Mm K H φ χ M → Rp K H φ χ x dx → Rp K H φ χ y dy → FE K χ H φ Q' Q → n dx dy M Q' → r x y H Q
/-- calls of builtins -/
def SC (K : PySem.W.Frag) (r : List V → Hp → VK → Prop) (n : List Da → Mem → TK → Prop) : Prop := ∀ {χ H φ M x dx Q Q'}, Mm K H φ χ M → RpL K H φ χ x dx → FE K χ H φ Q' Q → n dx M Q' → r x H Q
/-- methods -/
def SM (K : PySem.W.Frag) (T : String) (r : V → List V → Hp → VK → Prop) (n : Da → List Da → Mem → TK → Prop) (ok : Da → Mem → Prop) : Prop :=
  (∀ {χ H φ M x dx}, Mm K H φ χ M → Rp K H φ χ x dx → ok dx M → tyV K T x H) ∧ ∀ {χ H φ M x dx xs dxs Q Q'}, Mm K H φ χ M → Rp K H φ χ x dx → RpL K H φ χ xs dxs → FE K χ H φ Q' Q → n dx dxs M Q' → r x xs H Q
section
variable {K : PySem.W.Frag} {χ φ : List Addr} {H : Hp} {M : Mem} {v : V} {d : Da}
theorem Mm.look (m : Mm K H φ χ M) {n : Nat} {a : Addr} (h : φ[n]? = some a) : ∃ d, M.getD n (.gl "") = d ∧ M[n]? = some d ∧ CellAt K H φ χ a d := by
  obtain ⟨d, e, c⟩ := m.has h
  exact ⟨d, by rw [List.getD_eq_getElem?_getD, e]; rfl, e, c⟩
theorem vL (m : Mm K H φ χ M) (h : Rp K H φ χ v d) {ds : List Da} (e : look M d = .lst ds) : ∃ a vs, v = .ref a ∧ SqL K H a vs ∧ RpL K H φ χ vs ds := by
  cases h with
  | lst h n m r => cases e; exact ⟨_, _, rfl, SqL.of h, r⟩
  | klR h q n m r =>
    cases e
    rcases q with rfl | ⟨ob, rfl⟩
    · exact ⟨_, _, rfl, SqL.of h, r⟩
    · exact ⟨_, _, rfl, .inl (.inr ⟨ob, h⟩), r⟩
  | klK h r => cases e; exact ⟨_, _, rfl, h H, r⟩
  | cell h =>
    obtain ⟨d, e1, _, c⟩ := m.look h
    have e2 : M.getD _ (.gl "") = Da.lst ds := e
    rw [e1] at e2
    subst e2
    obtain ⟨vs, q, r⟩ := c
    exact ⟨_, vs, rfl, SqL.of q, r⟩
  | _ => cases e
theorem vT (m : Mm K H φ χ M) (h : Rp K H φ χ v d) {ds : List Da} (e : look M d = .tup ds) : ∃ a vs, v = .ref a ∧ SqT K H a vs ∧ RpL K H φ χ vs ds := by
  cases h with
  | tup h n m r => cases e; exact ⟨_, _, rfl, SqT.of h, r⟩
  | ktK h r => cases e; exact ⟨_, _, rfl, h H, r⟩
  | cell h =>
    obtain ⟨d, e1, _, c⟩ := m.look h
    have e2 : M.getD _ (.gl "") = Da.tup ds := e
    rw [e1] at e2
    subst e2
    exact c.elim
  | _ => cases e
theorem vLE (m : Mm K H φ χ M) (h : Rp K H φ χ v d) {ds : List Da} (e : lookE M d = .lst ds) : ∃ a vs, v = .ref a ∧ H a = some (.lst vs) ∧ RpL K H φ χ vs ds := by
  cases h with
  | lst h n m r => cases e; exact ⟨_, _, rfl, h, r⟩
  | cell h =>
    obtain ⟨d, e1, _, c⟩ := m.look h
    have e2 : M.getD _ (.gl "") = Da.lst ds := e
    rw [e1] at e2
    subst e2
    obtain ⟨vs, q, r⟩ := c
    exact ⟨_, vs, rfl, q, r⟩
  | _ => cases e
theorem vTE (m : Mm K H φ χ M) (h : Rp K H φ χ v d) {ds : List Da} (e : lookE M d = .tup ds) : ∃ a vs, v = .ref a ∧ H a = some (.tup vs) ∧ RpL K H φ χ vs ds := by
  cases h with
  | tup h n m r => cases e; exact ⟨_, _, rfl, h, r⟩
  | cell h =>
    obtain ⟨d, e1, _, c⟩ := m.look h
    have e2 : M.getD _ (.gl "") = Da.tup ds := e
    rw [e1] at e2
    subst e2
    exact c.elim
  | _ => cases e
theorem rd_of {a : Addr} {o : HO} {kvs : List (Key × V)} (h : H a = some o) (c : coreD o = some kvs) : Rd H a (.dK kvs) := by
  cases o with
  | dK k => cases c; exact .inl h
  | frz ob u =>
    cases u with
    | dK k => cases c; exact .inr ⟨ob, h⟩
    | _ => cases c
  | _ => cases c
theorem vD (m : Mm K H φ χ M) (h : Rp K H φ χ v d) {ds : List (Key × Da)} (e : look M d = .dct ds) : ∃ a kvs, v = .ref a ∧ Rd H a (.dK kvs) ∧ RpK K H φ χ kvs ds := by
  cases h with
  | dct h c n m r => cases e; exact ⟨_, _, rfl, rd_of h c, r⟩
  | cell h =>
    obtain ⟨d, e1, _, c⟩ := m.look h
    have e2 : M.getD _ (.gl "") = Da.dct ds := e
    rw [e1] at e2
    subst e2
    obtain ⟨vs, q, r⟩ := c
    exact ⟨_, vs, rfl, .inl q, r⟩
  | _ => cases e
theorem vInt (h : Rp K H φ χ v (.int i)) : v = .int i := by cases h; rfl
theorem vBl (h : Rp K H φ χ v (.bl i)) : v = .bl i := by cases h; rfl
theorem vStr (h : Rp K H φ χ v (.str i)) : v = .str i ∧ i.length ≤ sizeLine := by cases h; exact ⟨rfl, by assumption⟩
theorem vNon (h : Rp K H φ χ v .non) : v = .non := by cases h; rfl
theorem FE.pure {Q' : TK} {Q : VK} (f : FE K χ H φ Q' Q) (m : Mm K H φ χ M) (r : Rp K H φ χ v d) (q : Q' d M) : Q v H := f v d H φ M Adv.refl m r q
theorem RpL.newObj {p : Addr} {o : HO} {vs : List V} {ds : List Da} (h : H p = none) (r : RpL K H φ χ vs ds) : RpL K (upd H p o) φ χ vs ds := r.adv (Adv.new h)
theorem Mm.nin (m : Mm K H φ χ M) {p : Addr} (h : H p = none) : p ∉ φ := fun q => m.dom q h
theorem FE.lst {Q' : TK} {Q : VK} (f : FE K χ H φ Q' Q) (m : Mm K H φ χ M) {vs : List V} {ds : List Da} (r : RpL K H φ χ vs ds) {p : Addr} (h : H p = none) (q : Q' (.lst ds) M) : Q (.ref p) (upd H p (.lst vs)) :=
  f _ _ _ _ M (Adv.new h) (m.new h) (.lst upd_same (m.nin h) (fun c => m.hid p c h) (r.newObj h)) q
theorem FE.tup {Q' : TK} {Q : VK} (f : FE K χ H φ Q' Q) (m : Mm K H φ χ M) {vs : List V} {ds : List Da} (r : RpL K H φ χ vs ds) {p : Addr} (h : H p = none) (q : Q' (.tup ds) M) : Q (.ref p) (upd H p (.tup vs)) :=
  f _ _ _ _ M (Adv.new h) (m.new h) (.tup upd_same (m.nin h) (fun c => m.hid p c h) (r.newObj h)) q
end
end Z

/-! T3: == of data, operators, calls of builtins, methods -/
namespace Z
open PySem PySem.Spec PyProof.Rows L2 Evl
mutual
def eqD : Da → Da → Bool
  | .non, .non => true
  | .bl a, .bl b => decide (a = b)
  | .bl a, .int j => (if a then 1 else 0) == j
  | .int i, .bl b => i == (if b then 1 else 0)
  | .int i, .int j => decide (i = j)
  | .str a, .str b => decide (a = b)
  | .tup a, .tup b => eqL a b
  | .lst a, .lst b => eqL a b
  | _, _ => false
def eqL : List Da → List Da → Bool
  | [], [] => true
  | x :: xs, y :: ys => eqD x y && eqL xs ys
  | _, _ => false
end
/-! plain: None, truths, ints, texts, tuples and lists of such -/
mutual
def plD : Da → Bool
  | .non => true
  | .bl _ => true
  | .int _ => true
  | .str _ => true
  | .tup ds => plL ds
  | .lst ds => plL ds
  | _ => false
def plL : List Da → Bool
  | [] => true
  | d :: ds => plD d && plL ds
end
mutual
def dpD : Da → Nat
  | .tup ds => dpL ds + 1
  | .lst ds => dpL ds + 1
  | _ => 0
def dpL : List Da → Nat
  | [] => 0
  | d :: ds => max (dpD d) (dpL ds)
end
section
variable {K : PySem.W.Frag} {χ φ : List Addr} {H : Hp}
mutual
theorem Rp.det : ∀ {x y : Da} {v : V}, plD x = true → plD y = true → Rp K H φ χ v x → Rp K H φ χ v y → x = y
  | .non, y, v, _, py, hx, hy => by cases hx; cases hy <;> first | rfl | cases py
  | .bl b, y, v, _, py, hx, hy => by cases hx; cases hy <;> first | rfl | cases py
  | .int b, y, v, _, py, hx, hy => by cases hx; cases hy <;> first | rfl | cases py
  | .str b, y, v, _, py, hx, hy => by cases hx; cases hy <;> first | rfl | cases py
  | .tup ds, y, v, px, py, hx, hy => by
    cases hx with
    | tup h1 n1 m1 r1 =>
      cases hy with
      | tup h2 n2 m2 r2 =>
        rw [h1] at h2
        cases h2
        unfold plD at px py
        rw [RpL.det px py r1 r2]
      | lst h2 n2 m2 r2 => rw [h1] at h2; cases h2
      | _ => cases py
  | .lst ds, y, v, px, py, hx, hy => by
    cases hx with
    | lst h1 n1 m1 r1 =>
      cases hy with
      | lst h2 n2 m2 r2 =>
        rw [h1] at h2
        cases h2
        unfold plD at px py
        rw [RpL.det px py r1 r2]
      | tup h2 n2 m2 r2 => rw [h1] at h2; cases h2
      | _ => cases py
  | .ty _, _, _, px, _, _, _ => by cases px
  | .gl _, _, _, px, _, _, _ => by cases px
  | .dct _, _, _, px, _, _, _ => by cases px
  | .obj _ _, _, _, px, _, _, _ => by cases px
  | .kl _, _, _, px, _, _, _ => by cases px
  | .kt _, _, _, px, _, _, _ => by cases px
  | .cell _, _, _, px, _, _, _ => by cases px
  | .exv _ _ _ _, _, _, px, _, _, _ => by cases px
theorem RpL.det : ∀ {xs ys : List Da} {vs : List V}, plL xs = true → plL ys = true → RpL K H φ χ vs xs → RpL K H φ χ vs ys → xs = ys
  | [], ys, vs, _, _, hx, hy => by cases hx; cases hy; rfl
  | x :: xs, ys, vs, px, py, hx, hy => by
    cases hx with
    | cons h1 r1 =>
      cases hy with
      | cons h2 r2 =>
        unfold plL at px py
        rw [Bool.and_eq_true] at px py
        rw [Rp.det px.1 py.1 h1 h2, RpL.det px.2 py.2 r1 r2]
end
mutual
theorem eqD_refl : ∀ {x : Da}, plD x = true → eqD x x = true
  | .non, _ => rfl
  | .bl b, _ => by simp [eqD]
  | .int b, _ => by simp [eqD]
  | .str b, _ => by simp [eqD]
  | .tup ds, p => by unfold plD at p; unfold eqD; exact eqL_refl p
  | .lst ds, p => by unfold plD at p; unfold eqD; exact eqL_refl p
  | .ty _, p => by cases p
  | .gl _, p => by cases p
  | .dct _, p => by cases p
  | .obj _ _, p => by cases p
  | .kl _, p => by cases p
  | .kt _, p => by cases p
  | .cell _, p => by cases p
  | .exv _ _ _ _, p => by cases p
theorem eqL_refl : ∀ {xs : List Da}, plL xs = true → eqL xs xs = true
  | [], _ => rfl
  | x :: xs, p => by
    unfold plL at p
    rw [Bool.and_eq_true] at p
    unfold eqL
    rw [eqD_refl p.1, eqL_refl p.2]
    rfl
end
theorem eqL_len : ∀ {xs ys : List Da}, xs.length ≠ ys.length → eqL xs ys = false
  | [], [], h => absurd rfl h
  | [], _ :: _, _ => rfl
  | _ :: _, [], _ => rfl
  | x :: xs, y :: ys, h => by
    unfold eqL
    rw [eqL_len (xs := xs) (ys := ys) (fun e => h (by rw [List.length_cons, List.length_cons, e])), Bool.and_false]
def eqZs : List Da → List Da → List Bool
  | x :: xs, y :: ys => eqD x y :: eqZs xs ys
  | _, _ => []
theorem eqZs_all : ∀ {xs ys : List Da}, ((eqZs xs ys).all id && decide (xs.length = ys.length)) = eqL xs ys
  | [], [] => rfl
  | [], _ :: _ => rfl
  | _ :: _, [] => rfl
  | x :: xs, y :: ys => by
    unfold eqZs eqL
    rw [← eqZs_all (xs := xs) (ys := ys), List.all_cons, List.length_cons, List.length_cons]
    rw [Bool.and_assoc]
    congr 2
    simp
theorem eqZs_run {E : V → V → Bool → Prop} : ∀ {xs ys : List Da} {vs ws : List V}, RpL K H φ χ vs xs → RpL K H φ χ ws ys → (∀ x ∈ xs, ∀ y ∈ ys, ∀ v w, Rp K H φ χ v x → Rp K H φ χ w y → E v w (eqD x y)) → EqZ E vs ws (eqZs xs ys)
  | [], [], _, _, hx, hy, _ => by cases hx; cases hy; exact .nil
  | [], _ :: _, _, _, hx, hy, _ => by cases hx; cases hy; exact .nilL
  | _ :: _, [], _, _, hx, hy, _ => by cases hx; cases hy; exact .nilR
  | x :: xs, y :: ys, _, _, .cons h1 r1, .cons h2 r2, h => .cons (h x (List.mem_cons_self ..) y (List.mem_cons_self ..) _ _ h1 h2) (eqZs_run r1 r2 fun a ha b hb => h a (List.mem_cons_of_mem _ ha) b (List.mem_cons_of_mem _ hb))
theorem plL_mem : ∀ {xs : List Da}, plL xs = true → ∀ x ∈ xs, plD x = true
  | [], _, _, h => by cases h
  | x :: xs, p, y, h => by
    unfold plL at p
    rw [Bool.and_eq_true] at p
    rcases List.mem_cons.1 h with rfl | h
    · exact p.1
    · exact plL_mem p.2 y h
theorem dpL_mem : ∀ {xs : List Da} {x : Da}, x ∈ xs → dpD x ≤ dpL xs
  | [], _, h => by cases h
  | y :: ys, x, h => by
    unfold dpL
    rcases List.mem_cons.1 h with rfl | h
    · exact Nat.le_max_left ..
    · exact Nat.le_trans (dpL_mem h) (Nat.le_max_right ..)
theorem scR {E : V → V → Bool → Prop} {v w : V} {b : Bool} (h : scB v w = true) (e : decide (v = w) = b) : EqR K H E v w b := by
  rw [← e]
  exact .sc h
theorem eqR_of : ∀ (n : Nat) {x y : Da} {v w : V}, plD x = true → plD y = true → dpD x ≤ n → dpD y ≤ n → Rp K H φ χ v x → Rp K H φ χ w y → EqR K H (EqI K H n) v w (eqD x y) := by
  intro n
  induction n with
  | zero =>
    intro x y v w px py dx dy hx hy
    have bi : ∀ (a b : Bool), decide (V.bl a = V.bl b) = decide (a = b) := fun a b => by simp
    cases hx <;> first | (exfalso; unfold dpD at dx; omega) | (cases px; done) | skip
    all_goals cases hy <;> first | (exfalso; unfold dpD at dy; omega) | (cases py; done) | skip
    all_goals unfold eqD
    all_goals first
      | exact .bi _ _
      | exact .ib _ _
      | exact scR rfl (by simp)
  | succ n ih =>
    have item : ∀ {x y : Da} {v w : V}, plD x = true → plD y = true → dpD x ≤ n → dpD y ≤ n → Rp K H φ χ v x → Rp K H φ χ w y → EqI K H (n + 1) v w (eqD x y) := by
      intro x y v w px py dx dy hx hy
      by_cases same : ∃ a, v = .ref a ∧ w = .ref a
      · obtain ⟨a, rfl, rfl⟩ := same
        have e := Rp.det px py hx hy
        subst e
        exact .inl ⟨a, rfl, rfl, eqD_refl px⟩
      · exact .inr ⟨ih px py dx dy hx hy, fun a e1 e2 => same ⟨a, e1, e2⟩⟩
    have items : ∀ {xs ys : List Da} {vs ws : List V}, plL xs = true → plL ys = true → dpL xs ≤ n → dpL ys ≤ n → RpL K H φ χ vs xs → RpL K H φ χ ws ys → EqZ (EqI K H (n + 1)) vs ws (eqZs xs ys) := by
      intro xs ys vs ws px py dx dy hx hy
      exact eqZs_run hx hy fun x h1 y h2 v w h3 h4 => item (plL_mem px x h1) (plL_mem py y h2) (Nat.le_trans (dpL_mem h1) dx) (Nat.le_trans (dpL_mem h2) dy) h3 h4
    intro x y v w px py dx dy hx hy
    cases hx <;> first | (cases px; done) | skip
    all_goals cases hy <;> first | (cases py; done) | skip
    all_goals unfold eqD
    all_goals first
      | exact .bi _ _
      | exact .ib _ _
      | exact scR rfl (by simp)
      | skip
    all_goals first
      | exact .ts (SqT.of (by assumption)) rfl
      | exact .st (SqT.of (by assumption)) rfl
      | exact .ls (SqL.of (by assumption)) rfl
      | exact .sl (SqL.of (by assumption)) rfl
      | exact .lt (SqL.of (by assumption)) (SqT.of (by assumption))
      | exact .tl (SqT.of (by assumption)) (SqL.of (by assumption))
      | skip
    · rename_i a vs ds h1 n1 m1 r1 b ws es h2 n2 m2 r2
      unfold plD at px py
      unfold dpD at dx dy
      rw [← eqZs_all, ← r1.len, ← r2.len]
      exact .tup (SqT.of h1) (SqT.of h2) (items px py (by omega) (by omega) r1 r2)
    · rename_i a vs ds h1 n1 m1 r1 b ws es h2 n2 m2 r2
      unfold plD at px py
      unfold dpD at dx dy
      by_cases l : vs.length = ws.length
      · have q := EqR.lst (K := K) (H := H) (SqL.of h1) (SqL.of h2) l (items px py (by omega) (by omega) r1 r2)
        rw [← eqZs_all, decide_eq_true (by rw [← r1.len, ← r2.len]; exact l), Bool.and_true]
        exact q
      · rw [eqL_len (by rw [← r1.len, ← r2.len]; exact l)]
        exact .ll (SqL.of h1) (SqL.of h2) l
theorem eqI_of {n : Nat} {x y : Da} {v w : V} (px : plD x = true) (py : plD y = true) (dx : dpD x ≤ n) (dy : dpD y ≤ n) (hx : Rp K H φ χ v x) (hy : Rp K H φ χ w y) : EqI K H (n + 1) v w (eqD x y) := by
  by_cases same : ∃ a, v = .ref a ∧ w = .ref a
  · obtain ⟨a, rfl, rfl⟩ := same
    have e := Rp.det px py hx hy
    subst e
    exact .inl ⟨a, rfl, rfl, eqD_refl px⟩
  · exact .inr ⟨eqR_of n px py dx dy hx hy, fun a e1 e2 => same ⟨a, e1, e2⟩⟩
end
end Z

/-! T4: operators, builtins, methods -/
namespace Z
open PySem PySem.Spec PyProof.Rows L2 Evl
section
variable {K : PySem.W.Frag} {χ φ : List Addr} {H : Hp} {M : Mem} {v : V} {d : Da}
mutual
theorem Rp.weak : ∀ {v : V} {d : Da}, plD d = true → Rp K H φ χ v d → Rp K H [] [] v d
  | _, .non, _, h => by cases h; exact .non
  | _, .bl b, _, h => by cases h; exact .bl b
  | _, .int b, _, h => by cases h; exact .int b
  | _, .str b, _, h => by cases h with | str h => exact .str h
  | _, .tup ds, p, h => by
    cases h with
    | tup h n m r => unfold plD at p; exact .tup h (by simp) (by simp) (RpL.weak p r)
  | _, .lst ds, p, h => by
    cases h with
    | lst h n m r => unfold plD at p; exact .lst h (by simp) (by simp) (RpL.weak p r)
  | _, .ty _, p, _ => by cases p
  | _, .gl _, p, _ => by cases p
  | _, .dct _, p, _ => by cases p
  | _, .obj _ _, p, _ => by cases p
  | _, .kl _, p, _ => by cases p
  | _, .kt _, p, _ => by cases p
  | _, .cell _, p, _ => by cases p
  | _, .exv _ _ _ _, p, _ => by cases p
theorem RpL.weak : ∀ {v : List V} {d : List Da}, plL d = true → RpL K H φ χ v d → RpL K H [] [] v d
  | _, [], _, h => by cases h; exact .nil
  | _, d :: ds, p, h => by
    cases h with
    | cons h r =>
      unfold plL at p
      rw [Bool.and_eq_true] at p
      exact .cons (Rp.weak p.1 h) (RpL.weak p.2 r)
end
theorem weakE (m : Mm K H φ χ M) (h : Rp K H φ χ v d) (p : plD (lookE M d) = true) : Rp K H [] [] v (lookE M d) := by
  cases h with
  | cell h =>
    obtain ⟨d, e1, _, c⟩ := m.look h
    have e2 : lookE M (.cell _) = d := e1
    rw [e2] at p ⊢
    cases d with
    | lst ds =>
      obtain ⟨vs, q, r⟩ := c
      unfold plD at p
      exact .lst q (by simp) (by simp) (RpL.weak p r)
    | dct _ => cases p
    | obj _ _ => cases p
    | gl _ => cases p
    | _ => exact c.elim
  | klR h q n m r => cases p
  | klK h r => cases p
  | ktK h r => cases p
  | non => exact .non
  | bl b => exact .bl b
  | int i => exact .int i
  | str h => exact .str h
  | tup h n m r => exact Rp.weak p (.tup h n m r)
  | lst h n m r => exact Rp.weak p (.lst h n m r)
  | _ => cases p

/-- plain and not too deep -/
def pd (d : Da) : Prop := plD d = true ∧ dpD d ≤ 59
def pdL (ds : List Da) : Prop := plL ds = true ∧ dpL ds ≤ 59
def nEq : MO := fun x y M Q => pd (lookE M x) ∧ pd (lookE M y) ∧ Q (.bl (eqD (lookE M x) (lookE M y))) M
def nNe : MO := fun x y M Q => pd (lookE M x) ∧ pd (lookE M y) ∧ Q (.bl (!eqD (lookE M x) (lookE M y))) M
theorem O_eq : SO K (rEqA K) nEq := by
  intro χ H φ M x y dx dy Q Q' m hx hy f ⟨p1, p2, q⟩
  exact .inr (.inl ⟨_, eqR_of 60 p1.1 p2.1 (by have := p1.2; omega) (by have := p2.2; omega) (weakE m hx p1.1) (weakE m hy p2.1), f.pure m (.bl _) q⟩)
theorem O_ne : SO K (rNeA K) nNe := by
  intro χ H φ M x y dx dy Q Q' m hx hy f ⟨p1, p2, q⟩
  exact .inr (.inl ⟨_, eqR_of 60 p1.1 p2.1 (by have := p1.2; omega) (by have := p2.2; omega) (weakE m hx p1.1) (weakE m hy p2.1), f.pure m (.bl _) q⟩)
theorem strApp (a b : Str) : (a ++ b).length = a.length + b.length := by
  show (a.cps ++ b.cps).size = _
  rw [Array.size_append]
  rfl
def nAdd : MO := fun x y M Q => match x, y with
  | .int i, .int j => Q (.int (i + j)) M
  | .str a, .str b => a.length + b.length ≤ sizeLine ∧ Q (.str (a ++ b)) M
  | x, y => match lookE M x, lookE M y with
    | .lst a, .lst b => a.length + b.length ≤ sizeLine ∧ Q (.lst (a ++ b)) M
    | .tup a, .tup b => a.length + b.length ≤ sizeLine ∧ a ≠ [] ∧ b ≠ [] ∧ Q (.tup (a ++ b)) M
    | _, _ => False
theorem O_add : SO K (rAddA K) nAdd := by
  intro χ H φ M x y dx dy Q Q' m hx hy f h
  unfold nAdd at h
  split at h
  · obtain rfl := vInt hx
    obtain rfl := vInt hy
    exact .inl ⟨_, _, rfl, rfl, f.pure m (.int _) h⟩
  · obtain ⟨rfl, _⟩ := vStr hx
    obtain ⟨rfl, _⟩ := vStr hy
    exact .inr (.inl ⟨_, _, rfl, rfl, h.1, f.pure m (.str (by rw [strApp]; exact h.1)) h.2⟩)
  · split at h
    · rename_i a b e1 e2
      obtain ⟨p, vs, rfl, h1, r1⟩ := vLE m hx e1
      obtain ⟨q, ws, rfl, h2, r2⟩ := vLE m hy e2
      refine .inr (.inr (.inl ⟨p, q, vs, ws, rfl, rfl, h1, h2, by rw [r1.len, r2.len]; exact h.1, fun n hn => f.lst m (r1.app r2) hn h.2⟩))
    · rename_i a b e1 e2
      obtain ⟨p, vs, rfl, h1, r1⟩ := vTE m hx e1
      obtain ⟨q, ws, rfl, h2, r2⟩ := vTE m hy e2
      refine .inr (.inr (.inr ⟨p, q, vs, ws, rfl, rfl, SqT.of h1, SqT.of h2, by rw [r1.len, r2.len]; exact h.1, fun e => ?_, fun _ e => ?_, fun _ _ n hn => f.tup m (r1.app r2) hn h.2.2.2⟩))
      · subst e
        cases r1
        exact absurd rfl h.2.1
      · subst e
        cases r2
        exact absurd rfl h.2.2.1
    · exact h.elim
def nSub : MO := fun x y M Q => match x, y with
  | .int i, .int j => Q (.int (i - j)) M
  | _, _ => False
theorem O_sub : SO K rSubA nSub := by
  intro χ H φ M x y dx dy Q Q' m hx hy f h
  unfold nSub at h
  split at h
  · obtain rfl := vInt hx
    obtain rfl := vInt hy
    exact ⟨_, _, rfl, rfl, f.pure m (.int _) h⟩
  · exact h.elim
def nMul : MO := fun x y M Q => match x, y with
  | .int i, .int j => CMulW i j ∧ Q (.int (i * j)) M
  | .str z, .int n => MulOk z n ∧ (Txt.mul z n).length ≤ sizeLine ∧ Q (.str (Txt.mul z n)) M
  | .lst es, .int n => -(2 ^ 63) ≤ n ∧ n < 2 ^ 63 ∧ es.length * n.toNat ≤ 1000000 ∧ Q (.lst (List.replicate n.toNat es).flatten) M
  | _, _ => False
theorem RpL.rep {vs : List V} {ds : List Da} (r : RpL K H φ χ vs ds) : ∀ n : Nat, RpL K H φ χ (List.replicate n vs).flatten (List.replicate n ds).flatten
  | 0 => .nil
  | n + 1 => by
    rw [List.replicate_succ, List.replicate_succ, List.flatten_cons, List.flatten_cons]
    exact r.app (r.rep n)
theorem O_mul : SO K rMulA nMul := by
  intro χ H φ M x y dx dy Q Q' m hx hy f h
  unfold nMul at h
  split at h
  · obtain rfl := vInt hx
    obtain rfl := vInt hy
    exact .inl ⟨_, _, rfl, rfl, h.1, f.pure m (.int _) h.2⟩
  · obtain ⟨rfl, _⟩ := vStr hx
    obtain rfl := vInt hy
    exact .inr (.inl ⟨_, _, rfl, rfl, h.1, f.pure m (.str h.2.1) h.2.2⟩)
  · obtain rfl := vInt hy
    cases hx with
    | lst h1 h2 h3 r =>
      exact .inr (.inr ⟨_, _, _, rfl, rfl, h1, h.1, h.2.1, by rw [r.len, sizeLine_eq]; omega, fun p hp => f.lst m (r.rep _) hp h.2.2.2⟩)
  · exact h.elim
def nDiv : MO := fun x y M Q => match x, y with
  | .int i, .int j => CDivW i j ∧ Q (.int (i / j)) M
  | _, _ => False
theorem O_div : SO K rDivA nDiv := by
  intro χ H φ M x y dx dy Q Q' m hx hy f h
  unfold nDiv at h
  split at h
  · obtain rfl := vInt hx
    obtain rfl := vInt hy
    exact ⟨_, _, rfl, rfl, h.1, f.pure m (.int _) h.2⟩
  · exact h.elim
def nMod : MO := fun x y M Q => match x, y with
  | .int i, .int j => 0 < j ∧ Q (.int (i % j)) M
  | _, _ => False
theorem O_mod : SO K rModA nMod := by
  intro χ H φ M x y dx dy Q Q' m hx hy f h
  unfold nMod at h
  split at h
  · obtain rfl := vInt hx
    obtain rfl := vInt hy
    exact ⟨_, _, rfl, rfl, h.1, f.pure m (.int _) h.2⟩
  · exact h.elim
def nPow : MO := fun x y M Q => match x, y with
  | .int i, .int j => CPow i j ∧ Q (.int (i ^ j.toNat)) M
  | _, _ => False
theorem O_pow : SO K rPowA nPow := by
  intro χ H φ M x y dx dy Q Q' m hx hy f h
  unfold nPow at h
  split at h
  · obtain rfl := vInt hx
    obtain rfl := vInt hy
    exact ⟨_, _, rfl, rfl, h.1, f.pure m (.int _) h.2⟩
  · exact h.elim
def ltS (i j : Str) : Bool := decide (i.cps.toList < j.cps.toList)
def nLt : MO := fun x y M Q => match x, y with
  | .int i, .int j => Q (.bl (decide (i < j))) M
  | .str i, .str j => Q (.bl (ltS i j)) M
  | _, _ => False
def nLe : MO := fun x y M Q => match x, y with
  | .int i, .int j => Q (.bl (decide (i ≤ j))) M
  | .str i, .str j => Q (.bl (!ltS j i)) M
  | _, _ => False
def nGt : MO := fun x y M Q => match x, y with
  | .int i, .int j => Q (.bl (decide (j < i))) M
  | .str i, .str j => Q (.bl (ltS j i)) M
  | _, _ => False
def nGe : MO := fun x y M Q => match x, y with
  | .int i, .int j => Q (.bl (decide (j ≤ i))) M
  | .str i, .str j => Q (.bl (!ltS i j)) M
  | _, _ => False
theorem O_lt : SO K rLtA nLt := by
  intro χ H φ M x y dx dy Q Q' m hx hy f h
  unfold nLt at h
  split at h
  · obtain rfl := vInt hx
    obtain rfl := vInt hy
    exact .inl ⟨_, _, rfl, rfl, f.pure m (.bl _) h⟩
  · obtain ⟨rfl, _⟩ := vStr hx
    obtain ⟨rfl, _⟩ := vStr hy
    exact .inr ⟨_, _, rfl, rfl, f.pure m (.bl _) h⟩
  · exact h.elim
theorem O_le : SO K rLeA nLe := by
  intro χ H φ M x y dx dy Q Q' m hx hy f h
  unfold nLe at h
  split at h
  · obtain rfl := vInt hx
    obtain rfl := vInt hy
    exact .inl ⟨_, _, rfl, rfl, f.pure m (.bl _) h⟩
  · obtain ⟨rfl, _⟩ := vStr hx
    obtain ⟨rfl, _⟩ := vStr hy
    exact .inr ⟨_, _, rfl, rfl, f.pure m (.bl _) h⟩
  · exact h.elim
theorem O_gt : SO K rGtA nGt := by
  intro χ H φ M x y dx dy Q Q' m hx hy f h
  unfold nGt at h
  split at h
  · obtain rfl := vInt hx
    obtain rfl := vInt hy
    exact .inl ⟨_, _, rfl, rfl, f.pure m (.bl _) h⟩
  · obtain ⟨rfl, _⟩ := vStr hx
    obtain ⟨rfl, _⟩ := vStr hy
    exact .inr ⟨_, _, rfl, rfl, f.pure m (.bl _) h⟩
  · exact h.elim
theorem O_ge : SO K rGeA nGe := by
  intro χ H φ M x y dx dy Q Q' m hx hy f h
  unfold nGe at h
  split at h
  · obtain rfl := vInt hx
    obtain rfl := vInt hy
    exact .inl ⟨_, _, rfl, rfl, f.pure m (.bl _) h⟩
  · obtain ⟨rfl, _⟩ := vStr hx
    obtain ⟨rfl, _⟩ := vStr hy
    exact .inr ⟨_, _, rfl, rfl, f.pure m (.bl _) h⟩
  · exact h.elim
def nonD : Da → Bool
  | .non => true
  | _ => false
theorem Rp.nonD (h : Rp K H φ χ v d) : decide (v = .non) = nonD d := by
  cases h <;> rfl
def nIs : MO := fun x y M Q => match y with
  | .non => Q (.bl (nonD x)) M
  | .bl b => match x with
    | .bl a => Q (.bl (decide (a = b))) M
    | _ => False
  | _ => False
def nIsnt : MO := fun x y M Q => match y with
  | .non => Q (.bl (!nonD x)) M
  | .bl b => match x with
    | .bl a => Q (.bl (!decide (a = b))) M
    | _ => False
  | _ => False
theorem O_is : SO K rIsA nIs := by
  intro χ H φ M x y dx dy Q Q' m hx hy f h
  unfold nIs at h
  split at h
  · obtain rfl := vNon hy
    exact .inl ⟨rfl, by rw [hx.nonD]; exact f.pure m (.bl _) h⟩
  · split at h
    · obtain rfl := vBl hx
      obtain rfl := vBl hy
      exact .inr (.inl ⟨_, _, rfl, rfl, f.pure m (.bl _) h⟩)
    · exact h.elim
  · exact h.elim
theorem O_isnt : SO K rNotA nIsnt := by
  intro χ H φ M x y dx dy Q Q' m hx hy f h
  unfold nIsnt at h
  split at h
  · obtain rfl := vNon hy
    exact .inl ⟨rfl, by rw [hx.nonD]; exact f.pure m (.bl _) h⟩
  · split at h
    · obtain rfl := vBl hx
      obtain rfl := vBl hy
      exact .inr (.inl ⟨_, _, rfl, rfl, f.pure m (.bl _) h⟩)
    · exact h.elim
  · exact h.elim
/-! dicts -/
def keyD : Da → Option Key
  | .int i => some (.inl i)
  | .str s => some (.inr s)
  | _ => none
def valD {κ : Type} [DecidableEq κ] (kds : List (κ × Da)) (k : κ) : Option Da := (kds.find? fun kv => decide (kv.1 = k)).map (·.2)
def putD (kds : List (Key × Da)) (k : Key) (d : Da) : List (Key × Da) := if (kds.any fun kv => decide (kv.1 = k)) = true then kds.map (fun kv => if kv.1 = k then (kv.1, d) else kv) else kds ++ [(k, d)]
theorem keyD_of {k : Key} (h : Rp K H φ χ v d) (e : keyD d = some k) : v = kV k := by
  cases h <;> cases e <;> rfl
theorem RpK.val {k : Key} : ∀ {kvs : List (Key × V)} {kds : List (Key × Da)}, RpK K H φ χ kvs kds → (valV kvs k = none ∧ valD kds k = none) ∨ ∃ v d, valV kvs k = some v ∧ valD kds k = some d ∧ Rp K H φ χ v d
  | _, _, .nil => .inl ⟨rfl, rfl⟩
  | _, _, .cons (k := j) (v := v) (d := d) h r => by
    by_cases e : j = k
    · exact .inr ⟨v, d, by simp [valV, e], by simp [valD, e], h⟩
    · have := r.val (k := k)
      simpa [valV, valD, e] using this
theorem RpK.any {k : Key} : ∀ {kvs : List (Key × V)} {kds : List (Key × Da)}, RpK K H φ χ kvs kds → (kvs.any fun kv => decide (kv.1 = k)) = (kds.any fun kv => decide (kv.1 = k))
  | _, _, .nil => rfl
  | _, _, .cons _ r => by rw [List.any_cons, List.any_cons, r.any]
theorem RpK.snoc {k : Key} (h : Rp K H φ χ v d) : ∀ {kvs : List (Key × V)} {kds : List (Key × Da)}, RpK K H φ χ kvs kds → RpK K H φ χ (kvs ++ [(k, v)]) (kds ++ [(k, d)])
  | _, _, .nil => .cons h .nil
  | _, _, .cons q r => .cons q (RpK.snoc h r)
theorem RpK.map {k : Key} (h : Rp K H φ χ v d) : ∀ {kvs : List (Key × V)} {kds : List (Key × Da)}, RpK K H φ χ kvs kds → RpK K H φ χ (kvs.map (fun kv => if kv.1 = k then (kv.1, v) else kv)) (kds.map (fun kv => if kv.1 = k then (kv.1, d) else kv))
  | _, _, .nil => .nil
  | _, _, .cons (k := j) q r => by
    by_cases e : j = k
    · simp only [List.map_cons, e, if_true]
      exact .cons h (RpK.map h r)
    · simp only [List.map_cons, e, if_false]
      exact .cons q (RpK.map h r)
theorem RpK.put {k : Key} {kvs : List (Key × V)} {kds : List (Key × Da)} (r : RpK K H φ χ kvs kds) (h : Rp K H φ χ v d) : RpK K H φ χ (putK kvs k v) (putD kds k d) := by
  unfold putK putD
  rw [r.any (k := k)]
  split
  · exact r.map h
  · exact r.snoc h
/-! membership -/
def inS (a z : Str) : Bool := match a.cps.toList with
  | [c] => decide (c ∈ z.cps.toList)
  | _ => !(Builtin.Str.occurrences z a 0 z.length 1).isEmpty
def anyEq (x : Da) (ds : List Da) : Bool := ds.any fun z => eqD z x
def nInR (x y : Da) (M : Mem) (R : Bool → Prop) : Prop := match look M y with
  | .lst ds => pdL ds ∧ pd (lookE M x) ∧ R (anyEq (lookE M x) ds)
  | .tup ds => pdL ds ∧ pd (lookE M x) ∧ R (anyEq (lookE M x) ds)
  | .dct kds => ∃ k, keyD x = some k ∧ R (valD kds k).isSome
  | .str z => match x with
    | .str a => R (inS a z)
    | _ => False
  | _ => False
def nIn : MO := fun x y M Q => nInR x y M fun b => Q (.bl b) M
def nNin : MO := fun x y M Q => nInR x y M fun b => Q (.bl (!b)) M
theorem anyEq_of {x : V} {dx : Da} (hx : Rp K H [] [] x dx) (px : pd dx) : ∀ {vs : List V} {ds : List Da}, pdL ds → RpL K H φ χ vs ds → ∃ g : V → Bool, (∀ z ∈ vs, EqI K H 60 z x (g z)) ∧ vs.any g = anyEq dx ds := by
  have item : ∀ {z : V} {d : Da}, plD d = true → dpD d ≤ 59 → Rp K H φ χ z d → EqI K H 60 z x (eqD d dx) := fun p1 p2 r => eqI_of p1 px.1 p2 px.2 (Rp.weak p1 r) hx
  intro vs ds p r
  -- one answer an address
  have one : ∀ {z : V} {d e : Da}, plD d = true → plD e = true → Rp K H φ χ z d → Rp K H φ χ z e → d = e := fun p1 p2 r1 r2 => Rp.det p1 p2 r1 r2
  classical
  refine ⟨fun z => if h : ∃ d ∈ ds, Rp K H φ χ z d then eqD h.choose dx else false, fun z hz => ?_, ?_⟩
  · obtain ⟨d, hd, rd⟩ := r.mem z hz
    have h : ∃ d ∈ ds, Rp K H φ χ z d := ⟨d, hd, rd⟩
    show EqI K H 60 z x (if h : ∃ d ∈ ds, Rp K H φ χ z d then eqD h.choose dx else false)
    rw [dif_pos h]
    exact item (plL_mem p.1 _ h.choose_spec.1) (Nat.le_trans (dpL_mem h.choose_spec.1) p.2) h.choose_spec.2
  · have go : ∀ {us : List V} {es : List Da}, (∀ e ∈ es, e ∈ ds) → RpL K H φ χ us es → (us.any fun z => if h : ∃ d ∈ ds, Rp K H φ χ z d then eqD h.choose dx else false) = anyEq dx es := by
      intro us es hs r
      induction us generalizing es with
      | nil => cases r; rfl
      | cons u us ih =>
        cases r with
        | cons h1 r1 =>
          rename_i d es
          unfold anyEq
          rw [List.any_cons, List.any_cons]
          have h : ∃ d ∈ ds, Rp K H φ χ u d := ⟨d, hs d (List.mem_cons_self ..), h1⟩
          rw [dif_pos h, one (plL_mem p.1 _ h.choose_spec.1) (plL_mem p.1 _ (hs d (List.mem_cons_self ..))) h.choose_spec.2 h1]
          congr 1
          exact ih (fun e he => hs e (List.mem_cons_of_mem _ he)) r1
    exact go (fun e he => he) r
theorem vS (m : Mm K H φ χ M) (h : Rp K H φ χ v d) {z : Str} (e : look M d = .str z) : v = .str z ∧ z.length ≤ sizeLine := by
  cases h with
  | str h => cases e; exact ⟨rfl, h⟩
  | cell h =>
    obtain ⟨d, e1, _, c⟩ := m.look h
    have e2 : M.getD _ (.gl "") = Da.str z := e
    rw [e1] at e2
    subst e2
    exact c.elim
  | _ => cases e
theorem nInR_run {x y : V} {dx dy : Da} {R : Bool → Prop} (m : Mm K H φ χ M) (hx : Rp K H φ χ x dx) (hy : Rp K H φ χ y dy) (h : nInR dx dy M R) :
    ∃ b, R b ∧ ((∃ (p : Addr) (xs : List V) (g : V → Bool), y = .ref p ∧ (SqL K H p xs ∨ SqT K H p xs) ∧ (∀ z ∈ xs, EqI K H 60 z x (g z)) ∧ b = xs.any g) ∨ (∃ a o, y = .ref a ∧ DGet H a x o ∧ b = o.isSome) ∨
      (∃ (c : Nat) (z : Str), x = .str ⟨#[c]⟩ ∧ y = .str z ∧ b = decide (c ∈ z.cps.toList)) ∨ ∃ i j, x = .str i ∧ y = .str j ∧ b = !(Builtin.Str.occurrences j i 0 j.length 1).isEmpty) := by
  unfold nInR at h
  split at h
  · rename_i ds e
    obtain ⟨p1, p2, q⟩ := h
    obtain ⟨a, vs, rfl, hs, r⟩ := vL m hy e
    obtain ⟨g, g1, g2⟩ := anyEq_of (weakE m hx p2.1) p2 p1 r
    exact ⟨_, q, .inl ⟨a, vs, g, rfl, .inl hs, g1, g2.symm⟩⟩
  · rename_i ds e
    obtain ⟨p1, p2, q⟩ := h
    obtain ⟨a, vs, rfl, hs, r⟩ := vT m hy e
    obtain ⟨g, g1, g2⟩ := anyEq_of (weakE m hx p2.1) p2 p1 r
    exact ⟨_, q, .inl ⟨a, vs, g, rfl, .inr hs, g1, g2.symm⟩⟩
  · rename_i kds e
    obtain ⟨k, hk, q⟩ := h
    obtain ⟨a, kvs, rfl, hs, r⟩ := vD m hy e
    refine ⟨_, q, .inr (.inl ⟨a, valV kvs k, rfl, .inl ⟨kvs, k, hs, keyD_of hx hk, rfl⟩, ?_⟩)⟩
    rcases r.val (k := k) with ⟨e1, e2⟩ | ⟨v, d, e1, e2, _⟩
    · rw [e1, e2]; rfl
    · rw [e1, e2]; rfl
  · rename_i z e
    obtain ⟨rfl, _⟩ := vS m hy e
    split at h
    · rename_i a
      obtain ⟨rfl, _⟩ := vStr hx
      refine ⟨_, h, .inr (.inr ?_)⟩
      unfold inS
      split
      · rename_i c hc
        refine .inl ⟨c, z, ?_, rfl, rfl⟩
        congr 1
        cases a with
        | mk cps => simp at hc ⊢; cases cps; simp_all
      · exact .inr ⟨a, z, rfl, rfl, rfl⟩
    · exact h.elim
  · exact h.elim
theorem O_in : SO K (rInB K) nIn := by
  intro χ H φ M x y dx dy Q Q' m hx hy f h
  obtain ⟨b, q, h⟩ := nInR_run m hx hy h
  have qq := f.pure m (.bl _) q
  rcases h with ⟨p, xs, g, rfl, hs, he, rfl⟩ | ⟨a, o, rfl, g, rfl⟩ | ⟨c, z, rfl, rfl, rfl⟩ | ⟨i, j, rfl, rfl, rfl⟩
  · exact .inr (.inl ⟨p, xs, g, rfl, hs, he, qq⟩)
  · exact .inr (.inr ⟨a, o, rfl, g, qq⟩)
  · exact .inl (.inl ⟨c, z, rfl, rfl, qq⟩)
  · exact .inl (.inr (.inr ⟨i, j, rfl, rfl, qq⟩))
theorem O_nin : SO K (rNinB K) nNin := by
  intro χ H φ M x y dx dy Q Q' m hx hy f h
  obtain ⟨b, q, h⟩ := nInR_run m hx hy h
  have qq := f.pure m (.bl _) q
  rcases h with ⟨p, xs, g, rfl, hs, he, rfl⟩ | ⟨a, o, rfl, g, rfl⟩ | ⟨c, z, rfl, rfl, rfl⟩ | ⟨i, j, rfl, rfl, rfl⟩
  · exact .inr (.inl ⟨p, xs, g, rfl, hs, he, qq⟩)
  · exact .inr (.inr ⟨a, o, rfl, g, qq⟩)
  · exact .inl (.inl ⟨c, z, rfl, rfl, qq⟩)
  · exact .inl (.inr (.inr ⟨i, j, rfl, rfl, qq⟩))
/-! items -/
theorem RpL.atI {vs : List V} {ds : List Da} {i : Int} (r : RpL K H φ χ vs ds) (e : atI ds i = some d) : ∃ v, L2.atI vs i = some v ∧ Rp K H φ χ v d := by
  unfold L2.atI at e ⊢
  rw [r.len]
  cases q : ixN ds.length i with
  | none => rw [q] at e; cases e
  | some j =>
    rw [q] at e
    obtain ⟨v, h1, h2⟩ := r.get (i := j) (d := d) e
    exact ⟨v, h1, h2⟩
def chS (c : Nat) : Da := .str ⟨#[c]⟩
def nIx : MO := fun x y M Q => match look M x with
  | .lst ds => match y with
    | .int i => match atI ds i with
      | some d => Q d M
      | none => False
    | _ => False
  | .tup ds => match y with
    | .int i => match atI ds i with
      | some d => Q d M
      | none => False
    | _ => False
  | .str z => match y with
    | .int i => match atI z.cps.toList i with
      | some c => Q (chS c) M
      | none => False
    | _ => False
  | .dct kds => ∃ k d, keyD y = some k ∧ valD kds k = some d ∧ Q d M
  | _ => False
theorem one_le : (1 : Nat) ≤ sizeLine := by rw [sizeLine_eq]; decide
theorem Rp.ch (c : Nat) : Rp K H φ χ (.str ⟨#[c]⟩) (chS c) := .str one_le
theorem O_ix : SO K (rIxB K) nIx := by
  intro χ H φ M x y dx dy Q Q' m hx hy f h
  unfold nIx at h
  split at h
  · rename_i ds e
    split at h
    · rename_i i
      split at h
      · rename_i d ed
        obtain ⟨a, vs, rfl, hs, r⟩ := vL m hx e
        obtain rfl := vInt hy
        obtain ⟨v, e1, r1⟩ := r.atI ed
        exact .inl (.inl ⟨a, vs, i, v, rfl, rfl, hs, e1, f.pure m r1 h⟩)
      · exact h.elim
    · exact h.elim
  · rename_i ds e
    split at h
    · rename_i i
      split at h
      · rename_i d ed
        obtain ⟨a, vs, rfl, hs, r⟩ := vT m hx e
        obtain rfl := vInt hy
        obtain ⟨v, e1, r1⟩ := r.atI ed
        exact .inl (.inr (.inl ⟨a, vs, i, v, rfl, rfl, hs, e1, f.pure m r1 h⟩))
      · exact h.elim
    · exact h.elim
  · rename_i z e
    split at h
    · rename_i i
      split at h
      · rename_i c ec
        obtain ⟨rfl, hz⟩ := vS m hx e
        obtain rfl := vInt hy
        exact .inl (.inr (.inr ⟨z, i, c, rfl, rfl, hz, ec, f.pure m (.ch c) h⟩))
      · exact h.elim
    · exact h.elim
  · rename_i kds e
    obtain ⟨k, d, hk, hd, q⟩ := h
    obtain ⟨a, kvs, rfl, hs, r⟩ := vD m hx e
    rcases r.val (k := k) with ⟨e1, e2⟩ | ⟨v, d', e1, e2, rd⟩
    · rw [e2] at hd; cases hd
    · rw [e2] at hd
      cases hd
      exact .inr ⟨a, v, rfl, .inl ⟨kvs, k, hs, keyD_of hy hk, e1.symm⟩, f.pure m rd q⟩
  · exact h.elim
/-! slices -/
def cutL {α : Type} (xs : List α) (lo hi : Option Int) : List α := (xs.drop (HT.sIx xs.length 0 lo)).take (HT.sIx xs.length xs.length hi - HT.sIx xs.length 0 lo)
theorem cutS_le (z : Str) (lo hi : Option Int) : (cutS z lo hi).length ≤ z.length := by
  unfold cutS
  show List.length _ ≤ _
  rw [List.length_take, List.length_drop]
  show _ ≤ z.cps.size
  have : z.cps.toList.length = z.cps.size := Array.length_toList
  omega
abbrev MO3 := Da → Option Int → Option Int → Mem → TK → Prop
def nSl : MO3 := fun x lo hi M Q => match look M x with
  | .str z => Q (.str (cutS z lo hi)) M
  | .lst ds => Q (.lst (cutL ds lo hi)) M
  | .tup ds => match x with
    | .tup _ => Q (.tup (cutL ds lo hi)) M
    | _ => False
  | _ => False
def SO3 (K : PySem.W.Frag) (r : V → Option Int → Option Int → Hp → VK → Prop) (n : MO3) : Prop := ∀ {χ H φ M x dx lo hi Q Q'}, Mm K H φ χ M → Rp K H φ χ x dx → FE K χ H φ Q' Q → n dx lo hi M Q' → r x lo hi H Q
theorem O_sl : SO3 K (Z.rSlA K) nSl := by
  intro χ H φ M x dx lo hi Q Q' m hx f h
  unfold nSl at h
  split at h
  · rename_i z e
    obtain ⟨rfl, hz⟩ := vS m hx e
    exact .inl ⟨z, rfl, hz, f.pure m (.str (Nat.le_trans (cutS_le z lo hi) hz)) h⟩
  · rename_i ds e
    obtain ⟨a, vs, rfl, hs, r⟩ := vL m hx e
    refine .inr (.inl ⟨a, vs, rfl, hs, fun p hp => ?_⟩)
    have r2 : RpL K H φ χ (cutV vs lo hi) (cutL ds lo hi) := by
      unfold cutV cutL
      rw [r.len]
      exact (r.drop _).take _
    exact f.lst m r2 hp h
  · rename_i ds e
    split at h
    · rename_i ds'
      cases e
      obtain ⟨a, vs, rfl, hs, r⟩ := vT m hx rfl
      have r2 : RpL K H φ χ (cutV vs lo hi) (cutL ds lo hi) := by
        unfold cutV cutL
        rw [r.len]
        exact (r.drop _).take _
      refine .inr (.inr ⟨a, vs, rfl, hs, fun z => ?_, fun _ p hp => f.tup m r2 hp h⟩)
      have e : cutL ds lo hi = ds := by
        unfold cutL
        rw [← r.len, z.1, z.2, List.drop_zero, Nat.sub_zero, r.len, List.take_length]
      rw [e] at h
      exact f.pure m hx h
    · exact h.elim
  · exact h.elim
end
end Z

/-! T5: calls of builtins, methods, dicts of the module -/
namespace Z
open PySem PySem.Spec PyProof.Rows L2 Evl
section
variable {K : PySem.W.Frag} {χ φ : List Addr} {H : Hp} {M : Mem} {v : V} {d : Da}
theorem RpL.one {vs : List V} (r : RpL K H φ χ vs [d]) : ∃ v, vs = [v] ∧ Rp K H φ χ v d := by
  cases r with
  | cons h r => cases r; exact ⟨_, rfl, h⟩
theorem RpL.two {vs : List V} {e : Da} (r : RpL K H φ χ vs [d, e]) : ∃ v w, vs = [v, w] ∧ Rp K H φ χ v d ∧ Rp K H φ χ w e := by
  cases r with
  | cons h r =>
    obtain ⟨w, rfl, q⟩ := r.one
    exact ⟨_, w, rfl, h, q⟩
def tyDa (M : Mem) : Da → Option String
  | .non => some "NoneType"
  | .bl _ => some "bool"
  | .int _ => some "int"
  | .str _ => some "str"
  | .tup _ => some "tuple"
  | .kt _ => some "tuple"
  | .lst _ => some "list"
  | .dct _ => some "dict"
  | .cell n => match M.getD n (.gl "") with
    | .lst _ => some "list"
    | .dct _ => some "dict"
    | _ => none
  | _ => none
def tyB (T : String) (a : String) : Bool := a == T || (a == "bool" && T == "int")
def tyTs : List String := ["int", "bool", "str", "tuple", "list", "dict"]
def tyNs : List String := ["NoneType", "bool", "int", "str", "tuple", "list", "dict"]
theorem kit_all : (tyTs.all fun T => tyNs.all fun a => decide (kitB a T = some (tyB T a))) = true := by decide +kernel
theorem tyDa_in {a : String} (e : tyDa M d = some a) : a ∈ tyNs := by
  unfold tyDa at e
  split at e
  all_goals first
    | (cases e; simp [tyNs]; done)
    | (split at e <;> first | (cases e; simp [tyNs]; done) | (cases e; done))
    | (cases e; done)
theorem kit_of {T a : String} (hT : T ∈ tyTs) (e : tyDa M d = some a) : kitB a T = some (tyB T a) :=
  of_decide_eq_true (List.all_eq_true.mp (List.all_eq_true.mp kit_all T hT) a (tyDa_in e))
theorem tyDa_X (m : Mm K H φ χ M) (h : Rp K H φ χ v d) {a : String} (e : tyDa M d = some a) : TyX K H v (.type a) := by
  cases h with
  | non => cases e; exact .base .non
  | bl b => cases e; exact .base (.bl b)
  | int i => cases e; exact .base (.int i)
  | str h => cases e; exact .base (.str _)
  | tup h n m r => cases e; exact .base (.tup h)
  | lst h n m r => cases e; exact .base (.lst h)
  | dct h c n m r =>
    cases e
    rename_i o kvs kds
    cases o with
    | dK k => exact .base (.dK h)
    | frz ob u =>
      cases u with
      | dK k => exact .fDict h
      | _ => cases c
    | _ => cases c
  | ktK h r =>
    cases e
    rcases h fun _ => none with h | ⟨o, its, n, hk, hc, _⟩
    · rcases h with h | ⟨ob, h⟩ <;> cases h
    · exact .kTuple hk hc
  | cell h =>
    obtain ⟨d, e1, _, c⟩ := m.look h
    have e2 : (match M.getD _ (.gl "") with | .lst _ => some "list" | .dct _ => some "dict" | _ => none) = some a := e
    rw [e1] at e2
    cases d with
    | lst ds => cases e2; obtain ⟨vs, q, _⟩ := c; exact .base (.lst q)
    | dct ds => cases e2; obtain ⟨vs, q, _⟩ := c; exact .base (.dK q)
    | _ => cases e2
  | _ => cases e
def nIsi : List Da → Mem → TK → Prop := fun ds M Q => match ds with
  | [x, .ty T] => T ∈ tyTs ∧ match tyDa M x with
    | some a => Q (.bl (tyB T a)) M
    | none => False
  | _ => False
theorem C_isi : SC K (rIsi K) nIsi := by
  intro χ H φ M x dx Q Q' m hx f h
  unfold nIsi at h
  split at h
  · rename_i d T
    obtain ⟨v, w, rfl, h1, h2⟩ := hx.two
    cases h2
    obtain ⟨hT, h⟩ := h
    split at h
    · rename_i a e
      exact ⟨v, .ty T, _, _, _, rfl, .ty T, tyDa_X m h1 e, kit_ty (kit_of hT e), f.pure m (.bl _) h⟩
    · exact h.elim
  · exact h.elim
def nLen : List Da → Mem → TK → Prop := fun ds M Q => match ds with
  | [x] => match look M x with
    | .lst ds => Q (.int ds.length) M
    | .tup ds => Q (.int ds.length) M
    | .dct kds => Q (.int kds.length) M
    | .str z => Q (.int z.length) M
    | _ => False
  | _ => False
theorem C_len : SC K (rLenB K) nLen := by
  intro χ H φ M x dx Q Q' m hx f h
  unfold nLen at h
  split at h
  · obtain ⟨v, rfl, h1⟩ := hx.one
    split at h
    · rename_i ds e
      obtain ⟨a, vs, rfl, hs, r⟩ := vL m h1 e
      exact .inl (.inl ⟨_, vs.length, rfl, .inl ⟨vs, hs, rfl⟩, by rw [r.len]; exact f.pure m (.int _) h⟩)
    · rename_i ds e
      obtain ⟨a, vs, rfl, hs, r⟩ := vT m h1 e
      exact .inl (.inl ⟨_, vs.length, rfl, .inr ⟨vs, hs, rfl⟩, by rw [r.len]; exact f.pure m (.int _) h⟩)
    · rename_i ds e
      obtain ⟨a, kvs, rfl, hs, r⟩ := vD m h1 e
      exact .inr ⟨a, kvs, rfl, hs, by rw [r.len]; exact f.pure m (.int _) h⟩
    · rename_i z e
      obtain ⟨rfl, hz⟩ := vS m h1 e
      exact .inl (.inl ⟨_, z.length, rfl, ⟨hz, rfl⟩, f.pure m (.int _) h⟩)
    · exact h.elim
  · exact h.elim
theorem RpL.ints : ∀ {ns : List Int} {vs : List V}, RpL K H φ χ vs (ns.map Da.int) → vs = ns.map V.int
  | [], _, .nil => rfl
  | n :: ns, _, .cons h r => by
    cases h
    rw [RpL.ints r]
    rfl
theorem RpL.bls : ∀ {ns : List Bool} {vs : List V}, RpL K H φ χ vs (ns.map Da.bl) → vs = ns.map V.bl
  | [], _, .nil => rfl
  | n :: ns, _, .cons h r => by
    cases h
    rw [RpL.bls r]
    rfl
theorem RpL.strs : ∀ {ns : List Str} {vs : List V}, RpL K H φ χ vs (ns.map Da.str) → vs = ns.map V.str
  | [], _, .nil => rfl
  | n :: ns, _, .cons h r => by
    cases h
    rw [RpL.strs r]
    rfl
def nMax : List Da → Mem → TK → Prop := fun ds M Q => match ds with
  | [.int i, .int j] => Q (.int (if j > i then j else i)) M
  | [x] => ∃ ns : List Int, look M x = .lst (ns.map Da.int) ∧ 0 < ns.length ∧ ∀ m, m ∈ ns → (∀ y, y ∈ ns → y ≤ m) → Q (.int m) M
  | _ => False
def nMin : List Da → Mem → TK → Prop := fun ds M Q => match ds with
  | [.int i, .int j] => Q (.int (if j < i then j else i)) M
  | [x] => ∃ ns : List Int, look M x = .lst (ns.map Da.int) ∧ 0 < ns.length ∧ ∀ m, m ∈ ns → (∀ y, y ∈ ns → m ≤ y) → Q (.int m) M
  | _ => False
theorem C_max : SC K (rMaxA K) nMax := by
  intro χ H φ M x dx Q Q' m hx f h
  unfold nMax at h
  split at h
  · obtain ⟨v, w, rfl, h1, h2⟩ := hx.two
    cases h1
    cases h2
    exact .inl ⟨_, _, rfl, f.pure m (.int _) h⟩
  · obtain ⟨v, rfl, h1⟩ := hx.one
    obtain ⟨ns, e, hp, q⟩ := h
    obtain ⟨a, vs, rfl, hs, r⟩ := vL m h1 e
    rw [r.ints] at hs
    exact .inr ⟨a, ns, rfl, hs, hp, fun k hk hm => f.pure m (.int _) (q k hk hm)⟩
  · exact h.elim
theorem C_min : SC K (rMinA K) nMin := by
  intro χ H φ M x dx Q Q' m hx f h
  unfold nMin at h
  split at h
  · obtain ⟨v, w, rfl, h1, h2⟩ := hx.two
    cases h1
    cases h2
    exact .inl ⟨_, _, rfl, f.pure m (.int _) h⟩
  · obtain ⟨v, rfl, h1⟩ := hx.one
    obtain ⟨ns, e, hp, q⟩ := h
    obtain ⟨a, vs, rfl, hs, r⟩ := vL m h1 e
    rw [r.ints] at hs
    exact .inr ⟨a, ns, rfl, hs, hp, fun k hk hm => f.pure m (.int _) (q k hk hm)⟩
  · exact h.elim
def blsD : List Da → Option (List Bool)
  | [] => some []
  | .bl b :: ds => (blsD ds).map (b :: ·)
  | _ => none
theorem blsD_of : ∀ {ds : List Da} {bs : List Bool}, blsD ds = some bs → ds = bs.map Da.bl
  | [], bs, e => by cases e; rfl
  | d :: ds, bs, e => by
    cases d with
    | bl b =>
      unfold blsD at e
      cases q : blsD ds with
      | none => rw [q] at e; cases e
      | some cs =>
        rw [q] at e
        cases e
        rw [blsD_of q]
        rfl
    | _ => cases e
theorem blsD_map (bs : List Bool) : blsD (bs.map Da.bl) = some bs := by
  induction bs with
  | nil => rfl
  | cons b bs ih => show (blsD (bs.map Da.bl)).map (b :: ·) = _; rw [ih]; rfl
def nAll : List Da → Mem → TK → Prop := fun ds M Q => match ds with
  | [x] => match look M x with
    | .lst ds => match blsD ds with
      | some bs => Q (.bl (bs.all id)) M
      | none => False
    | _ => False
  | _ => False
def nAny : List Da → Mem → TK → Prop := fun ds M Q => match ds with
  | [x] => match look M x with
    | .lst ds => match blsD ds with
      | some bs => Q (.bl (bs.any id)) M
      | none => False
    | _ => False
  | _ => False
theorem C_all : SC K (rAll K) nAll := by
  intro χ H φ M x dx Q Q' m hx f h
  unfold nAll at h
  split at h
  · obtain ⟨v, rfl, h1⟩ := hx.one
    split at h
    · rename_i ds e
      split at h
      · rename_i bs eb
        obtain ⟨a, vs, rfl, hs, r⟩ := vL m h1 e
        rw [blsD_of eb] at r
        rw [r.bls] at hs
        exact ⟨a, bs, rfl, hs, f.pure m (.bl _) h⟩
      · exact h.elim
    · exact h.elim
  · exact h.elim
theorem C_any : SC K (rAny K) nAny := by
  intro χ H φ M x dx Q Q' m hx f h
  unfold nAny at h
  split at h
  · obtain ⟨v, rfl, h1⟩ := hx.one
    split at h
    · rename_i ds e
      split at h
      · rename_i bs eb
        obtain ⟨a, vs, rfl, hs, r⟩ := vL m h1 e
        rw [blsD_of eb] at r
        rw [r.bls] at hs
        exact ⟨a, bs, rfl, hs, f.pure m (.bl _) h⟩
      · exact h.elim
    · exact h.elim
  · exact h.elim
def seqD (M : Mem) (x : Da) : Option (List Da) := match look M x with
  | .lst ds => some ds
  | .tup ds => some ds
  | _ => none
theorem seqD_of (m : Mm K H φ χ M) (h : Rp K H φ χ v d) {ds : List Da} (e : seqD M d = some ds) : ∃ a vs, v = .ref a ∧ (SqL K H a vs ∨ SqT K H a vs) ∧ RpL K H φ χ vs ds := by
  unfold seqD at e
  split at e
  · rename_i es q
    cases e
    obtain ⟨a, vs, rfl, hs, r⟩ := vL m h q
    exact ⟨a, vs, rfl, .inl hs, r⟩
  · rename_i es q
    cases e
    obtain ⟨a, vs, rfl, hs, r⟩ := vT m h q
    exact ⟨a, vs, rfl, .inr hs, r⟩
  · cases e
def nList : List Da → Mem → TK → Prop := fun ds M Q => match ds with
  | [x] => match seqD M x with
    | some ds => Q (.lst ds) M
    | none => False
  | _ => False
theorem C_list : SC K (rListA K) nList := by
  intro χ H φ M x dx Q Q' m hx f h
  unfold nList at h
  split at h
  · obtain ⟨v, rfl, h1⟩ := hx.one
    split at h
    · rename_i ds e
      obtain ⟨a, vs, rfl, hs, r⟩ := seqD_of m h1 e
      exact ⟨a, vs, rfl, hs, fun l hl => f.lst m r hl h⟩
    · exact h.elim
  · exact h.elim
def nTupC : List Da → Mem → TK → Prop := fun ds M Q => match ds with
  | [x] => match look M x with
    | .lst ds => Q (.tup ds) M
    | .tup _ => Q x M
    | _ => False
  | _ => False
theorem C_tup : SC K (rTupA K) nTupC := by
  intro χ H φ M x dx Q Q' m hx f h
  unfold nTupC at h
  split at h
  · obtain ⟨v, rfl, h1⟩ := hx.one
    split at h
    · rename_i ds e
      obtain ⟨a, vs, rfl, hs, r⟩ := vL m h1 e
      exact ⟨a, vs, rfl, .inl ⟨hs, fun l hl => f.tup m r hl h⟩⟩
    · rename_i ds e
      obtain ⟨a, vs, rfl, hs, r⟩ := vT m h1 e
      exact ⟨a, vs, rfl, .inr ⟨hs, f.pure m h1 h⟩⟩
    · exact h.elim
  · exact h.elim
def nInt : List Da → Mem → TK → Prop := fun ds M Q => match ds with
  | [.int i] => Q (.int i) M
  | [.bl k] => Q (.int (if k then 1 else 0)) M
  | _ => False
theorem C_int : SC K rIntA nInt := by
  intro χ H φ M x dx Q Q' m hx f h
  unfold nInt at h
  split at h
  · obtain ⟨v, rfl, h1⟩ := hx.one
    obtain rfl := vInt h1
    exact .inl ⟨_, rfl, f.pure m (.int _) h⟩
  · obtain ⟨v, rfl, h1⟩ := hx.one
    obtain rfl := vBl h1
    exact .inr ⟨_, rfl, f.pure m (.int _) h⟩
  · exact h.elim
def nStr : List Da → Mem → TK → Prop := fun ds M Q => match ds with
  | [.int i] => i.natAbs.log2 < 1920 ∧ (toString i : Str).length ≤ sizeLine ∧ Q (.str (toString i)) M
  | [.str k] => Q (.str k) M
  | _ => False
theorem C_str : SC K rStrA nStr := by
  intro χ H φ M x dx Q Q' m hx f h
  unfold nStr at h
  split at h
  · obtain ⟨v, rfl, h1⟩ := hx.one
    obtain rfl := vInt h1
    exact .inl ⟨_, rfl, h.1, f.pure m (.str h.2.1) h.2.2⟩
  · obtain ⟨v, rfl, h1⟩ := hx.one
    obtain ⟨rfl, hz⟩ := vStr h1
    exact .inr ⟨_, rfl, f.pure m (.str hz) h⟩
  · exact h.elim
/-! methods -/
def strsD : List Da → Option (List Str)
  | [] => some []
  | .str b :: ds => (strsD ds).map (b :: ·)
  | _ => none
theorem strsD_of : ∀ {ds : List Da} {bs : List Str}, strsD ds = some bs → ds = bs.map Da.str
  | [], bs, e => by cases e; rfl
  | d :: ds, bs, e => by
    cases d with
    | str b =>
      unfold strsD at e
      cases q : strsD ds with
      | none => rw [q] at e; cases e
      | some cs =>
        rw [q] at e
        cases e
        rw [strsD_of q]
        rfl
    | _ => cases e
theorem strsD_map (bs : List Str) : strsD (bs.map Da.str) = some bs := by
  induction bs with
  | nil => rfl
  | cons b bs ih => show (strsD (bs.map Da.str)).map (b :: ·) = _; rw [ih]; rfl
def okS : Da → Mem → Prop := fun d _ => ∃ z, d = .str z
def okLs : Da → Mem → Prop := fun d M => ∃ ds, look M d = .lst ds
def okDc : Da → Mem → Prop := fun d M => ∃ ds, look M d = .dct ds
theorem okS_run (h : Rp K H φ χ v d) (o : okS d M) : tyW K "str" v H := by
  obtain ⟨z, rfl⟩ := o
  obtain ⟨rfl, _⟩ := vStr h
  exact .inl rfl
theorem okL_run (m : Mm K H φ χ M) (h : Rp K H φ χ v d) (o : okLs d M) : tyW K "list" v H := by
  obtain ⟨ds, e⟩ := o
  obtain ⟨a, vs, rfl, hs, _⟩ := vL m h e
  exact .inl (.inl ⟨rfl, vs, hs⟩)
theorem okD_run (m : Mm K H φ χ M) (h : Rp K H φ χ v d) (o : okDc d M) : tyW K "dict" v H := by
  obtain ⟨ds, e⟩ := o
  obtain ⟨a, vs, rfl, hs, _⟩ := vD m h e
  exact .inr ⟨a, vs, rfl, rfl, hs⟩
/-- a method's rule over data -/
def SMr (K : PySem.W.Frag) (r : V → List V → Hp → VK → Prop) (n : Da → List Da → Mem → TK → Prop) : Prop :=
  ∀ {χ H φ M x dx xs dxs Q Q'}, Mm K H φ χ M → Rp K H φ χ x dx → RpL K H φ χ xs dxs → FE K χ H φ Q' Q → n dx dxs M Q' → r x xs H Q
def nJoin : Da → List Da → Mem → TK → Prop := fun x ds M Q => match x, ds with
  | .str a, [y] => match (seqD M y).bind strsD with
    | some ys => (ys.map (·.length)).sum + ys.length * a.length ≤ 16777216 ∧ (Txt.join a ys).length ≤ sizeLine ∧ Q (.str (Txt.join a ys)) M
    | none => False
  | _, _ => False
theorem M_join : SMr K (rJoinA K) nJoin := by
  intro χ H φ M x dx xs dxs Q Q' m hx hxs f h
  unfold nJoin at h
  split at h
  · obtain ⟨w, rfl, h1⟩ := hxs.one
    obtain ⟨rfl, _⟩ := vStr hx
    split at h
    · rename_i ys e
      obtain ⟨ds, e1, e2⟩ := Option.bind_eq_some_iff.1 e
      obtain ⟨a, vs, rfl, hs, r⟩ := seqD_of m h1 e1
      rw [strsD_of e2] at r
      rw [r.strs] at hs
      exact ⟨_, a, ys, rfl, rfl, hs, h.1, f.pure m (.str h.2.1) h.2.2⟩
    · exact h.elim
  · exact h.elim
def cellL (M : Mem) (x : Da) : Option (Nat × List Da) := match x with
  | .cell n => match M[n]? with
    | some (.lst ds) => some (n, ds)
    | _ => none
  | _ => none
theorem cellL_of (m : Mm K H φ χ M) (h : Rp K H φ χ v d) {n : Nat} {ds : List Da} (e : cellL M d = some (n, ds)) : ∃ a vs, v = .ref a ∧ φ[n]? = some a ∧ H a = some (.lst vs) ∧ RpL K H φ χ vs ds := by
  unfold cellL at e
  split at e
  · rename_i k
    split at e
    · rename_i es q
      cases e
      cases h with
      | cell h =>
        obtain ⟨vs, e1, r⟩ := m.at_ _ _ _ h q
        exact ⟨_, vs, rfl, h, e1, r⟩
    · cases e
  · cases e
theorem FE.mutL {Q' : TK} {Q : VK} (f : FE K χ H φ Q' Q) (m : Mm K H φ χ M) {n : Nat} {a : Addr} {vs : List V} {ds : List Da} (h : φ[n]? = some a) (r : RpL K H φ χ vs ds) {w : V} {e : Da} (hw : Rp K H φ χ w e) (q : Q' e (M.set n (.lst ds))) : Q w (upd H a (.lst vs)) :=
  f _ _ _ _ _ (Adv.mut (List.mem_of_getElem? h)) (m.mut (d := .lst ds) h ⟨vs, upd_same, r.adv (Adv.mut (List.mem_of_getElem? h))⟩) (hw.adv (Adv.mut (List.mem_of_getElem? h))) q
def nAppend : Da → List Da → Mem → TK → Prop := fun x ds M Q => match cellL M x, ds with
  | some (n, es), [y] => es.length < sizeLine ∧ Q .non (M.set n (.lst (es ++ [y])))
  | _, _ => False
theorem M_append : SMr K rAppend nAppend := by
  intro χ H φ M x dx xs dxs Q Q' m hx hxs f h
  unfold nAppend at h
  split at h
  · rename_i n es y e
    obtain ⟨w, rfl, h1⟩ := hxs.one
    obtain ⟨a, vs, rfl, ha, hl, r⟩ := cellL_of m hx e
    exact ⟨a, vs, w, rfl, rfl, hl, by rw [r.len]; exact h.1, f.mutL m ha (r.app (.cons h1 .nil)) .non h.2⟩
  · exact h.elim
def nExtend : Da → List Da → Mem → TK → Prop := fun x ds M Q => match cellL M x, ds with
  | some (n, es), [y] => match lookE M y with
    | .lst zs => es.length + zs.length ≤ sizeLine ∧ Q .non (M.set n (.lst (es ++ zs)))
    | _ => False
  | _, _ => False
theorem M_extend : SMr K rExtend nExtend := by
  intro χ H φ M x dx xs dxs Q Q' m hx hxs f h
  unfold nExtend at h
  split at h
  · rename_i n es y e
    obtain ⟨w, rfl, h1⟩ := hxs.one
    obtain ⟨a, vs, rfl, ha, hl, r⟩ := cellL_of m hx e
    split at h
    · rename_i zs e2
      obtain ⟨b, ws, rfl, hb, r2⟩ := vLE m h1 e2
      exact ⟨a, b, vs, ws, rfl, rfl, hl, hb, by rw [r.len, r2.len]; exact h.1, f.mutL m ha (r.app r2) .non h.2⟩
    · exact h.elim
  · exact h.elim
def nInsert : Da → List Da → Mem → TK → Prop := fun x ds M Q => match cellL M x, ds with
  | some (n, es), [.int i, y] => es.length < sizeLine ∧ 0 ≤ i ∧ i < 2 ^ 63 ∧ Q .non (M.set n (.lst (es.take i.toNat ++ [y] ++ es.drop i.toNat)))
  | _, _ => False
theorem M_insert : SMr K rInsert nInsert := by
  intro χ H φ M x dx xs dxs Q Q' m hx hxs f h
  unfold nInsert at h
  split at h
  · rename_i n es i y e
    obtain ⟨u, w, rfl, h1, h2⟩ := hxs.two
    obtain rfl := vInt h1
    obtain ⟨a, vs, rfl, ha, hl, r⟩ := cellL_of m hx e
    obtain ⟨p1, p2, p3, q⟩ := h
    exact ⟨a, vs, i, w, rfl, rfl, hl, by rw [r.len]; exact p1, p2, p3, f.mutL m ha (((r.take _).app (.cons h2 .nil)).app (r.drop _)) .non q⟩
  · exact h.elim
def nPop : Da → List Da → Mem → TK → Prop := fun x ds M Q => match cellL M x, ds with
  | some (n, es), [] => match es[es.length - 1]? with
    | some y => Q y (M.set n (.lst es.dropLast))
    | none => False
  | some (n, es), [.int i] => -(2 ^ 63) ≤ i ∧ i < 2 ^ 63 ∧ ∃ k y, seqIndex? i es.length = some k ∧ es[k]? = some y ∧ Q y (M.set n (.lst (es.eraseIdx k)))
  | _, _ => False
theorem RpL.dropLast {vs : List V} {ds : List Da} (r : RpL K H φ χ vs ds) : RpL K H φ χ vs.dropLast ds.dropLast := by
  rw [List.dropLast_eq_take, List.dropLast_eq_take, r.len]
  exact r.take _
theorem M_pop : SMr K rPopA nPop := by
  intro χ H φ M x dx xs dxs Q Q' m hx hxs f h
  unfold nPop at h
  split at h
  · rename_i n es e
    cases hxs
    obtain ⟨a, vs, rfl, ha, hl, r⟩ := cellL_of m hx e
    split at h
    · rename_i y ey
      obtain ⟨w, e1, r1⟩ := r.get ey
      exact .inl ⟨a, vs, w, rfl, rfl, hl, by rw [r.len]; exact e1, f.mutL m ha r.dropLast r1 h⟩
    · exact h.elim
  · rename_i n es i e
    obtain ⟨u, rfl, h1⟩ := hxs.one
    obtain rfl := vInt h1
    obtain ⟨a, vs, rfl, ha, hl, r⟩ := cellL_of m hx e
    obtain ⟨p1, p2, k, y, p3, p4, q⟩ := h
    obtain ⟨w, e1, r1⟩ := r.get p4
    exact .inr ⟨a, vs, i, k, w, rfl, rfl, hl, p1, p2, by rw [r.len]; exact p3, e1, f.mutL m ha (r.erase k) r1 q⟩
  · exact h.elim
def nGet : Da → List Da → Mem → TK → Prop := fun x ds M Q => match look M x, ds with
  | .dct kds, [y] => ∃ k, keyD y = some k ∧ Q ((valD kds k).getD .non) M
  | .dct kds, [y, z] => ∃ k, keyD y = some k ∧ Q ((valD kds k).getD z) M
  | _, _ => False
theorem M_get : SMr K rDGet nGet := by
  intro χ H φ M x dx xs dxs Q Q' m hx hxs f h
  unfold nGet at h
  split at h
  · rename_i kds y e
    obtain ⟨w, rfl, h1⟩ := hxs.one
    obtain ⟨a, kvs, rfl, hs, r⟩ := vD m hx e
    obtain ⟨k, hk, q⟩ := h
    rcases r.val (k := k) with ⟨e1, e2⟩ | ⟨v, d', e1, e2, rd⟩
    · rw [e2] at q
      exact ⟨a, rfl, .inl ⟨w, none, rfl, .inl ⟨kvs, k, hs, keyD_of h1 hk, e1.symm⟩, f.pure m .non q⟩⟩
    · rw [e2] at q
      exact ⟨a, rfl, .inl ⟨w, some v, rfl, .inl ⟨kvs, k, hs, keyD_of h1 hk, e1.symm⟩, f.pure m rd q⟩⟩
  · rename_i kds y z e
    obtain ⟨w, u, rfl, h1, h2⟩ := hxs.two
    obtain ⟨a, kvs, rfl, hs, r⟩ := vD m hx e
    obtain ⟨k, hk, q⟩ := h
    rcases r.val (k := k) with ⟨e1, e2⟩ | ⟨v, d', e1, e2, rd⟩
    · rw [e2] at q
      exact ⟨a, rfl, .inr ⟨w, u, none, rfl, .inl ⟨kvs, k, hs, keyD_of h1 hk, e1.symm⟩, f.pure m h2 q⟩⟩
    · rw [e2] at q
      exact ⟨a, rfl, .inr ⟨w, u, some v, rfl, .inl ⟨kvs, k, hs, keyD_of h1 hk, e1.symm⟩, f.pure m rd q⟩⟩
  · exact h.elim
/-! dicts of the module: keys texts, values tuples of scalars -/
structure KTab (K : PySem.W.Frag) (d : Addr) (tab : List (Str × List Da)) : Prop where
  no : ∀ z : Str, z ∉ tab.map (·.1) → PySem.W.nsIn K d z = some none
  yes : ∀ z ds, (z, ds) ∈ tab → ∃ a, PySem.W.nsIn K d z = some (some (.ref a)) ∧ ∃ vs, (∀ H, SqT K H a vs) ∧ ∀ H φ χ, RpL K H φ χ vs ds
def tabD (tab : List (Str × List Da)) (z : Str) : Option (List Da) := (tab.find? fun p => decide (p.1 = z)).map (·.2)
theorem tabD_none : ∀ {tab : List (Str × List Da)} {z : Str}, tabD tab z = none → z ∉ tab.map (·.1)
  | [], z, _ => by simp
  | p :: tab, z, h => by
    unfold tabD at h
    rw [List.find?_cons] at h
    by_cases e : p.1 = z
    · simp [e] at h
    · simp only [decide_eq_false e] at h
      rw [List.map_cons]
      exact nmc ⟨fun q => e q.symm, tabD_none h⟩
theorem tabD_some : ∀ {tab : List (Str × List Da)} {z : Str} {ds : List Da}, tabD tab z = some ds → (z, ds) ∈ tab
  | [], z, ds, h => by cases h
  | p :: tab, z, ds, h => by
    unfold tabD at h
    rw [List.find?_cons] at h
    by_cases e : p.1 = z
    · simp [e] at h
      rw [← e, ← h]
      exact List.mem_cons_self ..
    · simp only [decide_eq_false e] at h
      exact List.mem_cons_of_mem _ (tabD_some h)
def nInK (tab : List (Str × List Da)) : MO := fun x _ M Q => match x with
  | .str z => Q (.bl (tabD tab z).isSome) M
  | _ => False
def nNinK (tab : List (Str × List Da)) : MO := fun x _ M Q => match x with
  | .str z => Q (.bl (!(tabD tab z).isSome)) M
  | _ => False
def nIxK (tab : List (Str × List Da)) : MO := fun _ y M Q => match y with
  | .str z => match tabD tab z with
    | some ds => Q (.kt ds) M
    | none => False
  | _ => False
/-- operators whose one side is a dict of the module -/
def SOr (K : PySem.W.Frag) (a : Addr) (r : R2) (n : MO) : Prop := ∀ {χ H φ M x dx dy Q Q'}, Mm K H φ χ M → Rp K H φ χ x dx → FE K χ H φ Q' Q → n dx dy M Q' → r x (.ref a) H Q
def SOl (K : PySem.W.Frag) (a : Addr) (r : R2) (n : MO) : Prop := ∀ {χ H φ M y dx dy Q Q'}, Mm K H φ χ M → Rp K H φ χ y dy → FE K χ H φ Q' Q → n dx dy M Q' → r (.ref a) y H Q
theorem O_inK {a : Addr} {tab : List (Str × List Da)} (t : KTab K a tab) : SOr K a (rInK K a) (nInK tab) := by
  intro χ H φ M x dx dy Q Q' m hx f h
  unfold nInK at h
  split at h
  · rename_i z
    obtain ⟨rfl, _⟩ := vStr hx
    cases e : tabD tab z with
    | none =>
      rw [e] at h
      exact ⟨z, none, rfl, rfl, t.no z (tabD_none e), f.pure m (.bl _) h⟩
    | some ds =>
      rw [e] at h
      obtain ⟨b, hb, _⟩ := t.yes z ds (tabD_some e)
      exact ⟨z, _, rfl, rfl, hb, f.pure m (.bl _) h⟩
  · exact h.elim
theorem O_ninK {a : Addr} {tab : List (Str × List Da)} (t : KTab K a tab) : SOr K a (rNinK K a) (nNinK tab) := by
  intro χ H φ M x dx dy Q Q' m hx f h
  unfold nNinK at h
  split at h
  · rename_i z
    obtain ⟨rfl, _⟩ := vStr hx
    cases e : tabD tab z with
    | none =>
      rw [e] at h
      exact ⟨z, none, rfl, rfl, t.no z (tabD_none e), f.pure m (.bl _) h⟩
    | some ds =>
      rw [e] at h
      obtain ⟨b, hb, _⟩ := t.yes z ds (tabD_some e)
      exact ⟨z, _, rfl, rfl, hb, f.pure m (.bl _) h⟩
  · exact h.elim
theorem O_ixK {a : Addr} {tab : List (Str × List Da)} (t : KTab K a tab) : SOl K a (rIxK K a) (nIxK tab) := by
  intro χ H φ M y dx dy Q Q' m hy f h
  unfold nIxK at h
  split at h
  · rename_i z
    obtain ⟨rfl, _⟩ := vStr hy
    split at h
    · rename_i ds e
      obtain ⟨b, hb, vs, hs, r⟩ := t.yes z ds (tabD_some e)
      exact ⟨z, _, .ref b, rfl, rfl, hb, rfl, f.pure m (.ktK hs (r H φ χ)) h⟩
    · exact h.elim
  · exact h.elim
end
end Z

/-! T6: expressions, tests, targets -/
namespace Z
open PySem PySem.Spec PyProof.Rows L2 Evl
section
variable {K : PySem.W.Frag}
def mVar (i : Nat) : ME := fun ρ M Q => match ρ[i]? with
  | some (some d) => Q d M
  | _ => False
theorem E_var (i : Nat) : SE K (fun _ => tVar i) (fun _ => mVar i) := ⟨fun r m _ f h => by
  unfold mVar at h
  split at h
  · rename_i d e
    obtain ⟨v, h1, h2⟩ := r.at_ _ _ e
    exact ⟨v, h1, f.pure m h2 h⟩
  · exact h.elim⟩
def mC (d : Da) : ME := fun _ M Q => Q d M
theorem E_non : SE K (fun _ => tC .non) (fun _ => mC .non) := ⟨fun _ m _ f h => f.pure m .non h⟩
theorem E_bl (b : Bool) : SE K (fun _ => tC (.bl b)) (fun _ => mC (.bl b)) := ⟨fun _ m _ f h => f.pure m (.bl b) h⟩
theorem E_int (i : Int) : SE K (fun _ => tC (.int i)) (fun _ => mC (.int i)) := ⟨fun _ m _ f h => f.pure m (.int i) h⟩
theorem E_str {s : Str} (hs : decide (s.length ≤ 16777216) = true) : SE K (fun _ => tC (.str s)) (fun _ => mC (.str s)) := ⟨fun _ m _ f h => f.pure m (.str (by rw [sizeLine_eq]; exact of_decide_eq_true hs)) h⟩
theorem E_ty (n : String) : SE K (fun _ => tC (.ty n)) (fun _ => mC (.ty n)) := ⟨fun _ m _ f h => f.pure m (.ty n) h⟩
theorem E_gl (x : Str) : SE K (fun _ => tC (.ref (He.ga K x))) (fun _ => mC (.gl x)) := ⟨fun _ m _ f h => f.pure m (.gl x) h⟩
/-- a tuple of the module -/
def KTup (K : PySem.W.Frag) (a : Addr) (ds : List Da) : Prop := ∃ vs, (∀ H, SqT K H a vs) ∧ ∀ H φ χ, RpL K H φ χ vs ds
theorem E_kt {a : Addr} {ds : List Da} (h : KTup K a ds) : SE K (fun _ => tC (.ref a)) (fun _ => mC (.kt ds)) := ⟨fun _ m _ f q => by
  obtain ⟨vs, h1, h2⟩ := h
  exact f.pure m (.ktK h1 (h2 _ _ _)) q⟩
variable {ta tb tc : WX → TE} {ma mb mc : WD → ME}
def mOp (n : MO) (ma mb : ME) : ME := fun ρ M Q => ma ρ M fun x M1 => mb ρ M1 fun y M2 => n x y M2 Q
theorem E_op {r : R2} {n : MO} (o : SO K r n) (a : SE K ta ma) (b : SE K tb mb) : SE K (fun W => tOp r (ta W) (tb W)) (fun W => mOp n (ma W) (mb W)) := ⟨fun r m w f h =>
  a.run r m w (fun v d H1 φ1 M1 A1 m1 r1 h1 => b.run (r.adv A1) m1 (w.adv A1) (fun u e H2 φ2 M2 A2 m2 r2 h2 => o m2 (r1.adv A2) r2 ((f.adv A1).adv A2) h2) h1) h⟩
def mOpR (n : MO) (ma : ME) : ME := fun ρ M Q => ma ρ M fun x M1 => n x .non M1 Q
theorem E_opR {x : Str} {r : R2} {n : MO} (o : SOr K (He.ga K x) r n) (a : SE K ta ma) : SE K (fun W => tOp r (ta W) (tC (.ref (He.ga K x)))) (fun W => mOpR n (ma W)) := ⟨fun r m w f h =>
  a.run r m w (fun v d H1 φ1 M1 A1 m1 r1 h1 => o m1 r1 (f.adv A1) h1) h⟩
def mOpL (n : MO) (ma : ME) : ME := fun ρ M Q => ma ρ M fun x M1 => n .non x M1 Q
theorem E_opL {x : Str} {r : R2} {n : MO} (o : SOl K (He.ga K x) r n) (a : SE K ta ma) : SE K (fun W => tOp r (tC (.ref (He.ga K x))) (ta W)) (fun W => mOpL n (ma W)) := ⟨fun r m w f h =>
  a.run r m w (fun v d H1 φ1 M1 A1 m1 r1 h1 => o m1 r1 (f.adv A1) h1) h⟩
def mNeg (ma : ME) : ME := fun ρ M Q => ma ρ M fun x M1 => match x with
  | .int i => Q (.int (-i)) M1
  | _ => False
theorem E_neg (a : SE K ta ma) : SE K (fun W => tUn (rU fun i => .int (-i)) (ta W)) (fun W => mNeg (ma W)) := ⟨fun r m w f h =>
  a.run r m w (fun v d H1 φ1 M1 A1 m1 r1 h1 => by
    split at h1
    · obtain rfl := vInt r1
      exact ⟨_, rfl, (f.adv A1).pure m1 (.int _) h1⟩
    · exact h1.elim) h⟩
def mNotV (ma : ME) : ME := fun ρ M Q => ma ρ M fun x M1 => match x with
  | .bl c => Q (.bl (!c)) M1
  | _ => False
theorem E_notV (a : SE K ta ma) : SE K (fun W => tNotV (ta W)) (fun W => mNotV (ma W)) := ⟨fun r m w f h =>
  a.run r m w (fun v d H1 φ1 M1 A1 m1 r1 h1 => by
    split at h1
    · obtain rfl := vBl r1
      exact ⟨_, rfl, (f.adv A1).pure m1 (.bl _) h1⟩
    · exact h1.elim) h⟩
def mAndV (ma mb : ME) : ME := fun ρ M Q => ma ρ M fun x M1 => match x with
  | .bl c => if c = true then mb ρ M1 Q else Q (.bl false) M1
  | _ => False
theorem E_andV (a : SE K ta ma) (b : SE K tb mb) : SE K (fun W => tAndV (ta W) (tb W)) (fun W => mAndV (ma W) (mb W)) := ⟨fun r m w f h =>
  a.run r m w (fun v d H1 φ1 M1 A1 m1 r1 h1 => by
    split at h1
    · rename_i c
      obtain rfl := vBl r1
      refine ⟨_, rfl, ?_⟩
      cases c with
      | true => exact b.run (r.adv A1) m1 (w.adv A1) (f.adv A1) h1
      | false => exact (f.adv A1).pure m1 (.bl _) h1
    · exact h1.elim) h⟩
def mOrV (ma mb : ME) : ME := fun ρ M Q => ma ρ M fun x M1 => match x with
  | .bl c => if c = true then Q (.bl true) M1 else mb ρ M1 Q
  | _ => False
theorem E_orV (a : SE K ta ma) (b : SE K tb mb) : SE K (fun W => tOrV (ta W) (tb W)) (fun W => mOrV (ma W) (mb W)) := ⟨fun r m w f h =>
  a.run r m w (fun v d H1 φ1 M1 A1 m1 r1 h1 => by
    split at h1
    · rename_i c
      obtain rfl := vBl r1
      refine ⟨_, rfl, ?_⟩
      cases c with
      | true => exact (f.adv A1).pure m1 (.bl _) h1
      | false => exact b.run (r.adv A1) m1 (w.adv A1) (f.adv A1) h1
    · exact h1.elim) h⟩
def mChain (n n' : MO) (ma mb mc : ME) : ME := fun ρ M Q => ma ρ M fun x M1 => mb ρ M1 fun y M2 => n x y M2 fun z M3 => match z with
  | .bl k => if k = true then mc ρ M3 fun u M4 => n' y u M4 Q else Q (.bl false) M3
  | _ => False
theorem E_chain {r r' : R2} {n n' : MO} (o : SO K r n) (o' : SO K r' n') (a : SE K ta ma) (b : SE K tb mb) (c : SE K tc mc) : SE K (fun W => tChain r r' (ta W) (tb W) (tc W)) (fun W => mChain n n' (ma W) (mb W) (mc W)) := ⟨fun r m w f h =>
  a.run r m w (fun v d H1 φ1 M1 A1 m1 r1 h1 => b.run (r.adv A1) m1 (w.adv A1) (fun u e H2 φ2 M2 A2 m2 r2 h2 => o m2 (r1.adv A2) r2 (fun z ez H3 φ3 M3 A3 m3 r3 h3 => by
    split at h3
    · rename_i k
      obtain rfl := vBl r3
      refine ⟨_, rfl, ?_⟩
      cases k with
      | true => exact c.run (r.adv ((A1.trans A2).trans A3)) m3 (w.adv ((A1.trans A2).trans A3)) (fun y ey H4 φ4 M4 A4 m4 r4 h4 => o' m4 (r2.adv (A3.trans A4)) r4 (f.adv (((A1.trans A2).trans A3).trans A4)) h4) h3
      | false => exact (f.adv ((A1.trans A2).trans A3)).pure m3 (.bl _) h3
    · exact h3.elim) h2) h1) h⟩
/-! tests -/
variable {tt tu : WX → TT} {mt mu : WD → MT}
def mIf (t : MT) (ma mb : ME) : ME := fun ρ M Q => t ρ M fun c M1 => if c = true then ma ρ M1 Q else mb ρ M1 Q
theorem E_if (t : ST K tt mt) (a : SE K ta ma) (b : SE K tb mb) : SE K (fun W => tIf (tt W) (ta W) (tb W)) (fun W => mIf (mt W) (ma W) (mb W)) := ⟨fun r m w f h =>
  t.run r m w (fun c H1 φ1 M1 A1 m1 h1 => by
    cases c with
    | true => exact a.run (r.adv A1) m1 (w.adv A1) (f.adv A1) h1
    | false => exact b.run (r.adv A1) m1 (w.adv A1) (f.adv A1) h1) h⟩
def mB (ma : ME) : MT := fun ρ M Q => ma ρ M fun x M1 => match x with
  | .bl c => Q c M1
  | _ => False
theorem E_test (a : SE K ta ma) : ST K (fun W => tTest (ta W)) (fun W => mB (ma W)) := ⟨fun r m w f h =>
  a.run r m w (fun v d H1 φ1 M1 A1 m1 r1 h1 => by
    split at h1
    · obtain rfl := vBl r1
      exact ⟨_, rfl, f _ _ _ _ A1 m1 h1⟩
    · exact h1.elim) h⟩
theorem E_B (a : SE K ta ma) : ST K (fun W => tB (ta W)) (fun W => mB (ma W)) := ⟨fun r m w f h => (E_test a).run r m w f h⟩
def mNot (t : MT) : MT := fun ρ M Q => t ρ M fun c M1 => Q (!c) M1
theorem E_not (t : ST K tt mt) : ST K (fun W => tNot (tt W)) (fun W => mNot (mt W)) := ⟨fun r m w f h => t.run r m w (fun c H1 φ1 M1 A1 m1 h1 => f _ _ _ _ A1 m1 h1) h⟩
def mAnd (t u : MT) : MT := fun ρ M Q => t ρ M fun c M1 => if c = true then u ρ M1 Q else Q false M1
theorem E_and (t : ST K tt mt) (u : ST K tu mu) : ST K (fun W => tAnd (tt W) (tu W)) (fun W => mAnd (mt W) (mu W)) := ⟨fun r m w f h => t.run r m w (fun c H1 φ1 M1 A1 m1 h1 => by
    cases c with
    | true => exact u.run (r.adv A1) m1 (w.adv A1) (f.adv A1) h1
    | false => exact f _ _ _ _ A1 m1 h1) h⟩
def mOr (t u : MT) : MT := fun ρ M Q => t ρ M fun c M1 => if c = true then Q true M1 else u ρ M1 Q
theorem E_or (t : ST K tt mt) (u : ST K tu mu) : ST K (fun W => tOr (tt W) (tu W)) (fun W => mOr (mt W) (mu W)) := ⟨fun r m w f h => t.run r m w (fun c H1 φ1 M1 A1 m1 h1 => by
    cases c with
    | true => exact f _ _ _ _ A1 m1 h1
    | false => exact u.run (r.adv A1) m1 (w.adv A1) (f.adv A1) h1) h⟩
def mYes : MT := fun _ M Q => Q true M
theorem E_yes : ST K (fun _ => tYes) (fun _ => mYes) := ⟨fun _ m _ f h => f _ _ _ _ Adv.refl m h⟩
/-! argument lists -/
variable {as : WX → TA} {ms : WD → MA}
def mNil : MA := fun _ M Q => Q [] M
theorem E_nil : SA K (fun _ => tNil) (fun _ => mNil) := ⟨fun _ m _ f h => f _ _ _ _ _ Adv.refl m .nil h⟩
def mCons (ma : ME) (ms : MA) : MA := fun ρ M Q => ma ρ M fun x M1 => ms ρ M1 fun xs M2 => Q (x :: xs) M2
theorem E_cons (a : SE K ta ma) (s : SA K as ms) : SA K (fun W => tCons (ta W) (as W)) (fun W => mCons (ma W) (ms W)) := ⟨fun r m w f h =>
  a.run r m w (fun v d H1 φ1 M1 A1 m1 r1 h1 => s.run (r.adv A1) m1 (w.adv A1) (fun vs ds H2 φ2 M2 A2 m2 r2 h2 => f _ _ _ _ _ (A1.trans A2) m2 (.cons (r1.adv A2) r2) h2) h1) h⟩
/-! displays -/
def mTup (s : MA) : ME := fun ρ M Q => s ρ M fun ds M1 => ds.length ≤ 1000000 ∧ Q (.tup ds) M1
def mLst (s : MA) : ME := fun ρ M Q => s ρ M fun ds M1 => ds.length ≤ 1000000 ∧ Q (.lst ds) M1
theorem mio {n : Nat} (h : n ≤ 1000000) : n ≤ sizeLine := by
  rw [sizeLine_eq]
  omega
theorem E_tup (s : SA K as ms) : SE K (fun W => tTup (as W)) (fun W => mTup (ms W)) := ⟨fun r m w f h =>
  s.run r m w (fun vs ds H1 φ1 M1 A1 m1 r1 h1 => ⟨by rw [r1.len]; exact mio h1.1, fun p hp => (f.adv A1).tup m1 r1 hp h1.2⟩) h⟩
theorem E_lst (s : SA K as ms) : SE K (fun W => tLst (as W)) (fun W => mLst (ms W)) := ⟨fun r m w f h =>
  s.run r m w (fun vs ds H1 φ1 M1 A1 m1 r1 h1 => ⟨by rw [r1.len]; exact mio h1.1, fun p hp => (f.adv A1).lst m1 r1 hp h1.2⟩) h⟩
def mDNew : ME := fun _ M Q => Q (.dct []) M
theorem E_dnew : SE K (fun _ => tDNewK) (fun _ => mDNew) := ⟨fun r m w f h p hp => f _ _ _ _ _ (Adv.new hp) (m.new hp) (.dct upd_same rfl (m.nin hp) (fun c => m.hid p c hp) .nil) h⟩
/-! a written dict -/
def mPairs : List (ME × ME) → Sl → Mem → (List (Key × Da) → Mem → Prop) → Prop
  | [], _, M, Q => Q [] M
  | (k, v) :: r, ρ, M, Q => k ρ M fun x M1 => v ρ M1 fun y M2 => match keyD x with
    | some kk => mPairs r ρ M2 fun ps M3 => Q ((kk, y) :: ps) M3
    | none => False
def mergeD (kds more : List (Key × Da)) : List (Key × Da) := more.foldl (fun acc kv => putD acc kv.1 kv.2) kds
def mDisp (ps : List (ME × ME)) : ME := fun ρ M Q => mPairs ps ρ M fun kds M1 => kds.length ≤ 15 ∧ Q (.dct (mergeD [] kds)) M1
inductive SPs (K : PySem.W.Frag) : (WX → List (TE × TE)) → (WD → List (ME × ME)) → Prop
  | nil : SPs K (fun _ => []) (fun _ => [])
  | cons {tk tv : WX → TE} {mk mv : WD → ME} {ts : WX → List (TE × TE)} {ms : WD → List (ME × ME)} : SE K tk mk → SE K tv mv → SPs K ts ms → SPs K (fun W => (tk W, tv W) :: ts W) (fun W => (mk W, mv W) :: ms W)
theorem SPs.run {ts : WX → List (TE × TE)} {ms : WD → List (ME × ME)} (s : SPs K ts ms) : ∀ {χ W W' σ H φ ρ M} {Q' : List (Key × Da) → Mem → Prop} {Q : List (V × V) → Hp → Prop}, Rs K H φ χ σ ρ → Mm K H φ χ M → FW K χ H φ W' W →
    (∀ v kvs kds H' φ' M', Adv H φ H' φ' → Mm K H' φ' χ M' → v = kvs.map (fun kv : Key × V => (kV kv.1, kv.2)) → RpK K H' φ' χ kvs kds → Q' kds M' → Q v H') → mPairs (ms W') ρ M Q' → tPairs (ts W) σ H Q := by
  induction s with
  | nil =>
    intro χ W W' σ H φ ρ M Q' Q r m w f h
    exact f _ [] _ _ _ _ Adv.refl m rfl .nil h
  | cons k v s ih =>
    intro χ W W' σ H φ ρ M Q' Q r m w f h
    exact k.run r m w (fun v1 d1 H1 φ1 M1 A1 m1 r1 h1 => v.run (r.adv A1) m1 (w.adv A1) (fun v2 d2 H2 φ2 M2 A2 m2 r2 h2 => by
      split at h2
      · rename_i kk e
        have e1 := keyD_of r1 e
        exact ih (r.adv (A1.trans A2)) m2 (w.adv (A1.trans A2)) (fun v3 kvs kds H3 φ3 M3 A3 m3 e3 r3 h3 =>
          f _ ((kk, v2) :: kvs) _ _ _ _ ((A1.trans A2).trans A3) m3 (by rw [e3, e1]; rfl) (.cons (r2.adv A3) r3) h3) h2
      · exact h2.elim) h1) h
theorem mergeD_run {H : Hp} {φ χ : List Addr} : ∀ {kvs : List (Key × V)} {kds : List (Key × Da)} {acc : List (Key × V)} {ads : List (Key × Da)}, RpK K H φ χ kvs kds → RpK K H φ χ acc ads → RpK K H φ χ (mergeK acc kvs) (mergeD ads kds)
  | _, _, _, _, .nil, a => a
  | _, _, _, _, .cons (k := k) h r, a => by
    have q := mergeD_run r (a.put (k := k) h)
    exact q
theorem FW.hide {χ : List Addr} {H : Hp} {φ : List Addr} {W' : WD} {W : WX} {D : Addr} (f : FW K χ H φ W' W) : FW K (D :: χ) H φ W' W := fun c fs vfs dd σ' H' φ' ρ' M' A r m h n1 n2 q =>
  f c fs vfs dd σ' H' φ' ρ' M' A r.bare m.bare h n1 (fun z => n2 (List.mem_cons_of_mem _ z)) q.bare
theorem E_disp {ts : WX → List (TE × TE)} {ms : WD → List (ME × ME)} (s : SPs K ts ms) : SE K (fun W => tDisp (ts W)) (fun W => mDisp (ms W)) := ⟨fun {χ W W' σ H φ ρ M Q Q'} r m w f h p hp => by
  refine s.run (χ := p :: χ) (r.hideN hp) (m.hideN hp) ((w.adv (Adv.new hp)).hide) ?_ h
  intro v kvs kds H1 φ1 M1 A1 m1 e1 rk h1
  have np : p ∉ φ := m.nin hp
  have hp1 : H1 p = some (.dK []) := A1.keep p _ upd_same np
  have np1 : p ∉ φ1 := A1.nin upd_same np
  have hD : p ∈ p :: χ := List.mem_cons_self ..
  refine ⟨hp1, kvs, e1, by rw [rk.len]; exact h1.1, ?_⟩
  have r2 : RpK K (upd H1 p (.dK (mergeK [] kvs))) φ1 (p :: χ) (mergeK [] kvs) (mergeD [] kds) := (mergeD_run rk .nil).at_ hD
  have A2 : Adv H φ (upd H1 p (.dK (mergeK [] kvs))) φ1 := {
    keep := fun a o e n => by
      rw [upd_ne (ne_of_none e hp)]
      exact A1.keep a o (by rw [upd_ne (ne_of_none e hp)]; exact e) n
    pre := by
      obtain ⟨ψ, e, q⟩ := A1.pre
      refine ⟨ψ, e, fun a ha => ?_⟩
      have z := q a ha
      by_cases ea : a = p
      · rw [ea, upd_same] at z; cases z
      · rw [upd_ne ea] at z; exact z
    dom := fun a e => upd_some (A1.dom a (upd_some e)) }
  exact f _ _ _ _ _ A2 (m1.updH hD).bare (.dct upd_same rfl np1 (fun c => m.hid p c hp) r2.bare) h1.2⟩
/-! an exception's field -/
def mXf (a dd : Addr) (C f : Str) (i : Nat) : ME := fun ρ M Q => match ρ[i]? with
  | some (some (.exv a' dd' c fds)) => a' = a ∧ dd' = dd ∧ c = C ∧ match fds.lookup f with
    | some d => Q d M
    | none => False
  | _ => False
theorem RpF.look {H : Hp} {φ χ : List Addr} {f : Str} {d : Da} : ∀ {vs : List (Str × V)} {ds : List (Str × Da)}, RpF K H φ χ vs ds → ds.lookup f = some d → ∃ v, vs.lookup f = some v ∧ Rp K H φ χ v d
  | _, _, .nil, e => by cases e
  | _, _, .cons (k := k) h r, e => by
    rw [List.lookup_cons] at e ⊢
    cases q : f == k with
    | true =>
      rw [q] at e
      cases e
      exact ⟨_, rfl, h⟩
    | false =>
      rw [q] at e
      exact r.look e
theorem E_xf (a dd : Addr) (C f : Str) (i : Nat) : SE K (fun _ => tXf a (.ref (He.ga K C)) (some dd) (He.ga K C) f (tVar i)) (fun _ => mXf a dd C f i) := ⟨fun r m w f h => by
  unfold mXf at h
  split at h
  · rename_i a' dd' c fds e
    obtain ⟨rfl, rfl, rfl, h⟩ := h
    split at h
    · rename_i d ed
      obtain ⟨v, h1, h2⟩ := r.at_ _ _ e
      cases h2 with
      | exv hd n1 n2 rf =>
        obtain ⟨u, hu, ru⟩ := rf.look ed
        exact ⟨_, h1, rfl, rfl, _, _, u, rfl, hd, hu, f.pure m ru h⟩
    · exact h.elim
  · exact h.elim⟩
/-! slices -/
abbrev MO2 := Sl → Mem → (Option Int → Mem → Prop) → Prop
structure SP2 (K : PySem.W.Frag) (te : WX → TO) (me : WD → MO2) : Prop where
  run : ∀ {χ W W' σ H φ ρ M} {Q : Option Int → Hp → Prop} {Q' : Option Int → Mem → Prop}, Rs K H φ χ σ ρ → Mm K H φ χ M → FW K χ H φ W' W → (∀ b H' φ' M', Adv H φ H' φ' → Mm K H' φ' χ M' → Q' b M' → Q b H') → me W' ρ M Q' → te W σ H Q
def mNoPart : MO2 := fun _ M Q => Q none M
theorem E_nopart : SP2 K (fun _ => tNoPart) (fun _ => mNoPart) := ⟨fun _ m _ f h => f _ _ _ _ Adv.refl m h⟩
def mPart (ma : ME) : MO2 := fun ρ M Q => ma ρ M fun x M1 => match x with
  | .int i => Q (some i) M1
  | _ => False
theorem E_part (a : SE K ta ma) : SP2 K (fun W => tPart (ta W)) (fun W => mPart (ma W)) := ⟨fun r m w f h =>
  a.run r m w (fun v d H1 φ1 M1 A1 m1 r1 h1 => by
    split at h1
    · obtain rfl := vInt r1
      exact ⟨_, rfl, f _ _ _ _ A1 m1 h1⟩
    · exact h1.elim) h⟩
variable {tl th : WX → TO} {ml mh : WD → MO2}
def mSl (n : MO3) (ma : ME) (ml mh : MO2) : ME := fun ρ M Q => ma ρ M fun x M1 => ml ρ M1 fun l M2 => mh ρ M2 fun u M3 => n x l u M3 Q
theorem E_sl {r : V → Option Int → Option Int → Hp → VK → Prop} {n : MO3} (o : SO3 K r n) (a : SE K ta ma) (l : SP2 K tl ml) (h : SP2 K th mh) : SE K (fun W => tSl r (ta W) (tl W) (th W)) (fun W => mSl n (ma W) (ml W) (mh W)) := ⟨fun r m w f hh =>
  a.run r m w (fun v d H1 φ1 M1 A1 m1 r1 h1 => l.run (r.adv A1) m1 (w.adv A1) (fun x H2 φ2 M2 A2 m2 h2 => h.run (r.adv (A1.trans A2)) m2 (w.adv (A1.trans A2)) (fun y H3 φ3 M3 A3 m3 h3 => o m3 (r1.adv (A2.trans A3)) (f.adv ((A1.trans A2).trans A3)) h3) h2) h1) hh⟩
/-! builtins, methods -/
def mCB (n : List Da → Mem → TK → Prop) (s : MA) : ME := fun ρ M Q => s ρ M fun ds M1 => n ds M1 Q
theorem E_cb {r : List V → Hp → VK → Prop} {n : List Da → Mem → TK → Prop} (c : SC K r n) (s : SA K as ms) : SE K (fun W => tCB r (as W)) (fun W => mCB n (ms W)) := ⟨fun r m w f h =>
  s.run r m w (fun vs ds H1 φ1 M1 A1 m1 r1 h1 => c m1 r1 (f.adv A1) h1) h⟩
/-- the kind of thing that a method belongs to -/
def okM (T : String) : Da → Mem → Prop := if T = "str" then okS else if T = "list" then okLs else if T = "dict" then okDc else fun _ _ => False
theorem okM_run {H : Hp} {φ χ : List Addr} {M : Mem} {T : String} {v : V} {d : Da} (m : Mm K H φ χ M) (h : Rp K H φ χ v d) (o : okM T d M) : tyW K T v H := by
  unfold okM at o
  split at o
  · rename_i e; rw [e]; exact okS_run h o
  · split at o
    · rename_i e; rw [e]; exact okL_run m h o
    · split at o
      · rename_i e; rw [e]; exact okD_run m h o
      · exact o.elim
def mBM (T : String) (n : Da → List Da → Mem → TK → Prop) (ma : ME) (s : MA) : ME := fun ρ M Q => ma ρ M fun x M1 => okM T x M1 ∧ s ρ M1 fun xs M2 => n x xs M2 Q
def mBM0 (T : String) (n : Da → List Da → Mem → TK → Prop) (ma : ME) : ME := fun ρ M Q => ma ρ M fun x M1 => okM T x M1 ∧ n x [] M1 Q
theorem E_bm {T : String} {r : V → List V → Hp → VK → Prop} {n : Da → List Da → Mem → TK → Prop} (o : SMr K r n) (a : SE K ta ma) (s : SA K as ms) : SE K (fun W => tBMW K T r (ta W) (as W)) (fun W => mBM T n (ma W) (ms W)) := ⟨fun r m w f h =>
  a.run r m w (fun v d H1 φ1 M1 A1 m1 r1 h1 => ⟨okM_run m1 r1 h1.1, s.run (r.adv A1) m1 (w.adv A1) (fun vs ds H2 φ2 M2 A2 m2 r2 h2 => o m2 (r1.adv A2) r2 (f.adv (A1.trans A2)) h2) h1.2⟩) h⟩
theorem E_bm0 {T : String} {r : V → List V → Hp → VK → Prop} {n : Da → List Da → Mem → TK → Prop} (o : SMr K r n) (a : SE K ta ma) : SE K (fun W => tBM0W K T r (ta W)) (fun W => mBM0 T n (ma W)) := ⟨fun r m w f h =>
  a.run r m w (fun v d H1 φ1 M1 A1 m1 r1 h1 => ⟨okM_run m1 r1 h1.1, o m1 r1 .nil (f.adv A1) h1.2⟩) h⟩
/-! targets -/
variable {tg tg' : WX → TG} {mg mg' : WD → MG} {gs : WX → TGs} {mgs : WD → MGs}
def hName (i : Nat) : MG := fun d ρ M Q => Q (ρ.set i (some d)) M
theorem G_name (i : Nat) : SG K (fun _ => gName i) (fun _ => hName i) := ⟨fun r m w rv f h => f _ _ _ _ _ Adv.refl (r.set rv) m h⟩
def hNil : MGs := fun ds ρ M Q => ds = [] ∧ Q ρ M
theorem G_nil : SGs K (fun _ => gNil) (fun _ => hNil) := ⟨fun r m w rv f h => by
  obtain ⟨rfl, h⟩ := h
  cases rv
  exact ⟨rfl, f _ _ _ _ _ Adv.refl r m h⟩⟩
def hCons (g : MG) (gs : MGs) : MGs := fun ds ρ M Q => match ds with
  | d :: ds => g d ρ M fun ρ' M' => gs ds ρ' M' Q
  | [] => False
theorem G_cons (g : SG K tg mg) (s : SGs K gs mgs) : SGs K (fun W => gCons (tg W) (gs W)) (fun W => hCons (mg W) (mgs W)) := ⟨fun r m w rv f h => by
  unfold hCons at h
  split at h
  · cases rv with
    | cons h1 r1 =>
      exact ⟨_, _, rfl, g.run r m w h1 (fun σ' H' φ' ρ' M' A r' m' h' => s.run r' m' (w.adv A) (r1.adv A) (f.adv A) h') h⟩
  · exact h.elim⟩
def hTup (n : Nat) (gs : MGs) : MG := fun d ρ M Q => match look M d with
  | .tup ds => ds.length = n ∧ gs ds ρ M Q
  | _ => False
theorem G_tup {n : Nat} (s : SGs K gs mgs) : SG K (fun W => gTup K n (gs W)) (fun W => hTup n (mgs W)) := ⟨fun r m w rv f h => by
  unfold hTup at h
  split at h
  · rename_i ds e
    obtain ⟨a, vs, rfl, hs, rl⟩ := vT m rv e
    exact ⟨a, vs, rfl, hs, by rw [rl.len]; exact h.1, s.run r m w rl f h.2⟩
  · exact h.elim⟩
def hStar (n i : Nat) (gs : MGs) : MG := fun d ρ M Q => match seqD M d with
  | some ds => n ≤ ds.length + 1 ∧ ds.length ≤ 16384 ∧ gs (ds.take i ++ [.lst ((ds.drop i).take (ds.length + 1 - n))] ++ (ds.drop i).drop (ds.length + 1 - n)) ρ M Q
  | none => False
theorem G_star {n i : Nat} (s : SGs K gs mgs) : SG K (fun W => gStar K n i (gs W)) (fun W => hStar n i (mgs W)) := ⟨fun {χ W W' σ H φ ρ M v d Q Q'} r m w rv f h => by
  unfold hStar at h
  split at h
  · rename_i ds e
    obtain ⟨a, vs, rfl, hs, rl⟩ := seqD_of m rv e
    refine ⟨a, vs, rfl, hs.elim .inr .inl, by rw [rl.len]; exact h.1, by rw [rl.len]; exact h.2.1, fun D hD => ?_⟩
    rw [rl.len]
    have A : Adv H φ (upd H D (HO.lst ((vs.drop i).take (ds.length + 1 - n)))) φ := Adv.new hD
    refine s.run (r.adv A) (m.new hD) (w.adv A) ?_ (f.adv A) h.2.2
    have rm : RpL K H φ χ ((vs.drop i).take (ds.length + 1 - n)) ((ds.drop i).take (ds.length + 1 - n)) := (rl.drop i).take _
    exact (((rl.take i).adv A).app (.cons (.lst upd_same (m.nin hD) (fun c => m.hid D c hD) (rm.newObj hD)) .nil)).app (((rl.drop i).drop _).adv A)
  · exact h.elim⟩
abbrev MSet := Da → Da → Da → Mem → (Mem → Prop) → Prop
def SSet (K : PySem.W.Frag) (r : TSet) (n : MSet) : Prop := ∀ {χ H φ M o i v dO di dv} {Q : Hp → Prop} {Q' : Mem → Prop}, Mm K H φ χ M → Rp K H φ χ o dO → Rp K H φ χ i di → Rp K H φ χ v dv → (∀ H' φ' M', Adv H φ H' φ' → Mm K H' φ' χ M' → Q' M' → Q H') → n dO di dv M Q' → r o i v H Q
def nSet : MSet := fun o i v M Q => match o with
  | .cell n => match M[n]? with
    | some (.lst ds) => match i with
      | .int k => match ixN ds.length k with
        | some j => Q (M.set n (.lst (ds.set j v)))
        | none => False
      | _ => False
    | some (.dct kds) => ∃ k, keyD i = some k ∧ kds.length ≤ 1000000 ∧ Q (M.set n (.dct (putD kds k v)))
    | _ => False
  | _ => False
theorem O_set : SSet K rSetB nSet := by
  intro χ H φ M o i v dO di dv Q Q' m ho hi hv f h
  unfold nSet at h
  split at h
  · cases ho with
    | cell ha =>
      split at h
      · rename_i n ds e
        obtain ⟨vs, e1, r⟩ := m.at_ _ _ _ ha e
        split at h
        · obtain rfl := vInt hi
          split at h
          · rename_i j ej
            refine .inl ⟨_, vs, _, j, rfl, rfl, e1, by rw [r.len]; exact ej, f _ _ _ (Adv.mut (List.mem_of_getElem? ha)) (m.mut (d := .lst _) ha ⟨_, upd_same, (r.set hv j).adv (Adv.mut (List.mem_of_getElem? ha))⟩) h⟩
          · exact h.elim
        · exact h.elim
      · rename_i n kds e
        obtain ⟨kvs, e1, r⟩ := m.at_ _ _ _ ha e
        obtain ⟨k, hk, hl, q⟩ := h
        refine .inr ⟨_, _, rfl, .inl ⟨kvs, k, e1, keyD_of hi hk, by rw [r.len, sizeLine_eq]; omega, rfl⟩, f _ _ _ (Adv.mut (List.mem_of_getElem? ha)) (m.mut (d := .dct _) ha ⟨_, upd_same, (r.put hv).adv (Adv.mut (List.mem_of_getElem? ha))⟩) q⟩
      · exact h.elim
  · exact h.elim
def hSub (mo mi : ME) (n : MSet) : MG := fun d ρ M Q => mo ρ M fun o M1 => mi ρ M1 fun i M2 => n o i d M2 fun M3 => Q ρ M3
theorem G_sub {r : TSet} {n : MSet} (o : SSet K r n) (a : SE K ta ma) (b : SE K tb mb) : SG K (fun W => gSub (ta W) (tb W) r) (fun W => hSub (ma W) (mb W) n) := ⟨fun r m w rv f h =>
  a.run r m w (fun v d H1 φ1 M1 A1 m1 r1 h1 => b.run (r.adv A1) m1 (w.adv A1) (fun u e H2 φ2 M2 A2 m2 r2 h2 => o m2 (r1.adv A2) r2 (rv.adv (A1.trans A2)) (fun H3 φ3 M3 A3 m3 h3 => f _ _ _ _ _ ((A1.trans A2).trans A3) (r.adv ((A1.trans A2).trans A3)) m3 h3) h2) h1) h⟩
end
end Z

/-! T7: cells, statements, loops, comprehensions, calls, try -/
namespace Z
open PySem PySem.Spec PyProof.Rows L2 Evl
section
variable {K : PySem.W.Frag} {ta tb : WX → TE} {ma mb : WD → ME} {as : WX → TA} {ms : WD → MA}
def ldD : Da → Bool
  | .lst _ => true
  | .dct _ => true
  | _ => false
/-! ### what is changed later: a new cell. SN: the expression's end is a new object at an address where nothing was -/
structure SN (K : PySem.W.Frag) (te : WX → TE) (me : WD → ME) : Prop where
  run : ∀ {χ W W' σ H φ ρ M} {Q : VK} {Q' : TK}, Rs K H φ χ σ ρ → Mm K H φ χ M → FW K χ H φ W' W → (∀ d M', Q' d M' → ldD d = true) →
    (∀ p d H' φ' M', Adv H φ H' φ' → H p = none → p ∉ φ' → p ∉ χ → Mm K H' φ' (p :: χ) M' → CellAt K H' φ' (p :: χ) p d → Q' d M' → Q (.ref p) H') → me W' ρ M Q' → te W σ H Q
/-- the simple way: a new list at the end -/
theorem SN.lst {χ φ φ1 : List Addr} {H H1 : Hp} {M1 : Mem} {Q : VK} {Q' : TK} (f : ∀ p d H' φ' M', Adv H φ H' φ' → H p = none → p ∉ φ' → p ∉ χ → Mm K H' φ' (p :: χ) M' → CellAt K H' φ' (p :: χ) p d → Q' d M' → Q (.ref p) H')
    {p : Addr} {vs : List V} {ds : List Da} (A : Adv H φ H1 φ1) (m : Mm K H1 φ1 χ M1) (hp : H1 p = none) (r : RpL K H1 φ1 χ vs ds) (q : Q' (.lst ds) M1) : Q (.ref p) (upd H1 p (.lst vs)) := by
  have h0 : H p = none := by
    cases e : H p with
    | none => rfl
    | some o => exact absurd hp (A.dom p (by rw [e]; simp))
  refine f p (.lst ds) _ φ1 M1 (A.trans (Adv.new hp)) h0 (m.nin hp) (fun c => m.hid p c hp) (m.hideN hp) ⟨vs, upd_same, (r.hide hp).at_ (List.mem_cons_self ..)⟩ q
theorem SN.dct {χ φ φ1 : List Addr} {H H1 : Hp} {M1 : Mem} {Q : VK} {Q' : TK} (f : ∀ p d H' φ' M', Adv H φ H' φ' → H p = none → p ∉ φ' → p ∉ χ → Mm K H' φ' (p :: χ) M' → CellAt K H' φ' (p :: χ) p d → Q' d M' → Q (.ref p) H')
    {p : Addr} {vs : List (Key × V)} {ds : List (Key × Da)} (A : Adv H φ H1 φ1) (m : Mm K H1 φ1 χ M1) (hp : H1 p = none) (r : RpK K H1 φ1 χ vs ds) (q : Q' (.dct ds) M1) : Q (.ref p) (upd H1 p (.dK vs)) := by
  have h0 : H p = none := by
    cases e : H p with
    | none => rfl
    | some o => exact absurd hp (A.dom p (by rw [e]; simp))
  refine f p (.dct ds) _ φ1 M1 (A.trans (Adv.new hp)) h0 (m.nin hp) (fun c => m.hid p c hp) (m.hideN hp) ⟨vs, upd_same, (r.hide hp).at_ (List.mem_cons_self ..)⟩ q
theorem N_lst (s : SA K as ms) : SN K (fun W => tLst (as W)) (fun W => mLst (ms W)) := ⟨fun r m w sh f h =>
  s.run r m w (fun vs ds H1 φ1 M1 A1 m1 r1 h1 => ⟨by rw [r1.len]; exact mio h1.1, fun p hp => SN.lst f A1 m1 hp r1 h1.2⟩) h⟩
theorem N_dnew : SN K (fun _ => tDNewK) (fun _ => mDNew) := ⟨fun r m w sh f h p hp => SN.dct f Adv.refl m hp .nil h⟩
theorem N_list (s : SA K as ms) : SN K (fun W => tCB (rListA K) (as W)) (fun W => mCB nList (ms W)) := ⟨fun r m w sh f h =>
  s.run r m w (fun vs ds H1 φ1 M1 A1 m1 r1 h1 => by
    unfold nList at h1
    split at h1
    · obtain ⟨v, rfl, h2⟩ := r1.one
      split at h1
      · rename_i ds e
        obtain ⟨a, vs, rfl, hs, rl⟩ := seqD_of m1 h2 e
        exact ⟨a, vs, rfl, hs, fun l hl => SN.lst f A1 m1 hl rl h1⟩
      · exact h1.elim
    · exact h1.elim) h⟩
theorem N_add (a : SE K ta ma) (b : SE K tb mb) : SN K (fun W => tOp (rAddA K) (ta W) (tb W)) (fun W => mOp nAdd (ma W) (mb W)) := ⟨fun r m w sh f h =>
  a.run r m w (fun v d H1 φ1 M1 A1 m1 r1 h1 => b.run (r.adv A1) m1 (w.adv A1) (fun u e H2 φ2 M2 A2 m2 r2 h2 => by
    have r1 := r1.adv A2
    unfold nAdd at h2
    split at h2
    · have := sh _ _ h2; cases this
    · have := sh _ _ h2.2; cases this
    · split at h2
      · rename_i x y e1 e2
        obtain ⟨p, vs, rfl, g1, l1⟩ := vLE m2 r1 e1
        obtain ⟨q, ws, rfl, g2, l2⟩ := vLE m2 r2 e2
        exact .inr (.inr (.inl ⟨p, q, vs, ws, rfl, rfl, g1, g2, by rw [l1.len, l2.len]; exact h2.1, fun n hn => SN.lst f (A1.trans A2) m2 hn (l1.app l2) h2.2⟩))
      · have := sh _ _ h2.2.2.2; cases this
      · exact h2.elim) h1) h⟩
theorem N_sl {tl th : WX → TO} {ml mh : WD → MO2} (a : SE K ta ma) (l : SP2 K tl ml) (h : SP2 K th mh) : SN K (fun W => tSl (Z.rSlA K) (ta W) (tl W) (th W)) (fun W => mSl nSl (ma W) (ml W) (mh W)) := ⟨fun {χ W W' σ H φ ρ M Q Q'} r m w sh f hh =>
  a.run r m w (fun v d H1 φ1 M1 A1 m1 r1 h1 => l.run (r.adv A1) m1 (w.adv A1) (fun x H2 φ2 M2 A2 m2 h2 => h.run (r.adv (A1.trans A2)) m2 (w.adv (A1.trans A2)) (fun y H3 φ3 M3 A3 m3 h3 => by
    have r1 := r1.adv (A2.trans A3)
    unfold nSl at h3
    split at h3
    · have := sh _ _ h3; cases this
    · rename_i ds e
      obtain ⟨a, vs, rfl, hs, rl⟩ := vL m3 r1 e
      refine .inr (.inl ⟨a, vs, rfl, hs, fun p hp => ?_⟩)
      have r2 : RpL K H3 φ3 χ (cutV vs x y) (cutL ds x y) := by
        unfold cutV cutL
        rw [rl.len]
        exact (rl.drop _).take _
      exact SN.lst f ((A1.trans A2).trans A3) m3 hp r2 h3
    · split at h3
      · have := sh _ _ h3; cases this
      · exact h3.elim
    · exact h3.elim) h2) h1) hh⟩
theorem N_disp {ts : WX → List (TE × TE)} {ms : WD → List (ME × ME)} (s : SPs K ts ms) : SN K (fun W => tDisp (ts W)) (fun W => mDisp (ms W)) := ⟨fun {χ W W' σ H φ ρ M Q Q'} r m w sh f h p hp => by
  refine s.run (χ := p :: χ) (r.hideN hp) (m.hideN hp) ((w.adv (Adv.new hp)).hide) ?_ h
  intro v kvs kds H1 φ1 M1 A1 m1 e1 rk h1
  have np : p ∉ φ := m.nin hp
  have hp1 : H1 p = some (.dK []) := A1.keep p _ upd_same np
  have np1 : p ∉ φ1 := A1.nin upd_same np
  have hD : p ∈ p :: χ := List.mem_cons_self ..
  refine ⟨hp1, kvs, e1, by rw [rk.len]; exact h1.1, ?_⟩
  have r2 : RpK K (upd H1 p (.dK (mergeK [] kvs))) φ1 (p :: χ) (mergeK [] kvs) (mergeD [] kds) := (mergeD_run rk .nil).at_ hD
  have A2 : Adv H φ (upd H1 p (.dK (mergeK [] kvs))) φ1 := {
    keep := fun a o e n => by
      rw [upd_ne (ne_of_none e hp)]
      exact A1.keep a o (by rw [upd_ne (ne_of_none e hp)]; exact e) n
    pre := by
      obtain ⟨ψ, e, q⟩ := A1.pre
      refine ⟨ψ, e, fun a ha => ?_⟩
      have z := q a ha
      by_cases ea : a = p
      · rw [ea, upd_same] at z; cases z
      · rw [upd_ne ea] at z; exact z
    dom := fun a e => upd_some (A1.dom a (upd_some e)) }
  exact f p (.dct (mergeD [] kds)) _ _ _ A2 hp np1 (fun c => m.hid p c hp) (m1.updH hD) ⟨_, upd_same, r2⟩ h1.2⟩
/-- the new object as a cell -/
def mCell (ma : ME) : ME := fun ρ M Q => ma ρ M fun d M1 => match d with
  | .lst ds => Q (.cell M1.length) (M1 ++ [.lst ds])
  | .dct kds => Q (.cell M1.length) (M1 ++ [.dct kds])
  | _ => False
theorem snoc_at {α : Type} (l : List α) (a : α) : (l ++ [a])[l.length]? = some a := by simp
theorem nap {α : Type} {a p : α} {l : List α} (h : a ∉ l) (n : a ≠ p) : a ∉ l ++ [p] := fun m => (List.mem_append.1 m).elim h fun q => n (List.mem_singleton.1 q)
theorem nhd {α : Type} {a p : α} {l : List α} (h : a ∉ p :: l) : a ≠ p ∧ a ∉ l := ⟨fun e => h (by rw [e]; exact List.mem_cons_self ..), fun m => h (List.mem_cons_of_mem _ m)⟩
mutual
theorem Rp.toC {H : Hp} {φ χ : List Addr} {p : Addr} : ∀ {v : V} {d : Da}, Rp K H φ (p :: χ) v d → Rp K H (φ ++ [p]) χ v d
  | _, _, .non => .non
  | _, _, .bl b => .bl b
  | _, _, .int i => .int i
  | _, _, .str h => .str h
  | _, _, .ty n => .ty n
  | _, _, .gl x => .gl x
  | _, _, .tup h n m r => .tup h (nap n (nhd m).1) (nhd m).2 (RpL.toC r)
  | _, _, .lst h n m r => .lst h (nap n (nhd m).1) (nhd m).2 (RpL.toC r)
  | _, _, .dct h c n m r => .dct h c (nap n (nhd m).1) (nhd m).2 (RpK.toC r)
  | _, _, .obj h n m r => .obj h (nap n (nhd m).1) (nhd m).2 (RpF.toC r)
  | _, _, .klR h q n m r => .klR h q (nap n (nhd m).1) (nhd m).2 (RpL.toC r)
  | _, _, .klK h r => .klK h (RpL.toC r)
  | _, _, .ktK h r => .ktK h (RpL.toC r)
  | _, _, .cell h => .cell (by rw [List.getElem?_append_left (List.getElem?_eq_some_iff.1 h).1]; exact h)
  | _, _, .exv h n m r => .exv h (nap n (nhd m).1) (nhd m).2 (RpF.toC r)
theorem RpL.toC {H : Hp} {φ χ : List Addr} {p : Addr} : ∀ {v : List V} {d : List Da}, RpL K H φ (p :: χ) v d → RpL K H (φ ++ [p]) χ v d
  | _, _, .nil => .nil
  | _, _, .cons h r => .cons (Rp.toC h) (RpL.toC r)
theorem RpK.toC {H : Hp} {φ χ : List Addr} {p : Addr} : ∀ {v : List (Key × V)} {d : List (Key × Da)}, RpK K H φ (p :: χ) v d → RpK K H (φ ++ [p]) χ v d
  | _, _, .nil => .nil
  | _, _, .cons h r => .cons (Rp.toC h) (RpK.toC r)
theorem RpF.toC {H : Hp} {φ χ : List Addr} {p : Addr} : ∀ {v : List (Str × V)} {d : List (Str × Da)}, RpF K H φ (p :: χ) v d → RpF K H (φ ++ [p]) χ v d
  | _, _, .nil => .nil
  | _, _, .cons h r => .cons (Rp.toC h) (RpF.toC r)
end
theorem CellAt.toC {H : Hp} {φ χ : List Addr} {p a : Addr} {d : Da} (c : CellAt K H φ (p :: χ) a d) : CellAt K H (φ ++ [p]) χ a d := by
  cases d with
  | lst ds => obtain ⟨vs, q, r⟩ := c; exact ⟨vs, q, r.toC⟩
  | dct ds => obtain ⟨vs, q, r⟩ := c; exact ⟨vs, q, r.toC⟩
  | obj c ds => obtain ⟨dx, vs, q, r⟩ := c; exact ⟨dx, vs, q, r.toC⟩
  | gl x => exact c
  | _ => exact c.elim
theorem Mm.toC {H : Hp} {φ χ : List Addr} {p : Addr} {M : Mem} {d : Da} (m : Mm K H φ (p :: χ) M) (np : p ∉ φ) (nx : p ∉ χ) (c : CellAt K H φ (p :: χ) p d) : Mm K H (φ ++ [p]) χ (M ++ [d]) where
  nd := by
    rw [List.nodup_append]
    refine ⟨m.nd, by simp, fun a ha b hb q => ?_⟩
    rw [List.mem_singleton.1 hb] at q
    exact np (by rw [← q]; exact ha)
  len := by rw [List.length_append, List.length_append, m.len]; rfl
  dis := fun a ha => by
    rcases List.mem_append.1 ha with ha | ha
    · exact (nhd (m.dis a ha)).2
    · rw [List.mem_singleton.1 ha]; exact nx
  hid := fun a ha => m.hid a (List.mem_cons_of_mem _ ha)
  at_ := fun n a e e1 e2 => by
    by_cases l : n < φ.length
    · rw [List.getElem?_append_left l] at e1
      rw [List.getElem?_append_left (by rw [← m.len]; exact l)] at e2
      exact (m.at_ n a e e1 e2).toC
    · have l2 : φ.length ≤ n := Nat.le_of_not_lt l
      rw [List.getElem?_append_right l2] at e1
      rw [List.getElem?_append_right (by rw [← m.len]; exact l2)] at e2
      have z : n - φ.length = 0 := by
        have := (List.getElem?_eq_some_iff.1 e1).1
        simp at this
        omega
      rw [z] at e1
      rw [show n - M.length = 0 by rw [← m.len]; exact z] at e2
      simp at e1 e2
      rw [← e1, ← e2]
      exact c.toC
theorem E_cell (a : SN K ta ma) : SE K ta (fun W => mCell (ma W)) := ⟨fun {χ W W' σ H φ ρ M Q Q'} r m w f h => by
  refine a.run r m w (Q' := fun d M1 => match d with | .lst ds => Q' (.cell M1.length) (M1 ++ [.lst ds]) | .dct kds => Q' (.cell M1.length) (M1 ++ [.dct kds]) | _ => False) ?_ ?_ h
  · intro d M1 q
    split at q
    · rfl
    · rfl
    · exact q.elim
  · intro p d H' φ' M' A hp np nx m' c q
    have A2 : Adv H φ H' (φ' ++ [p]) := ⟨A.keep, by
      obtain ⟨ψ, e, z⟩ := A.pre
      refine ⟨ψ ++ [p], by rw [e]; simp, fun a ha => ?_⟩
      rcases List.mem_append.1 ha with ha | ha
      · exact z a ha
      · rw [List.mem_singleton.1 ha]; exact hp, A.dom⟩
    have at_ : (φ' ++ [p])[M'.length]? = some p := by
      rw [← m'.len]
      exact snoc_at _ _
    split at q
    · exact f _ _ _ (φ' ++ [p]) _ A2 (m'.toC np nx c) (.cell at_) q
    · exact f _ _ _ (φ' ++ [p]) _ A2 (m'.toC np nx c) (.cell at_) q
    · exact q.elim⟩
/-! ### statements -/
variable {ts us : WX → TS} {mt mu : WD → MS} {tt : WX → TT} {mtt : WD → MT} {tg : WX → TG} {mg : WD → MG}
def mNext : MS := fun D ρ M => D.nx ρ M
theorem S_next : SS K (fun _ => tNext) (fun _ => mNext) := ⟨fun r m w n t b c h => n _ _ _ _ _ Adv.refl r m h⟩
def mSeq (t u : MS) : MS := fun D ρ M => t { D with nx := fun ρ M => u D ρ M } ρ M
theorem S_seq (s : SS K ts mt) (u : SS K us mu) : SS K (fun W => tSeq (ts W) (us W)) (fun W => mSeq (mt W) (mu W)) := ⟨fun {χ W W' σ H φ ρ M D D'} r m w n t b c h =>
  s.run (D' := { D' with nx := fun ρ M => mu W' D' ρ M }) (D := { D with nx := us W D }) r m w (fun σ' H' φ' ρ' M' A r' m' h' => u.run r' m' (w.adv A) (n.adv A) (t.adv A) (b.adv A) (c.adv A) h') t b c h⟩
def mCut (t u : MS) : MS := fun D ρ M => ∃ Mid : Sl → Mem → Prop, t { D with nx := Mid } ρ M ∧ ∀ ρ' M', Mid ρ' M' → u D ρ' M'
theorem S_cut (s : SS K ts mt) (u : SS K us mu) : SS K (fun W => tCut (ts W) (us W)) (fun W => mCut (mt W) (mu W)) := ⟨fun {χ W W' σ H φ ρ M D D'} r m w n t b c h => by
  obtain ⟨Mid, h1, h2⟩ := h
  exact ⟨us W D, s.run (D' := { D' with nx := Mid }) (D := { D with nx := us W D }) r m w (fun σ' H' φ' ρ' M' A r' m' h' => u.run r' m' (w.adv A) (n.adv A) (t.adv A) (b.adv A) (c.adv A) (h2 _ _ h')) t b c h1, fun _ _ h => h⟩⟩
def mRet (ma : ME) : MS := fun D ρ M => ma ρ M D.rt
theorem S_ret (a : SE K ta ma) : SS K (fun W => tRet (ta W)) (fun W => mRet (ma W)) := ⟨fun r m w n t b c h => a.run r m w t h⟩
def mRetN : MS := fun D _ M => D.rt .non M
theorem S_retN : SS K (fun _ => tRetN) (fun _ => mRetN) := ⟨fun r m w n t b c h => t.pure m .non h⟩
def mIfS (c : MT) (t u : MS) : MS := fun D ρ M => c ρ M fun k M1 => if k = true then t D ρ M1 else u D ρ M1
theorem S_if (k : ST K tt mtt) (s : SS K ts mt) (u : SS K us mu) : SS K (fun W => tIfS (tt W) (ts W) (us W)) (fun W => mIfS (mtt W) (mt W) (mu W)) := ⟨fun r m w n t b c h =>
  k.run r m w (fun k H1 φ1 M1 A1 m1 h1 => by
    cases k with
    | true => exact s.run (r.adv A1) m1 (w.adv A1) (n.adv A1) (t.adv A1) (b.adv A1) (c.adv A1) h1
    | false => exact u.run (r.adv A1) m1 (w.adv A1) (n.adv A1) (t.adv A1) (b.adv A1) (c.adv A1) h1) h⟩
def mDrop (ma : ME) : MS := fun D ρ M => ma ρ M fun _ M1 => D.nx ρ M1
theorem S_drop (a : SE K ta ma) : SS K (fun W => tDrop (ta W)) (fun W => mDrop (ma W)) := ⟨fun r m w n t b c h => a.run r m w (fun v d H1 φ1 M1 A1 m1 r1 h1 => n _ _ _ _ _ A1 (r.adv A1) m1 h1) h⟩
def mAsg (ma : ME) (g : MG) : MS := fun D ρ M => ma ρ M fun x M1 => g x ρ M1 D.nx
theorem S_asg (a : SE K ta ma) (g : SG K tg mg) : SS K (fun W => tAsg (ta W) (tg W)) (fun W => mAsg (ma W) (mg W)) := ⟨fun r m w n t b c h =>
  a.run r m w (fun v d H1 φ1 M1 A1 m1 r1 h1 => g.run (r.adv A1) m1 (w.adv A1) r1 (n.adv A1) h1) h⟩
def mPar (i j : Nat) (s : MA) : MS := fun D ρ M => s ρ M fun ds M1 => match ds with
  | [x, y] => D.nx ((ρ.set i (some x)).set j (some y)) M1
  | _ => False
theorem S_par {i j : Nat} (s : SA K as ms) : SS K (fun W => tPar i j (as W)) (fun W => mPar i j (ms W)) := ⟨fun r m w n t b c h =>
  s.run r m w (fun vs ds H1 φ1 M1 A1 m1 r1 h1 => by
    split at h1
    · obtain ⟨v, u, rfl, h2, h3⟩ := r1.two
      exact ⟨v, u, rfl, n _ _ _ _ _ A1 (((r.adv A1).set h2).set h3) m1 h1⟩
    · exact h1.elim) h⟩
theorem RpL.three {H : Hp} {φ χ : List Addr} {vs : List V} {d e f : Da} (r : RpL K H φ χ vs [d, e, f]) : ∃ v w u, vs = [v, w, u] ∧ Rp K H φ χ v d ∧ Rp K H φ χ w e ∧ Rp K H φ χ u f := by
  cases r with
  | cons h r =>
    obtain ⟨w, u, rfl, q, q'⟩ := r.two
    exact ⟨_, w, u, rfl, h, q, q'⟩
def mPar3 (i j l : Nat) (s : MA) : MS := fun D ρ M => s ρ M fun ds M1 => match ds with
  | [x, y, z] => D.nx (((ρ.set i (some x)).set j (some y)).set l (some z)) M1
  | _ => False
theorem S_par3 {i j l : Nat} (s : SA K as ms) : SS K (fun W => tPar3 i j l (as W)) (fun W => mPar3 i j l (ms W)) := ⟨fun r m w n t b c h =>
  s.run r m w (fun vs ds H1 φ1 M1 A1 m1 r1 h1 => by
    split at h1
    · obtain ⟨v, u, z, rfl, h2, h3, h4⟩ := r1.three
      exact ⟨v, u, z, rfl, n _ _ _ _ _ A1 ((((r.adv A1).set h2).set h3).set h4) m1 h1⟩
    · exact h1.elim) h⟩
/-! ### what a loop walks -/
/-- from one heap to a later one, but for what is hidden -/
structure AdvX (χ : List Addr) (H : Hp) (φ : List Addr) (H' : Hp) (φ' : List Addr) : Prop where
  keep : ∀ a o, H a = some o → a ∉ φ → a ∉ χ → H' a = some o
  pre : ∃ ψ, φ' = φ ++ ψ ∧ ∀ a ∈ ψ, H a = none
theorem Adv.toX {χ : List Addr} {H H' : Hp} {φ φ' : List Addr} (A : Adv H φ H' φ') : AdvX χ H φ H' φ' := ⟨fun a o h n _ => A.keep a o h n, A.pre⟩
theorem AdvX.nin {χ : List Addr} {H H' : Hp} {φ φ' : List Addr} (A : AdvX χ H φ H' φ') {a : Addr} {o : HO} (h : H a = some o) (n : a ∉ φ) : a ∉ φ' := by
  obtain ⟨ψ, rfl, q⟩ := A.pre
  intro m
  rcases List.mem_append.1 m with m | m
  · exact n m
  · rw [q a m] at h
    cases h
theorem AdvX.at_ {χ : List Addr} {H H' : Hp} {φ φ' : List Addr} (A : AdvX χ H φ H' φ') {n : Nat} {a : Addr} (h : φ[n]? = some a) : φ'[n]? = some a := by
  obtain ⟨ψ, rfl, _⟩ := A.pre
  rw [List.getElem?_append_left (List.getElem?_eq_some_iff.1 h).1]
  exact h
section
variable {H0 H : Hp} {φ0 φ χ χ1 : List Addr}
mutual
theorem Rp.at1 (hχ : ∀ a ∈ χ1, a ∈ χ ∨ H0 a = none) (A : AdvX χ H0 φ0 H φ) : ∀ {v : V} {d : Da}, Rp K H0 φ0 χ v d → Rp K H φ χ1 v d
  | _, _, .non => .non
  | _, _, .bl b => .bl b
  | _, _, .int i => .int i
  | _, _, .str h => .str h
  | _, _, .ty n => .ty n
  | _, _, .gl x => .gl x
  | _, _, .tup h n m r => .tup (A.keep _ _ h n m) (A.nin h n) (fun q => (hχ _ q).elim m fun z => ne_of_none h z rfl) (RpL.at1 hχ A r)
  | _, _, .lst h n m r => .lst (A.keep _ _ h n m) (A.nin h n) (fun q => (hχ _ q).elim m fun z => ne_of_none h z rfl) (RpL.at1 hχ A r)
  | _, _, .dct h c n m r => .dct (A.keep _ _ h n m) c (A.nin h n) (fun q => (hχ _ q).elim m fun z => ne_of_none h z rfl) (RpK.at1 hχ A r)
  | _, _, .obj h n m r => .obj (A.keep _ _ h n m) (A.nin h n) (fun q => (hχ _ q).elim m fun z => ne_of_none h z rfl) (RpF.at1 hχ A r)
  | _, _, .klR h e n m r => .klR (A.keep _ _ h n m) e (A.nin h n) (fun q => (hχ _ q).elim m fun z => ne_of_none h z rfl) (RpL.at1 hχ A r)
  | _, _, .klK h r => .klK h (RpL.at1 hχ A r)
  | _, _, .ktK h r => .ktK h (RpL.at1 hχ A r)
  | _, _, .cell h => .cell (A.at_ h)
  | _, _, .exv h n m r => .exv (A.keep _ _ h n m) (A.nin h n) (fun q => (hχ _ q).elim m fun z => ne_of_none h z rfl) (RpF.at1 hχ A r)
theorem RpL.at1 (hχ : ∀ a ∈ χ1, a ∈ χ ∨ H0 a = none) (A : AdvX χ H0 φ0 H φ) : ∀ {v : List V} {d : List Da}, RpL K H0 φ0 χ v d → RpL K H φ χ1 v d
  | _, _, .nil => .nil
  | _, _, .cons h r => .cons (Rp.at1 hχ A h) (RpL.at1 hχ A r)
theorem RpK.at1 (hχ : ∀ a ∈ χ1, a ∈ χ ∨ H0 a = none) (A : AdvX χ H0 φ0 H φ) : ∀ {v : List (Key × V)} {d : List (Key × Da)}, RpK K H0 φ0 χ v d → RpK K H φ χ1 v d
  | _, _, .nil => .nil
  | _, _, .cons h r => .cons (Rp.at1 hχ A h) (RpK.at1 hχ A r)
theorem RpF.at1 (hχ : ∀ a ∈ χ1, a ∈ χ ∨ H0 a = none) (A : AdvX χ H0 φ0 H φ) : ∀ {v : List (Str × V)} {d : List (Str × Da)}, RpF K H0 φ0 χ v d → RpF K H φ χ1 v d
  | _, _, .nil => .nil
  | _, _, .cons h r => .cons (Rp.at1 hχ A h) (RpF.at1 hχ A r)
end
end
structure ItD where
  items : List Da
  still : Mem → Prop
abbrev MI := Sl → Mem → (ItD → Mem → Prop) → Prop
def Turns (K : PySem.W.Frag) (χ : List Addr) (J : It) (I : ItD) (H0 : Hp) (φ0 : List Addr) : Prop := ∀ H φ M χ1, (∀ a ∈ χ1, a ∈ χ ∨ H0 a = none) → AdvX χ H0 φ0 H φ → Mm K H φ χ1 M → I.still M →
  (∀ i, i < I.items.length → J.go i H ∧ ∀ x H', J.yld i H x H' → ∃ d, I.items[i]? = some d ∧ Adv H φ H' φ ∧ Mm K H' φ χ1 M ∧ Rp K H' φ χ1 x d) ∧ J.stop I.items.length H
structure SI (K : PySem.W.Frag) (wi : WX → TI) (mi : WD → MI) : Prop where
  run : ∀ {χ W W' σ H φ ρ M} {R : It → Hp → Prop} {R' : ItD → Mem → Prop}, Rs K H φ χ σ ρ → Mm K H φ χ M → FW K χ H φ W' W →
    (∀ J I H' φ' M', Adv H φ H' φ' → Mm K H' φ' χ M' → Turns K χ J I H' φ' → I.still M' → R' I M' → R J H') → mi W' ρ M R' → wi W σ H R
/-- a list, a tuple, a text -/
def itD (M : Mem) (x : Da) : Option (List Da) := match look M x with
  | .lst ds => some ds
  | .tup ds => some ds
  | .str z => some (z.cps.toList.map chS)
  | _ => none
def mAny (ma : ME) : MI := fun ρ M R => ma ρ M fun x M1 => match itD M1 x with
  | some ds => R ⟨ds, fun M2 => itD M2 x = some ds⟩ M1
  | none => False
theorem sq_inj {a : Addr} {H : Hp} {xs ys : List V} (I : True) : True := trivial
/-- what stands at a place, whichever way it is told: by the relation to one list of data -/
theorem turns_seq {χ : List Addr} {H0 : Hp} {φ0 : List Addr} {M0 : Mem} {v : V} {x : Da} {ds : List Da} (m0 : Mm K H0 φ0 χ M0) (hv : Rp K H0 φ0 χ v x) (e0 : itD M0 x = some ds) :
    ((∃ a, v = .ref a ∧ (∃ xs, SqL K H0 a xs) ∧ (∀ H φ M χ1, (∀ a ∈ χ1, a ∈ χ ∨ H0 a = none) → AdvX χ H0 φ0 H φ → Mm K H φ χ1 M → itD M x = some ds → ∃ vs, SqL K H a vs ∧ RpL K H φ χ1 vs ds)) ∨
     (∃ a, v = .ref a ∧ (∃ xs, SqT K H0 a xs) ∧ (∀ H φ M χ1, (∀ a ∈ χ1, a ∈ χ ∨ H0 a = none) → AdvX χ H0 φ0 H φ → Mm K H φ χ1 M → itD M x = some ds → ∃ vs, SqT K H a vs ∧ RpL K H φ χ1 vs ds)) ∨
     ∃ z, v = .str z ∧ ds = z.cps.toList.map chS) := by
  have e := e0
  unfold itD at e
  split at e
  · rename_i es q
    cases e
    obtain ⟨a, vs, rfl, hs, r⟩ := vL m0 hv q
    refine .inl ⟨a, rfl, ⟨vs, hs⟩, fun H φ M χ1 hχ A m e1 => ?_⟩
    have h1 := Rp.at1 hχ A hv
    unfold itD at e1
    split at e1
    · rename_i fs q1
      cases e1
      obtain ⟨b, ws, e, hs, r⟩ := vL m h1 q1
      cases e
      exact ⟨ws, hs, r⟩
    · rename_i fs q1
      -- a list is no tuple: the same datum
      exfalso
      cases x <;> first | (cases q; done) | (cases q1; done) | skip
      · cases h1 with
        | cell h =>
          obtain ⟨d, e1', _, c⟩ := m.look h
          have e2 : M.getD _ (.gl "") = Da.tup _ := q1
          rw [e1'] at e2
          subst e2
          exact c
    · rename_i z q1
      exfalso
      obtain ⟨e, _⟩ := vS m h1 q1
      cases e
    · cases e1
  · rename_i es q
    cases e
    obtain ⟨a, vs, rfl, hs, r⟩ := vT m0 hv q
    refine .inr (.inl ⟨a, rfl, ⟨vs, hs⟩, fun H φ M χ1 hχ A m e1 => ?_⟩)
    have h1 := Rp.at1 hχ A hv
    unfold itD at e1
    split at e1
    · rename_i fs q1
      exfalso
      cases x <;> first | (cases q; done) | (cases q1; done) | skip
      · cases hv with
        | cell h =>
          obtain ⟨d, e1', _, c⟩ := m0.look h
          have e2 : M0.getD _ (.gl "") = Da.tup _ := q
          rw [e1'] at e2
          subst e2
          exact c
    · rename_i fs q1
      cases e1
      obtain ⟨b, ws, e, hs, r⟩ := vT m h1 q1
      cases e
      exact ⟨ws, hs, r⟩
    · rename_i z q1
      exfalso
      obtain ⟨e, _⟩ := vS m h1 q1
      cases e
    · cases e1
  · rename_i z q
    cases e
    obtain ⟨rfl, _⟩ := vS m0 hv q
    exact .inr (.inr ⟨z, rfl, rfl⟩)
  · cases e
theorem I_seq (a : SE K ta ma) : SI K (fun W => iSeq K (ta W)) (fun W => mAny (ma W)) := ⟨fun {χ W W' σ H φ ρ M R R'} r m w f h => by
  refine a.run r m w (fun v x H1 φ1 M1 A1 m1 r1 h1 => ?_) h
  split at h1
  · rename_i ds e
    rcases turns_seq m1 r1 e with ⟨a, rfl, hx, t⟩ | ⟨a, rfl, hx, t⟩ | ⟨z, rfl, rfl⟩
    · refine .inl ⟨a, rfl, hx, f _ _ _ _ _ A1 m1 ?_ e h1⟩
      intro H φ M χ1 hχ A m st
      obtain ⟨vs, hs, rl⟩ := t H φ M χ1 hχ A m st
      refine ⟨fun i hi => ⟨?_, ?_⟩, ⟨vs, hs, Nat.le_of_eq rl.len⟩⟩
      · obtain ⟨v, hv, _⟩ := rl.get (i := i) (d := ds[i]) (by simp)
        exact ⟨vs, v, hs, hv⟩
      · rintro x H' ⟨rfl, y⟩
        obtain ⟨d, hd, rd⟩ := rl.get' (y vs hs)
        exact ⟨d, hd, Adv.refl, m, rd⟩
    · refine .inr (.inl ⟨a, rfl, hx, f _ _ _ _ _ A1 m1 ?_ e h1⟩)
      intro H φ M χ1 hχ A m st
      obtain ⟨vs, hs, rl⟩ := t H φ M χ1 hχ A m st
      refine ⟨fun i hi => ⟨?_, ?_⟩, ⟨vs, hs, Nat.le_of_eq rl.len⟩⟩
      · obtain ⟨v, hv, _⟩ := rl.get (i := i) (d := ds[i]) (by simp)
        exact ⟨vs, v, hs, hv⟩
      · rintro x H' ⟨rfl, y⟩
        obtain ⟨d, hd, rd⟩ := rl.get' (y vs hs)
        exact ⟨d, hd, Adv.refl, m, rd⟩
    · refine .inr (.inr ⟨z, rfl, f _ _ _ _ _ A1 m1 ?_ e h1⟩)
      intro H φ M χ1 hχ A m st
      have hl : (z.cps.toList.map chS).length = z.cps.size := by simp
      refine ⟨fun i hi => ⟨by show i < z.cps.size; rw [← hl]; exact hi, ?_⟩, by show z.cps.size ≤ _; rw [hl]; exact Nat.le_refl _⟩
      rintro x H' ⟨rfl, c, hc, rfl⟩
      refine ⟨chS c, ?_, Adv.refl, m, .ch c⟩
      show (List.map chS z.cps.toList)[i]? = _
      rw [List.getElem?_map, Array.getElem?_toList, hc]
      rfl
  · exact h1.elim⟩
def rngD (lo : Int) (n : Nat) : List Da := (List.range n).map fun (k : Nat) => .int (lo + (k : Int))
theorem rngD_len (lo : Int) (n : Nat) : (rngD lo n).length = n := by simp [rngD]
theorem turns_rng {χ : List Addr} {H0 : Hp} {φ0 : List Addr} (lo : Int) (n : Nat) : Turns K χ (Itr lo n) ⟨rngD lo n, fun _ => True⟩ H0 φ0 := fun H φ M χ1 hχ A m _ => by
  refine ⟨fun i hi => ⟨by show i < n; rw [← rngD_len lo n]; exact hi, ?_⟩, by show n ≤ (rngD lo n).length; rw [rngD_len]; exact Nat.le_refl _⟩
  rintro x H' ⟨rfl, rfl⟩
  have hi' : i < n := by rw [← rngD_len lo n]; exact hi
  exact ⟨.int (lo + i), by simp [rngD, hi'], Adv.refl, m, .int _⟩
def mRng1 (s : MA) : MI := fun ρ M R => s ρ M fun ds M1 => match ds with
  | [.int j] => -(2 ^ 62) ≤ j ∧ j < 2 ^ 62 ∧ R ⟨rngD 0 j.toNat, fun _ => True⟩ M1
  | _ => False
theorem I_rng1 (s : SA K as ms) : SI K (fun W => iRng1 (as W)) (fun W => mRng1 (ms W)) := ⟨fun {χ W W' σ H φ ρ M R R'} r m w f h => by
  refine s.run r m w (fun vs ds H1 φ1 M1 A1 m1 r1 h1 => ?_) h
  split at h1
  · obtain ⟨v, rfl, h2⟩ := r1.one
    obtain rfl := vInt h2
    exact ⟨_, rfl, h1.1, h1.2.1, f _ _ _ _ _ A1 m1 (turns_rng 0 _) trivial h1.2.2⟩
  · exact h1.elim⟩
def mRng2 (s : MA) : MI := fun ρ M R => s ρ M fun ds M1 => match ds with
  | [.int i, .int j] => (-(2 ^ 62) ≤ i ∧ i < 2 ^ 62 ∧ -(2 ^ 62) ≤ j ∧ j < 2 ^ 62) ∧ R ⟨rngD i (j - i).toNat, fun _ => True⟩ M1
  | _ => False
theorem I_rng2 (s : SA K as ms) : SI K (fun W => iRng2 (as W)) (fun W => mRng2 (ms W)) := ⟨fun {χ W W' σ H φ ρ M R R'} r m w f h => by
  refine s.run r m w (fun vs ds H1 φ1 M1 A1 m1 r1 h1 => ?_) h
  split at h1
  · obtain ⟨v, u, rfl, h2, h3⟩ := r1.two
    obtain rfl := vInt h2
    obtain rfl := vInt h3
    exact ⟨_, _, rfl, h1.1, f _ _ _ _ _ A1 m1 (turns_rng _ _) trivial h1.2⟩
  · exact h1.elim⟩
/-! ### for -/
/-- later cells and some slots are forgotten -/
def Wk (n : Nat) (ρ : Sl) (M : Mem) (ρ' : Sl) (M' : Mem) : Prop := (ρ' = ρ ∧ M' = M) ∨ (n ≤ M.length ∧ M' = M.take n ∧ cloL n M' = true ∧ slClo n ρ ρ')
theorem Wk.run {n : Nat} {χ : List Addr} {H0 H : Hp} {φ0 φ : List Addr} {σ : L2.St} {ρ ρ' : Sl} {M M' : Mem} (k : Wk n ρ M ρ' M') (hn : φ0.length ≤ n) (A : Adv H0 φ0 H φ) (r : Rs K H φ χ σ ρ) (m : Mm K H φ χ M) :
    ∃ φ', Adv H0 φ0 H φ' ∧ Rs K H φ' χ σ ρ' ∧ Mm K H φ' χ M' := by
  rcases k with ⟨rfl, rfl⟩ | ⟨h1, rfl, h2, h3⟩
  · exact ⟨φ, A, r, m⟩
  · exact ⟨φ.take n, A.cut hn, r.cut h3, m.cut h2⟩
def forL (still : Mem → Prop) (g : MG) (tb : MS) (D : En) (n : Nat) : List Da → Sl → Mem → Prop
  | [], ρ, M => D.nx ρ M
  | d :: ds, ρ, M => g d ρ M fun ρ1 M1 => tb { nx := fun ρ2 M2 => ∃ ρ3 M3, Wk n ρ2 M2 ρ3 M3 ∧ still M3 ∧ forL still g tb D n ds ρ3 M3, rt := D.rt, bk := D.nx, ct := fun ρ2 M2 => ∃ ρ3 M3, Wk n ρ2 M2 ρ3 M3 ∧ still M3 ∧ forL still g tb D n ds ρ3 M3 } ρ1 M1
def mFor (mi : MI) (g : MG) (tb : MS) : MS := fun D ρ M => mi ρ M fun I M1 => forL I.still g tb D M1.length I.items ρ M1
theorem S_for {wi : WX → TI} {mi : WD → MI} (i : SI K wi mi) (g : SG K tg mg) (s : SS K ts mt) : SS K (fun W => tFor (wi W) (tg W) (ts W)) (fun W => mFor (mi W) (mg W) (mt W)) := ⟨fun {χ W W' σ H φ ρ M D D'} r m w n t b c h => by
  refine i.run r m w (fun J I H0 φ0 M0 A0 m0 T st h1 => ?_) h
  let Inv : Nat → Nat → L2.St → Hp → Prop := fun k j σ1 H1 => ∃ φ1 ρ1 M1, k + j = I.items.length ∧ Adv H0 φ0 H1 φ1 ∧ Rs K H1 φ1 χ σ1 ρ1 ∧ Mm K H1 φ1 χ M1 ∧ I.still M1 ∧ forL I.still (mg W') (mt W') D' M0.length (I.items.drop k) ρ1 M1
  refine ⟨Inv, ⟨I.items.length, φ0, ρ, M0, by omega, Adv.refl, r.adv A0, m0, st, by rw [List.drop_zero]; exact h1⟩, ?_⟩
  rintro k j σ1 H1 ⟨φ1, ρ1, M1, hk, A1, r1, m1, st1, q⟩
  obtain ⟨go, stop⟩ := T H1 φ1 M1 χ (fun a h => .inl h) A1.toX m1 st1
  cases e : I.items.drop k with
  | nil =>
    have hl : I.items.length ≤ k := by
      have := congrArg List.length e
      rw [List.length_drop] at this
      simp at this
      omega
    have : k = I.items.length := by omega
    subst this
    rw [e] at q
    exact .inl ⟨stop, n _ _ _ _ _ (A0.trans A1) r1 m1 q⟩
  | cons d ds =>
    have hl : k < I.items.length := by
      have := congrArg List.length e
      rw [List.length_drop] at this
      simp at this
      omega
    have ed : I.items[k]? = some d := by
      have := congrArg (fun l => l[0]?) e
      simpa using this
    have eds : I.items.drop (k + 1) = ds := by
      have := congrArg List.tail e
      simpa using this
    rw [e] at q
    obtain ⟨g1, y1⟩ := go k hl
    refine .inr ⟨g1, fun σ' H' => ∃ φ' ρ' M', Adv H0 φ0 H' φ' ∧ Rs K H' φ' χ σ' ρ' ∧ Mm K H' φ' χ M' ∧ I.still M' ∧ forL I.still (mg W') (mt W') D' M0.length ds ρ' M', ?_, ?_⟩
    · rintro σ' H' ⟨φ', ρ', M', a1, a2, a3, a4, a5⟩
      exact ⟨j - 1, by omega, φ', ρ', M', by omega, a1, a2, a3, a4, by rw [eds]; exact a5⟩
    · intro x H2 y
      obtain ⟨d', hd', A2, m2, rx⟩ := y1 x H2 y
      rw [ed] at hd'
      cases hd'
      have A02 := A1.trans A2
      have wk : ∀ {σ' H' φ' ρ' M'}, Adv H0 φ0 H' φ' → Rs K H' φ' χ σ' ρ' → Mm K H' φ' χ M' → (∃ ρ3 M3, Wk M0.length ρ' M' ρ3 M3 ∧ I.still M3 ∧ forL I.still (mg W') (mt W') D' M0.length ds ρ3 M3) →
          ∃ φ' ρ' M', Adv H0 φ0 H' φ' ∧ Rs K H' φ' χ σ' ρ' ∧ Mm K H' φ' χ M' ∧ I.still M' ∧ forL I.still (mg W') (mt W') D' M0.length ds ρ' M' := by
        rintro σ' H' φ' ρ' M' A r m ⟨ρ3, M3, k, s3, q3⟩
        obtain ⟨φ3, A3, r3, m3⟩ := k.run (Nat.le_of_eq m0.len) A r m
        exact ⟨φ3, ρ3, M3, A3, r3, m3, s3, q3⟩
      refine g.run (r1.adv A2) m2 (w.adv (A0.trans A02)) rx (fun σ3 H3 φ3 ρ3 M3 A3 r3 m3 h3 => ?_) q
      let N' : Sl → Mem → Prop := fun ρ2 M2 => ∃ ρ3 M3, Wk M0.length ρ2 M2 ρ3 M3 ∧ I.still M3 ∧ forL I.still (mg W') (mt W') D' M0.length ds ρ3 M3
      refine s.run (D' := { nx := N', rt := D'.rt, bk := D'.nx, ct := N' }) r3 m3 (w.adv (A0.trans (A02.trans A3))) ?_ (t.adv (A0.trans (A02.trans A3))) ?_ ?_ h3
      · exact fun σ4 H4 φ4 ρ4 M4 A4 r4 m4 h4 => wk ((A02.trans A3).trans A4) r4 m4 h4
      · exact fun σ4 H4 φ4 ρ4 M4 A4 r4 m4 h4 => n _ _ _ _ _ (A0.trans ((A02.trans A3).trans A4)) r4 m4 h4
      · exact fun σ4 H4 φ4 ρ4 M4 A4 r4 m4 h4 => wk ((A02.trans A3).trans A4) r4 m4 h4⟩
end
end Z

/-! T8: comprehensions, calls, the def's end, try -/
namespace Z
open PySem PySem.Spec PyProof.Rows L2 Evl
section
variable {K : PySem.W.Frag} {ta tb : WX → TE} {ma mb : WD → ME} {as as' : WX → TA} {ms ms' : WD → MA} {ts us : WX → TS} {mt mu : WD → MS} {tt : WX → TT} {mtt : WD → MT}
/-! ### comprehensions -/
def wipeD (ρ : Sl) : List Nat → Sl
  | [] => ρ
  | v :: vs => (wipeD ρ vs).set v none
theorem Rs.wipe {H : Hp} {φ χ : List Addr} {σ : L2.St} {ρ : Sl} (r : Rs K H φ χ σ ρ) : ∀ vs : List Nat, Rs K H φ χ (wipe σ vs) (wipeD ρ vs)
  | [] => r
  | _ :: vs => (r.wipe vs).gone
theorem wipe_set {σ : L2.St} {i : Nat} {x : Option V} : ∀ {vs : List Nat}, i ∈ vs → wipe (σ.set i x) vs = wipe σ vs
  | [], h => by cases h
  | v :: vs, h => by
    unfold L2.wipe
    by_cases m : i ∈ vs
    · rw [wipe_set m]
    · have e : i = v := (List.mem_cons.1 h).elim id fun q => absurd q m
      subst e
      have c : ∀ {vs : List Nat}, i ∉ vs → L2.wipe (σ.set i x) vs = (L2.wipe σ vs).set i x := by
        intro vs
        induction vs with
        | nil => intro _; rfl
        | cons u us ih =>
          intro h
          unfold L2.wipe
          rw [ih (fun q => h (List.mem_cons_of_mem _ q)), List.set_comm]
          exact fun q => h (by rw [q]; exact List.mem_cons_self ..)
      rw [c m, List.set_set]
theorem wipe_wipe {σ : L2.St} : ∀ (vs : List Nat), wipe (wipe σ vs) vs = wipe σ vs := by
  have go : ∀ (us vs : List Nat), (∀ u ∈ us, u ∈ vs) → wipe (wipe σ us) vs = wipe σ vs := by
    intro us
    induction us with
    | nil => intro vs _; rfl
    | cons u us ih =>
      intro vs h
      show wipe ((wipe σ us).set u none) vs = _
      rw [wipe_set (h u (List.mem_cons_self ..))]
      exact ih vs fun w hw => h w (List.mem_cons_of_mem _ hw)
  exact fun vs => go vs vs fun _ h => h
/-- targets of a comprehension: they change the slots vs alone -/
structure SV (K : PySem.W.Frag) (vs : List Nat) (g : TG) (mg : MG) : Prop where
  run : ∀ {χ σ H φ ρ M v d} {Q : L2.St → Hp → Prop} {Q' : Sl → Mem → Prop}, Rs K H φ χ σ ρ → Mm K H φ χ M → Rp K H φ χ v d → (∀ σ' H' φ' ρ' M', Adv H φ H' φ' → Rs K H' φ' χ σ' ρ' → Mm K H' φ' χ M' → wipe σ' vs = wipe σ vs → Q' ρ' M' → Q σ' H') → mg d ρ M Q' → g v σ H Q
structure SVs (K : PySem.W.Frag) (vs : List Nat) (g : TGs) (mg : MGs) : Prop where
  run : ∀ {χ σ H φ ρ M v d} {Q : L2.St → Hp → Prop} {Q' : Sl → Mem → Prop}, Rs K H φ χ σ ρ → Mm K H φ χ M → RpL K H φ χ v d → (∀ σ' H' φ' ρ' M', Adv H φ H' φ' → Rs K H' φ' χ σ' ρ' → Mm K H' φ' χ M' → wipe σ' vs = wipe σ vs → Q' ρ' M' → Q σ' H') → mg d ρ M Q' → g v σ H Q
theorem V_name {vs : List Nat} (i : Nat) (h : i ∈ vs) : SV K vs (gName i) (hName i) := ⟨fun r m rv f q => f _ _ _ _ _ Adv.refl (r.set rv) m (wipe_set h) q⟩
theorem V_nil {vs : List Nat} : SVs K vs gNil hNil := ⟨fun r m rv f h => by
  obtain ⟨rfl, h⟩ := h
  cases rv
  exact ⟨rfl, f _ _ _ _ _ Adv.refl r m rfl h⟩⟩
theorem V_cons {vs : List Nat} {g : TG} {mg : MG} {gs : TGs} {mgs : MGs} (a : SV K vs g mg) (b : SVs K vs gs mgs) : SVs K vs (gCons g gs) (hCons mg mgs) := ⟨fun r m rv f h => by
  unfold hCons at h
  split at h
  · cases rv with
    | cons h1 r1 =>
      exact ⟨_, _, rfl, a.run r m h1 (fun σ' H' φ' ρ' M' A r' m' e' h' => b.run r' m' (r1.adv A) (fun σ2 H2 φ2 ρ2 M2 A2 r2 m2 e2 h2 => f _ _ _ _ _ (A.trans A2) r2 m2 (e2.trans e') h2) h') h⟩
  · exact h.elim⟩
theorem V_tup {vs : List Nat} {n : Nat} {gs : TGs} {mgs : MGs} (s : SVs K vs gs mgs) : SV K vs (gTup K n gs) (hTup n mgs) := ⟨fun r m rv f h => by
  unfold hTup at h
  split at h
  · rename_i ds e
    obtain ⟨a, ws, rfl, hs, rl⟩ := vT m rv e
    exact ⟨a, ws, rfl, hs, by rw [rl.len]; exact h.1, s.run r m rl f h.2⟩
  · exact h.elim⟩
def lcL (still : Mem → Prop) (g : MG) (tt : MT) (te : ME) (vs : List Nat) (ρ : Sl) : List Da → List Da → Mem → TK → Prop
  | [], acc, M, Q => Q (.lst acc) M
  | d :: ds, acc, M, Q => g d (wipeD ρ vs) M fun ρ2 M2 => tt ρ2 M2 fun b M3 => if b = true then te ρ2 M3 fun y M4 => still M4 ∧ lcL still g tt te vs ρ ds (acc ++ [y]) M4 Q else still M3 ∧ lcL still g tt te vs ρ ds acc M3 Q
def mLc (mi : MI) (g : MG) (tt : MT) (te : ME) (vs : List Nat) : ME := fun ρ M Q => mi ρ M fun I M1 => I.items.length ≤ 1000000 ∧ lcL I.still g tt te vs ρ I.items [] M1 Q
def W0 : WX := fun _ _ _ _ => False
def WD0 : WD := fun _ _ _ _ => False
theorem FW0 {χ φ : List Addr} {H : Hp} {W : WX} : FW K χ H φ WD0 W := fun _ _ _ _ _ _ _ _ _ _ _ _ _ _ _ _ h => h.elim
theorem E_lc {wi : WX → TI} {mi : WD → MI} {g : TG} {mg : MG} {tt : TT} {mt : MT} {te : TE} {me : ME} {vs : List Nat} (i : SI K wi mi) (v : SV K vs g mg) (t : ST K (fun _ => tt) (fun _ => mt)) (e : SE K (fun _ => te) (fun _ => me)) :
    SE K (fun W => tLc (wi W) g tt te vs) (fun W => mLc (mi W) mg mt me vs) := ⟨fun {χ W W' σ H φ ρ M Q Q'} r m w f h => by
  refine i.run r m w (fun J I H0 φ0 M0 A0 m0 T st h1 => ?_) h
  obtain ⟨hlen, h1⟩ := h1
  intro D hD
  have nD : D ∉ φ0 := m0.nin hD
  have hχ : ∀ a ∈ D :: χ, a ∈ χ ∨ H0 a = none := hidden hD
  have AD : Adv H0 φ0 (upd H0 D (.lst [])) φ0 := Adv.new hD
  have inD : D ∈ D :: χ := List.mem_cons_self ..
  let Inv : Nat → Nat → Hp → Prop := fun k j H1 => ∃ φ1 M1 vs1 acc, k + j = I.items.length ∧ Adv (upd H0 D (.lst [])) φ0 (upd H1 D (.lst [])) φ1 ∧ D ∉ φ1 ∧ Mm K H1 φ1 (D :: χ) M1 ∧ Rs K H1 φ1 (D :: χ) σ ρ ∧ I.still M1 ∧ H1 D = some (.lst vs1) ∧ RpL K H1 φ1 (D :: χ) vs1 acc ∧ acc.length ≤ k ∧
    lcL I.still mg mt me vs ρ (I.items.drop k) acc M1 Q'
  -- what stays true of the rest of the heap while the new list grows
  have shift : ∀ {H1 H2 : Hp} {φ1 φ2 : List Addr} {vs1 vs2 : List V}, H1 D = some (.lst vs1) → D ∉ φ1 → Adv (upd H0 D (.lst [])) φ0 (upd H1 D (.lst [])) φ1 → Adv H1 φ1 H2 φ2 → Adv (upd H0 D (.lst [])) φ0 (upd (upd H2 D (.lst vs2)) D (.lst [])) φ2 := by
    intro H1 H2 φ1 φ2 vs1 vs2 hd n1 A B
    rw [upd_upd]
    have n2 : D ∉ φ2 := B.nin hd n1
    refine A.trans ⟨fun a o e n => ?_, ?_, fun a e => ?_⟩
    · by_cases q : a = D
      · subst q
        rw [upd_same] at e ⊢
        exact e
      · rw [upd_ne q] at e ⊢
        exact B.keep a o e n
    · obtain ⟨ψ, e, q⟩ := B.pre
      refine ⟨ψ, e, fun a ha => ?_⟩
      have na : a ≠ D := fun z => n2 (by rw [e, ← z]; exact List.mem_append_right _ ha)
      rw [upd_ne na]
      exact q a ha
    · by_cases q : a = D
      · subst q
        rw [upd_same]
        simp
      · rw [upd_ne q] at e ⊢
        exact B.dom a e
  have full : ∀ {H1 : Hp} {φ1 : List Addr}, Adv (upd H0 D (.lst [])) φ0 (upd H1 D (.lst [])) φ1 → H1 D ≠ none → Adv H0 φ0 H1 φ1 := by
    intro H1 φ1 A hd
    refine ⟨fun a o e n => ?_, ?_, fun a e => ?_⟩
    · have na : a ≠ D := ne_of_none e hD
      have := A.keep a o (by rw [upd_ne na]; exact e) n
      rw [upd_ne na] at this
      exact this
    · obtain ⟨ψ, e, q⟩ := A.pre
      refine ⟨ψ, e, fun a ha => ?_⟩
      have z := q a ha
      by_cases na : a = D
      · rw [na]; exact hD
      · rw [upd_ne na] at z; exact z
    · by_cases na : a = D
      · rw [na]; exact hd
      · have := A.dom a (by rw [upd_ne na]; exact e)
        rw [upd_ne na] at this
        exact this
  refine ⟨Inv, ⟨I.items.length, φ0, M0, [], [], by omega, by rw [upd_upd]; exact Adv.refl, nD, m0.hideN hD, (r.adv A0).hideN hD, st, upd_same, .nil, Nat.le_refl _, by rw [List.drop_zero]; exact h1⟩, ?_⟩
  rintro k j H1 ⟨φ1, M1, vs1, acc, hk, A1, n1, m1, r1, st1, hd1, ra, la, q⟩
  have A01 : Adv H0 φ0 H1 φ1 := full A1 (by rw [hd1]; simp)
  obtain ⟨go, stop⟩ := T H1 φ1 M1 (D :: χ) hχ A01.toX m1 st1
  cases e2 : I.items.drop k with
  | nil =>
    have hl : I.items.length ≤ k := by
      have := congrArg List.length e2
      rw [List.length_drop] at this
      simp at this
      omega
    have : k = I.items.length := by omega
    subst this
    rw [e2] at q
    refine .inl ⟨stop, f _ _ _ φ1 _ (A0.trans A01) m1.bare (.lst hd1 n1 (fun c => m0.hid D c hD) ra.bare) q⟩
  | cons d ds =>
    have hl : k < I.items.length := by
      have := congrArg List.length e2
      rw [List.length_drop] at this
      simp at this
      omega
    have ed : I.items[k]? = some d := by
      have := congrArg (fun l => l[0]?) e2
      simpa using this
    have eds : I.items.drop (k + 1) = ds := by
      have := congrArg List.tail e2
      simpa using this
    rw [e2] at q
    obtain ⟨g1, y1⟩ := go k hl
    refine .inr ⟨g1, fun H' => ∃ φ' M' vs' acc', Adv (upd H0 D (.lst [])) φ0 (upd H' D (.lst [])) φ' ∧ D ∉ φ' ∧ Mm K H' φ' (D :: χ) M' ∧ Rs K H' φ' (D :: χ) σ ρ ∧ I.still M' ∧ H' D = some (.lst vs') ∧ RpL K H' φ' (D :: χ) vs' acc' ∧ acc'.length ≤ k + 1 ∧
      lcL I.still mg mt me vs ρ ds acc' M' Q', ?_, ?_⟩
    · rintro H' ⟨φ', M', vs', acc', a1, a2, a3, a4, a5, a6, a7, a8, a9⟩
      exact ⟨j - 1, by omega, φ', M', vs', acc', by omega, a1, a2, a3, a4, a5, a6, a7, a8, by rw [eds]; exact a9⟩
    · intro x H2 y
      obtain ⟨d', hd', A2, m2, rx⟩ := y1 x H2 y
      rw [ed] at hd'
      cases hd'
      refine v.run ((r1.adv A2).wipe vs) m2 rx (fun σ3 H3 φ3 ρ3 M3 A3 r3 m3 e3 h3 => ⟨e3.trans (wipe_wipe vs), ?_⟩) q
      refine t.run (W := W0) r3 m3 FW0 (fun b H4 φ4 M4 A4 m4 h4 => ?_) h3
      have A14 := (A2.trans A3).trans A4
      have hd4 : H4 D = some (.lst vs1) := A14.keep D _ hd1 n1
      have n4 : D ∉ φ4 := A14.nin hd1 n1
      cases b with
      | false =>
        refine iteF ?_
        obtain ⟨s4, q4⟩ := h4
        have sh := shift (vs2 := vs1) hd1 n1 A1 A14
        rw [show upd (upd H4 D (.lst vs1)) D (.lst []) = upd H4 D (.lst []) from upd_upd] at sh
        exact ⟨φ4, M4, vs1, acc, sh, n4, m4, r1.adv A14, s4, hd4, ra.adv A14, by omega, q4⟩
      | true =>
        refine iteT ?_
        refine e.run (W := W0) (r3.adv A4) m4 FW0 (fun u z H5 φ5 M5 A5 m5 r5 h5 => ?_) h4
        obtain ⟨s5, q5⟩ := h5
        have A15 := A14.trans A5
        have hd5 : H5 D = some (.lst vs1) := A15.keep D _ hd1 n1
        have n5 : D ∉ φ5 := A15.nin hd1 n1
        refine ⟨vs1, hd5, ?_, φ5, M5, vs1 ++ [u], acc ++ [z], shift hd1 n1 A1 A15, n5, m5.updH inD, (r1.adv A15).updH inD, s5, upd_same, ((ra.adv A15).app (.cons r5 .nil)).at_ inD, ?_, q5⟩
        · rw [ra.len, sizeLine_eq]
          omega
        · rw [List.length_append]
          simp
          omega⟩
end
end Z

/-! T10: enumerate, list.count, list.index, list * int over data -/
namespace Z
open PySem PySem.Spec PyProof.Rows L2 Evl
section
variable {K : PySem.W.Frag} {H : Hp} {φ χ : List Addr} {M : Mem}
theorem mapEq_of {x : V} {dx : Da} (hx : Rp K H [] [] x dx) (px : pd dx) {vs : List V} {ds : List Da} (p : pdL ds) (r : RpL K H φ χ vs ds) : ∃ g : V → Bool, (∀ z ∈ vs, EqI K H 60 z x (g z)) ∧ vs.map g = ds.map fun z => eqD z dx := by
  have item : ∀ {z : V} {d : Da}, plD d = true → dpD d ≤ 59 → Rp K H φ χ z d → EqI K H 60 z x (eqD d dx) := fun p1 p2 r => eqI_of p1 px.1 p2 px.2 (Rp.weak p1 r) hx
  have one : ∀ {z : V} {d e : Da}, plD d = true → plD e = true → Rp K H φ χ z d → Rp K H φ χ z e → d = e := fun p1 p2 r1 r2 => Rp.det p1 p2 r1 r2
  classical
  refine ⟨fun z => if h : ∃ d ∈ ds, Rp K H φ χ z d then eqD h.choose dx else false, fun z hz => ?_, ?_⟩
  · obtain ⟨d, hd, rd⟩ := r.mem z hz
    have h : ∃ d ∈ ds, Rp K H φ χ z d := ⟨d, hd, rd⟩
    show EqI K H 60 z x (if h : ∃ d ∈ ds, Rp K H φ χ z d then eqD h.choose dx else false)
    rw [dif_pos h]
    exact item (plL_mem p.1 _ h.choose_spec.1) (Nat.le_trans (dpL_mem h.choose_spec.1) p.2) h.choose_spec.2
  · have go : ∀ {us : List V} {es : List Da}, (∀ e ∈ es, e ∈ ds) → RpL K H φ χ us es → (us.map fun z => if h : ∃ d ∈ ds, Rp K H φ χ z d then eqD h.choose dx else false) = es.map fun z => eqD z dx := by
      intro us es hs r
      induction us generalizing es with
      | nil => cases r; rfl
      | cons u us ih =>
        cases r with
        | cons h1 r1 =>
          rename_i d es
          rw [List.map_cons, List.map_cons]
          have h : ∃ d ∈ ds, Rp K H φ χ u d := ⟨d, hs d (List.mem_cons_self ..), h1⟩
          rw [dif_pos h, one (plL_mem p.1 _ h.choose_spec.1) (plL_mem p.1 _ (hs d (List.mem_cons_self ..))) h.choose_spec.2 h1]
          congr 1
          exact ih (fun e he => hs e (List.mem_cons_of_mem _ he)) r1
    exact go (fun e he => he) r
theorem countP_map_id {α : Type} (g : α → Bool) (l : List α) : l.countP g = (l.map g).countP id := by
  rw [List.countP_map]
  rfl
theorem findIdx_map_id {α : Type} (g : α → Bool) (l : List α) : l.findIdx? g = (l.map g).findIdx? id := by
  rw [List.findIdx?_map]
  rfl
def nCount : Da → List Da → Mem → TK → Prop := fun x ds M Q => match look M x, ds with
  | .lst es, [y] => pdL es ∧ pd (lookE M y) ∧ Q (.int (es.countP fun z => eqD z (lookE M y) : Nat)) M
  | _, _ => False
def nIndex : Da → List Da → Mem → TK → Prop := fun x ds M Q => match look M x, ds with
  | .lst es, [y] => pdL es ∧ pd (lookE M y) ∧ ∃ j : Nat, es.findIdx? (fun z => eqD z (lookE M y)) = some j ∧ Q (.int (j : Nat)) M
  | _, _ => False
theorem M_count : SMr K (rCountG K) nCount := by
  intro χ H φ M x dx xs dxs Q Q' m hx hxs f h
  unfold nCount at h
  split at h
  · rename_i es y e
    obtain ⟨u, rfl, h1⟩ := hxs.one
    obtain ⟨a, vs, rfl, hs, r⟩ := vL m hx e
    obtain ⟨p1, p2, q⟩ := h
    obtain ⟨g, hg, e1⟩ := mapEq_of (weakE m h1 p2.1) p2 p1 r
    refine ⟨a, vs, u, g, rfl, rfl, hs, hg, ?_⟩
    rw [countP_map_id, e1, ← countP_map_id]
    exact f.pure m (.int _) q
  · exact h.elim
theorem M_index : SMr K (rIndexG K) nIndex := by
  intro χ H φ M x dx xs dxs Q Q' m hx hxs f h
  unfold nIndex at h
  split at h
  · rename_i es y e
    obtain ⟨u, rfl, h1⟩ := hxs.one
    obtain ⟨a, vs, rfl, hs, r⟩ := vL m hx e
    obtain ⟨p1, p2, j, hj, q⟩ := h
    obtain ⟨g, hg, e1⟩ := mapEq_of (weakE m h1 p2.1) p2 p1 r
    refine ⟨a, vs, u, g, j, rfl, rfl, hs, hg, ?_, f.pure m (.int _) q⟩
    rw [findIdx_map_id, e1, ← findIdx_map_id]
    exact hj
  · exact h.elim
/-! a starred item of a display -/
def mStar (ma : ME) (ms : MA) : MA := fun ρ M Q => ma ρ M fun x M1 => match look M1 x with
  | .lst ds => ms ρ M1 fun xs M2 => Q (ds ++ xs) M2
  | .tup ds => ms ρ M1 fun xs M2 => Q (ds ++ xs) M2
  | _ => False
theorem E_star {te : WX → TE} {me : WD → ME} {ms : WD → MA} {as : WX → TA} (a : SE K te me) (s : SA K as ms) : SA K (fun W => StX.tStar K (te W) (as W)) (fun W => mStar (me W) (ms W)) := ⟨fun r m w f h =>
  a.run r m w (fun v d H1 φ1 M1 A1 m1 r1 h1 => by
    split at h1
    · rename_i ds e
      obtain ⟨p, vs, rfl, hs, rl⟩ := vL m1 r1 e
      exact ⟨p, vs, rfl, .inr hs, s.run (r.adv A1) m1 (w.adv A1) (fun ws es H2 φ2 M2 A2 m2 r2 h2 => f _ _ _ _ _ (A1.trans A2) m2 ((rl.adv A2).app r2) h2) h1⟩
    · rename_i ds e
      obtain ⟨p, vs, rfl, hs, rl⟩ := vT m1 r1 e
      exact ⟨p, vs, rfl, .inl hs, s.run (r.adv A1) m1 (w.adv A1) (fun ws es H2 φ2 M2 A2 m2 r2 h2 => f _ _ _ _ _ (A1.trans A2) m2 ((rl.adv A2).app r2) h2) h1⟩
    · exact h1.elim) h⟩
/-! enumerate of a list -/
def enuD (ds : List Da) : List Da := ds.zipIdx.map fun p => .tup [.int (p.2 : Nat), p.1]
def mEnum (s : MA) : MI := fun ρ M R => s ρ M fun xs M1 => match xs with
  | [x] => match look M1 x with
    | .lst ds => R ⟨enuD ds, fun M2 => look M2 x = .lst ds⟩ M1
    | _ => False
  | _ => False
theorem enuD_at {ds : List Da} {i : Nat} {d : Da} (h : ds[i]? = some d) : (enuD ds)[i]? = some (.tup [.int (i : Nat), d]) := by
  unfold enuD
  rw [List.getElem?_map, List.getElem?_zipIdx, h]
  simp
theorem enuD_len (ds : List Da) : (enuD ds).length = ds.length := by
  unfold enuD
  rw [List.length_map, List.length_zipIdx]
theorem I_enum {ms : WD → MA} {as : WX → TA} (s : SA K as ms) : SI K (fun W => iEnum K (as W)) (fun W => mEnum (ms W)) := ⟨fun {χ W W' σ H φ ρ M R R'} r m w f h => by
  refine s.run r m w (fun vs xs H1 φ1 M1 A1 m1 r1 h1 => ?_) h
  split at h1
  · rename_i x
    split at h1
    · rename_i ds e
      obtain ⟨v, rfl, hv⟩ := r1.one
      obtain ⟨a, vs, rfl, hs, rl⟩ := vL m1 hv e
      refine ⟨a, vs, rfl, hs, f _ _ _ _ _ A1 m1 ?_ e h1⟩
      intro H φ M χ1 hχ A m st
      have hv2 := Rp.at1 hχ A hv
      obtain ⟨b, ws, eb, hs2, rl2⟩ := vL m hv2 st
      cases eb
      refine ⟨fun i hi => ?_, ⟨ws, hs2, by show _ ≤ (enuD ds).length; rw [enuD_len, rl2.len]; exact Nat.le_refl _⟩⟩
      have hi : i < ds.length := by rw [← enuD_len]; exact hi
      obtain ⟨y, hy, ry⟩ := rl2.get (i := i) (d := ds[i]) (by simp [hi])
      refine ⟨⟨ws, y, hs2, hy⟩, ?_⟩
      rintro u H' ⟨T, z, rfl, hT, rfl, hz⟩
      have ez : z = y := Option.some.inj ((hz ws hs2).symm.trans hy)
      subst ez
      refine ⟨_, enuD_at (List.getElem?_eq_getElem hi), Adv.new hT, m.new hT, ?_⟩
      exact .tup upd_same (m.nin hT) (fun c => m.hid T c hT) (.cons (.int _) (.cons (ry.adv (Adv.new hT)) .nil))
    · exact h1.elim
  · exact h1.elim⟩
end
end Z

/-! T9: calls, the def's end, try, raise -/
namespace Z
open PySem PySem.Spec PyProof.Rows L2 Evl
abbrev XD := Str → List (Str × Da) → Mem → Prop
abbrev MP := List Da → Mem → TK → XD → Prop
def FX (K : PySem.W.Frag) (χ : List Addr) (H : Hp) (φ : List Addr) (E' : XD) (E : XK) : Prop := ∀ c fs vfs dd H' φ' M', Adv H φ H' φ' → Mm K H' φ' χ M' → H' dd = some (.xd vfs) → dd ∉ φ' → dd ∉ χ → RpF K H' φ' χ vfs fs → E' c fs M' → E (.ref (He.ga K c)) (some dd) H'
def up (K : PySem.W.Frag) (f : MP) : Sp := fun vs H Q E => ∃ φ χ M ds Q' E', RpL K H φ χ vs ds ∧ Mm K H φ χ M ∧ FE K χ H φ Q' Q ∧ FX K χ H φ E' E ∧ f ds M Q' E'
/-! the end of a def: its own cells become data -/
def mapO (g : Da → Option Da) : List Da → Option (List Da)
  | [] => some []
  | d :: ds => match g d, mapO g ds with
    | some e, some es => some (e :: es)
    | _, _ => none
def mapOK (g : Da → Option Da) : List (Key × Da) → Option (List (Key × Da))
  | [] => some []
  | (k, d) :: ds => match g d, mapOK g ds with
    | some e, some es => some ((k, e) :: es)
    | _, _ => none
def mapOF (g : Da → Option Da) : List (Str × Da) → Option (List (Str × Da))
  | [] => some []
  | (k, d) :: ds => match g d, mapOF g ds with
    | some e, some es => some ((k, e) :: es)
    | _, _ => none
def frz (n : Nat) : Nat → Mem → Da → Option Da
  | 0, _, d => if cloD n d = true then some d else none
  | f + 1, M, d => if cloD n d = true then some d else match d with
    | .cell m => match M[m]? with
      | some (.lst ds) => (mapO (frz n f M) ds).map .lst
      | some (.dct kds) => (mapOK (frz n f M) kds).map .dct
      | some (.obj c fds) => (mapOF (frz n f M) fds).map (.obj c)
      | _ => none
    | .tup ds => (mapO (frz n f M) ds).map .tup
    | .lst ds => (mapO (frz n f M) ds).map .lst
    | .dct kds => (mapOK (frz n f M) kds).map .dct
    | .obj c fds => (mapOF (frz n f M) fds).map (.obj c)
    | _ => none
section
variable {K : PySem.W.Frag} {χ φ : List Addr} {H : Hp} {M : Mem}
theorem mapO_run {n : Nat} {g : Da → Option Da} (ih : ∀ {v : V} {d d' : Da}, Rp K H φ χ v d → g d = some d' → Rp K H (φ.take n) χ v d') : ∀ {vs : List V} {ds es : List Da}, RpL K H φ χ vs ds → mapO g ds = some es → RpL K H (φ.take n) χ vs es
  | _, _, es, .nil, e => by cases e; exact .nil
  | _, _, es, .cons h r, e => by
    unfold mapO at e
    split at e
    · rename_i e1 e2
      cases e
      exact .cons (ih h e1) (mapO_run ih r e2)
    · cases e
theorem mapOK_run {n : Nat} {g : Da → Option Da} (ih : ∀ {v : V} {d d' : Da}, Rp K H φ χ v d → g d = some d' → Rp K H (φ.take n) χ v d') : ∀ {vs : List (Key × V)} {ds es : List (Key × Da)}, RpK K H φ χ vs ds → mapOK g ds = some es → RpK K H (φ.take n) χ vs es
  | _, _, es, .nil, e => by cases e; exact .nil
  | _, _, es, .cons h r, e => by
    unfold mapOK at e
    split at e
    · rename_i e1 e2
      cases e
      exact .cons (ih h e1) (mapOK_run ih r e2)
    · cases e
theorem mapOF_run {n : Nat} {g : Da → Option Da} (ih : ∀ {v : V} {d d' : Da}, Rp K H φ χ v d → g d = some d' → Rp K H (φ.take n) χ v d') : ∀ {vs : List (Str × V)} {ds es : List (Str × Da)}, RpF K H φ χ vs ds → mapOF g ds = some es → RpF K H (φ.take n) χ vs es
  | _, _, es, .nil, e => by cases e; exact .nil
  | _, _, es, .cons h r, e => by
    unfold mapOF at e
    split at e
    · rename_i e1 e2
      cases e
      exact .cons (ih h e1) (mapOF_run ih r e2)
    · cases e
theorem cell_out {n m : Nat} {a : Addr} (nd : φ.Nodup) (h : φ[m]? = some a) (le : n ≤ m) : a ∉ φ.take n := fun q => by
  obtain ⟨k, l, e⟩ := List.getElem_of_mem q
  rw [List.length_take] at l
  rw [List.getElem_take] at e
  have l2 := List.getElem?_eq_some_iff.1 h
  have : k = m := (List.getElem?_inj (by omega) nd).1 (by rw [h, List.getElem?_eq_getElem (by omega), e])
  omega
theorem frz_run (m : Mm K H φ χ M) {n : Nat} : ∀ (f : Nat) {v : V} {d d' : Da}, Rp K H φ χ v d → frz n f M d = some d' → Rp K H (φ.take n) χ v d'
  | 0, v, d, d', h, e => by
    unfold frz at e
    split at e
    · rename_i c
      cases e
      exact h.cut c
    · cases e
  | f + 1, v, d, d', h, e => by
    unfold frz at e
    split at e
    · rename_i c
      cases e
      exact h.cut c
    · rename_i c
      have ih : ∀ {v : V} {d d' : Da}, Rp K H φ χ v d → frz n f M d = some d' → Rp K H (φ.take n) χ v d' := fun h e => frz_run m f h e
      cases h with
      | cell ha =>
        rename_i k a
        have le : n ≤ k := by
          unfold cloD at c
          simp at c
          exact c
        have out := cell_out m.nd ha le
        have nx := m.dis a (List.mem_of_getElem? ha)
        simp only at e
        split at e
        · rename_i ds q
          obtain ⟨vs, e1, r⟩ := m.at_ _ _ _ ha q
          obtain ⟨es, e2, e3⟩ := Option.map_eq_some_iff.1 e
          rw [← e3]
          exact .lst e1 out nx (mapO_run ih r e2)
        · rename_i ds q
          obtain ⟨vs, e1, r⟩ := m.at_ _ _ _ ha q
          obtain ⟨es, e2, e3⟩ := Option.map_eq_some_iff.1 e
          rw [← e3]
          exact .dct e1 rfl out nx (mapOK_run ih r e2)
        · rename_i c ds q
          obtain ⟨dx, vs, e1, r⟩ := m.at_ _ _ _ ha q
          obtain ⟨es, e2, e3⟩ := Option.map_eq_some_iff.1 e
          rw [← e3]
          exact .obj e1 out nx (mapOF_run ih r e2)
        · cases e
      | tup h n1 n2 r =>
        simp only at e
        obtain ⟨es, e2, e3⟩ := Option.map_eq_some_iff.1 e
        rw [← e3]
        exact .tup h (nin_take n1) n2 (mapO_run ih r e2)
      | lst h n1 n2 r =>
        simp only at e
        obtain ⟨es, e2, e3⟩ := Option.map_eq_some_iff.1 e
        rw [← e3]
        exact .lst h (nin_take n1) n2 (mapO_run ih r e2)
      | dct h cD n1 n2 r =>
        simp only at e
        obtain ⟨es, e2, e3⟩ := Option.map_eq_some_iff.1 e
        rw [← e3]
        exact .dct h cD (nin_take n1) n2 (mapOK_run ih r e2)
      | obj h n1 n2 r =>
        simp only at e
        obtain ⟨es, e2, e3⟩ := Option.map_eq_some_iff.1 e
        rw [← e3]
        exact .obj h (nin_take n1) n2 (mapOF_run ih r e2)
      | _ => cases e
def Lv (n : Nat) (d : Da) (M : Mem) (d' : Da) (M' : Mem) : Prop := (d' = d ∧ M' = M) ∨ (n ≤ M.length ∧ M' = M.take n ∧ cloL n M' = true ∧ frz n 4 M d = some d')
def leave (n : Nat) (Q : TK) : TK := fun d M => ∃ d' M', Lv n d M d' M' ∧ Q d' M'
def leaveX (n : Nat) (E : XD) : XD := fun c fs M => ∃ M', (M' = M ∨ (n ≤ M.length ∧ M' = M.take n ∧ cloL n M' = true ∧ cloF n fs = true)) ∧ E c fs M'
def startD (N : Nat) (ds : List Da) : Sl := ds.map some ++ List.replicate (N - ds.length) none
def dfn (N np : Nat) (mw : WD → MS) : MP := fun ds M Q E => ds.length = np ∧ (cloL M.length M = true → cloL M.length ds = true → mw (fun c fs _ M' => leaveX M.length E c fs M') { nx := fun _ M' => leave M.length Q .non M', rt := leave M.length Q } (startD N ds) M)
theorem Rs.start {vs : List V} {ds : List Da} (r : RpL K H φ χ vs ds) (N : List Str) : Rs K H φ χ (L2.start N vs) (startD N.length ds) := ⟨by
  unfold L2.start startD
  rw [List.length_append, List.length_append, List.length_map, List.length_map, List.length_replicate, List.length_replicate, r.len], fun i d e => by
  unfold startD at e
  unfold L2.start
  by_cases l : i < ds.length
  · rw [List.getElem?_append_left (by rw [List.length_map]; exact l)] at e
    rw [List.getElem?_append_left (by rw [List.length_map, r.len]; exact l)]
    rw [List.getElem?_map] at e ⊢
    cases q : ds[i]? with
    | none => rw [q] at e; cases e
    | some d' =>
      rw [q] at e
      cases e
      obtain ⟨v, h1, h2⟩ := r.get q
      exact ⟨v, by rw [h1]; rfl, h2⟩
  · rw [List.getElem?_append_right (by rw [List.length_map]; omega)] at e
    rw [List.getElem?_replicate] at e
    split at e <;> cases e⟩
theorem Lv.run {n : Nat} {d d' : Da} {M' : Mem} {H0 : Hp} {φ0 : List Addr} {v : V} (k : Lv n d M d' M') (hn : φ0.length ≤ n) (A : Adv H0 φ0 H φ) (m : Mm K H φ χ M) (h : Rp K H φ χ v d) : ∃ φ', Adv H0 φ0 H φ' ∧ Mm K H φ' χ M' ∧ Rp K H φ' χ v d' := by
  rcases k with ⟨rfl, rfl⟩ | ⟨h1, rfl, h2, h3⟩
  · exact ⟨φ, A, m, h⟩
  · exact ⟨φ.take n, A.cut hn, m.cut h2, frz_run m 4 h h3⟩
theorem up_run {tw : WX → TS} {mw : WD → MS} (s : SS K tw mw) {N : List Str} {n np : Nat} (hN : N.length = n) {vs : List V} {Q : VK} {E : XK} (h : up K (dfn n np mw) vs H Q E) : tw (fun cls d _ H => E cls d H) { nx := fun _ H' => Q .non H', rt := Q } (L2.start N vs) H := by
  obtain ⟨φ, χ, M, ds, Q', E', r, m, f, x, _, q⟩ := h
  subst hN
  refine s.run (D' := { nx := fun _ M' => leave M.length Q' .non M', rt := leave M.length Q' }) (W' := fun c fs _ M' => leaveX M.length E' c fs M') (Rs.start r N) m ?_ ?_ ?_ (fun _ _ _ _ _ _ _ _ h => h.elim) (fun _ _ _ _ _ _ _ _ h => h.elim) (q m.clo (r.clo (Nat.le_of_eq m.len)))
  · rintro c fs vfs dd σ' H' φ' ρ' M' A r' m' hd n1 n2 rf ⟨M2, hk, he⟩
    rcases hk with rfl | ⟨h1, rfl, h2, h3⟩
    · exact x _ _ _ _ _ _ _ A m' hd n1 n2 rf he
    · exact x _ _ _ _ _ _ _ (A.cut (Nat.le_of_eq m.len)) (m'.cut h2) hd (nin_take n1) n2 (rf.cut h3) he
  · rintro σ' H' φ' ρ' M' A r' m' ⟨d', M2, k, h'⟩
    obtain ⟨φ2, A2, m2, r2⟩ := k.run (Nat.le_of_eq m.len) A m' .non
    exact f _ _ _ _ _ A2 m2 r2 h'
  · rintro v d H' φ' M' A m' r' ⟨d', M2, k, h'⟩
    obtain ⟨φ2, A2, m2, r2⟩ := k.run (Nat.le_of_eq m.len) A m' r'
    exact f _ _ _ _ _ A2 m2 r2 h'
theorem up_len {n np : Nat} {mw : WD → MS} {vs : List V} {Q : VK} {E : XK} (h : up K (dfn n np mw) vs H Q E) : vs.length = np := by
  obtain ⟨φ, χ, M, ds, Q', E', r, _, _, _, hl, _⟩ := h
  rw [r.len]
  exact hl
end
section
variable {K : PySem.W.Frag} {as as' : WX → TA} {ms ms' : WD → MA} {f : MP}
def XD0 : XD := fun _ _ _ => False
def mCall (f : MP) (s : MA) : ME := fun ρ M Q => s ρ M fun ds M1 => f ds M1 Q XD0
theorem E_call (f : MP) (s : SA K as ms) : SE K (fun W => tCall (up K f) [] E0 (as W)) (fun W => mCall f (ms W)) := ⟨fun {χ W W' σ H φ ρ M Q Q'} r m w fe h =>
  s.run r m w (fun vs ds H1 φ1 M1 A1 m1 r1 h1 => ⟨φ1, χ, M1, ds, Q', XD0, by rw [List.append_nil]; exact r1, m1, fe.adv A1, fun _ _ _ _ _ _ _ _ _ _ _ _ _ h => h.elim, h1⟩) h⟩
def mCallS (f : MP) (s : MA) (W : WD) : ME := fun ρ M Q => s ρ M fun ds M1 => f ds M1 Q fun c fs M2 => W c fs ρ M2
theorem E_callS (f : MP) (s : SA K as ms) : SE K (fun W => tCallS (up K f) (WE W) (as W)) (fun W => mCallS f (ms W) W) := ⟨fun {χ W W' σ H φ ρ M Q Q'} r m w fe h =>
  s.run r m w (fun vs ds H1 φ1 M1 A1 m1 r1 h1 => ⟨φ1, χ, M1, ds, Q', fun c fs M2 => W' c fs ρ M2, r1, m1, fe.adv A1, fun c fs vfs dd H2 φ2 M2 A2 m2 hd n1 n2 rf q => w _ _ _ _ _ _ _ _ _ (A1.trans A2) (r.adv (A1.trans A2)) m2 hd n1 n2 rf q, h1⟩) h⟩
theorem RpL.perm {H : Hp} {φ χ : List Addr} {vs : List V} {ds : List Da} (r : RpL K H φ χ vs ds) : ∀ p : List Nat, RpL K H φ χ (perm p vs) (perm p ds)
  | [] => .nil
  | i :: p => by
    have ih := r.perm p
    unfold Z.perm at ih ⊢
    rw [List.filterMap_cons, List.filterMap_cons]
    cases e : ds[i]? with
    | none =>
      have hl : vs[i]? = none := by
        rw [List.getElem?_eq_none_iff] at e ⊢
        rw [r.len]
        exact e
      rw [hl]
      exact ih
    | some d =>
      obtain ⟨v, hv, rv⟩ := r.get e
      rw [hv]
      exact .cons rv ih
def mCallP (p : List Nat) (n m : Nat) (f : MP) (s sk : MA) : ME := fun ρ M Q => s ρ M fun ds M1 => sk ρ M1 fun es M2 => ds.length = n ∧ es.length = m ∧ f (perm p (ds ++ es)) M2 Q XD0
def mCallPS (p : List Nat) (n m : Nat) (f : MP) (s sk : MA) (W : WD) : ME := fun ρ M Q => s ρ M fun ds M1 => sk ρ M1 fun es M2 => ds.length = n ∧ es.length = m ∧ f (perm p (ds ++ es)) M2 Q fun c fs M3 => W c fs ρ M3
theorem E_callP (p : List Nat) (n m : Nat) (f : MP) (s : SA K as ms) (sk : SA K as' ms') : SE K (fun W => tCallP p n m (up K f) (fun _ => E0) (as W) (as' W)) (fun W => mCallP p n m f (ms W) (ms' W)) := ⟨fun {χ W W' σ H φ ρ M Q Q'} r mm w fe h =>
  s.run r mm w (fun vs ds H1 φ1 M1 A1 m1 r1 h1 => sk.run (r.adv A1) m1 (w.adv A1) (fun ws es H2 φ2 M2 A2 m2 r2 h2 => ⟨by rw [r1.len]; exact h2.1, by rw [r2.len]; exact h2.2.1, φ2, χ, M2, _, Q', XD0, ((r1.adv A2).app r2).perm p, m2, fe.adv (A1.trans A2), fun _ _ _ _ _ _ _ _ _ _ _ _ _ h => h.elim, h2.2.2⟩) h1) h⟩
theorem E_callPS (p : List Nat) (n m : Nat) (f : MP) (s : SA K as ms) (sk : SA K as' ms') : SE K (fun W => tCallP p n m (up K f) (WE W) (as W) (as' W)) (fun W => mCallPS p n m f (ms W) (ms' W) W) := ⟨fun {χ W W' σ H φ ρ M Q Q'} r mm w fe h =>
  s.run r mm w (fun vs ds H1 φ1 M1 A1 m1 r1 h1 => sk.run (r.adv A1) m1 (w.adv A1) (fun ws es H2 φ2 M2 A2 m2 r2 h2 => ⟨by rw [r1.len]; exact h2.1, by rw [r2.len]; exact h2.2.1, φ2, χ, M2, _, Q', fun c fs M3 => W' c fs ρ M3, ((r1.adv A2).app r2).perm p, m2, fe.adv (A1.trans A2),
    fun c fs vfs dd H3 φ3 M3 A3 m3 hd n1 n2 rf q => w _ _ _ _ _ _ _ _ _ ((A1.trans A2).trans A3) (r.adv ((A1.trans A2).trans A3)) m3 hd n1 n2 rf q, h2.2.2⟩) h1) h⟩
/-! ### try -/
abbrev HdM : Type := Str × Option Nat × (Addr → Addr → MS)
def unbD (i : Option Nat) (D : En) : En := match i with
  | none => D
  | some i => { nx := fun ρ M => D.nx (ρ.set i none) M, rt := D.rt, bk := fun ρ M => D.bk (ρ.set i none) M, ct := fun ρ M => D.ct (ρ.set i none) M }
def bndD (i : Option Nat) (d : Da) (ρ : Sl) : Sl := match i with
  | none => ρ
  | some i => ρ.set i (some d)
abbrev ExT := List ((Str × Str) × Bool)
/-- which clause catches which class -/
def ExOk (K : PySem.W.Frag) (X : ExT) : Prop := ∀ c x b, X.lookup (c, x) = some b → PySem.W.exmOne K (.ref (He.ga K c)) (.ref (He.ga K x)) = some b
theorem ExOk.nil {K : PySem.W.Frag} : ExOk K [] := fun _ _ _ h => by cases h
theorem ExOk.cons {K : PySem.W.Frag} {c x : Str} {b : Bool} {X : ExT} (h : PySem.W.exmOne K (.ref (He.ga K c)) (.ref (He.ga K x)) = some b) (r : ExOk K X) : ExOk K (((c, x), b) :: X) := fun c' x' b' e => by
  rw [List.lookup_cons] at e
  split at e
  · rename_i q
    have q : (c', x') = (c, x) := by simpa using q
    cases q
    cases e
    exact h
  · exact r _ _ _ e
def mMix (X : ExT) (W : WD) (D : En) : List HdM → WD
  | [] => W
  | (x, i, ts) :: r => fun c fs ρ M => match X.lookup (c, x) with
    | some true => (i.isSome = true → c = x) ∧ ∀ a dd, ts a dd (unbD i D) (bndD i (.exv a dd c fs) ρ) M
    | some false => mMix X W D r c fs ρ M
    | none => False
def mTry (X : ExT) (hs : List HdM) (tb : WD → MS) (W : WD) : MS := fun D ρ M => tb (mMix X W D hs) D ρ M
inductive HdS (K : PySem.W.Frag) : List Hd → List HdM → Prop
  | nil : HdS K [] []
  | only {x : Str} {ts : TS} {ms : MS} {l : List Hd} {lm : List HdM} : SS K (fun _ => ts) (fun _ => ms) → HdS K l lm → HdS K ((.ref (He.ga K x), none, fun _ _ _ => ts) :: l) ((x, none, fun _ _ => ms) :: lm)
  | as_ {x : Str} {i : Nat} {ts : Addr → Value → Option Addr → TS} {ms : Addr → Addr → MS} {l : List Hd} {lm : List HdM} : (∀ a dd, SS K (fun _ => ts a (.ref (He.ga K x)) (some dd)) (fun _ => ms a dd)) → HdS K l lm → HdS K ((.ref (He.ga K x), some i, ts) :: l) ((x, some i, ms) :: lm)
theorem FN.unb {χ φ : List Addr} {H : Hp} {P' : Sl → Mem → Prop} {P : L2.St → Hp → Prop} {i : Nat} (n : FN K χ H φ P' P) : FN K χ H φ (fun ρ M => P' (ρ.set i none) M) (fun σ H => P (σ.set i none) H) := fun σ' H' φ' ρ' M' A r m h => n _ _ _ _ _ A r.gone m h
theorem mix_run {χ φ : List Addr} {H : Hp} {D : Ends} {D' : En} {W : WX} {W' : WD} {X : ExT} (hX : ExOk K X) {l : List Hd} {lm : List HdM} (k : HdS K l lm) (w : FW K χ H φ W' W) (n : FN K χ H φ D'.nx D.nx) (t : FE K χ H φ D'.rt D.rt) (b : FN K χ H φ D'.bk D.bk) (c : FN K χ H φ D'.ct D.ct) :
    FW K χ H φ (mMix X W' D' lm) (wMix K W D l) := by
  induction k with
  | nil => exact w
  | @only x ts ms l lm s r ih =>
    intro cl fs vfs dd σ' H' φ' ρ' M' A r' m' hd n1 n2 rf h
    simp only [mMix] at h
    split at h
    · rename_i e
      refine ⟨true, hX _ _ _ e, fun _ a ha => ?_, (fun (q : true = false) => by cases q)⟩
      exact s.run (W := W0) r' m' FW0 (n.adv A) (t.adv A) (b.adv A) (c.adv A) (h.2 a dd)
    · rename_i e
      exact ⟨false, hX _ _ _ e, (fun (q : false = true) => by cases q), fun _ => ih _ _ _ _ _ _ _ _ _ A r' m' hd n1 n2 rf h⟩
    · exact h.elim
  | @as_ x i ts ms l lm s r ih =>
    intro cl fs vfs dd σ' H' φ' ρ' M' A r' m' hd n1 n2 rf h
    simp only [mMix] at h
    split at h
    · rename_i e
      obtain ⟨hc, h⟩ := h
      obtain rfl := hc rfl
      refine ⟨true, hX _ _ _ e, fun _ a ha => ?_, (fun (q : true = false) => by cases q)⟩
      exact (s a dd).run (W := W0) (D' := unbD (some i) D') (r'.set (.exv hd n1 n2 rf)) m' FW0 (FN.unb (n.adv A)) (t.adv A) (FN.unb (b.adv A)) (FN.unb (c.adv A)) (h a dd)
    · rename_i e
      exact ⟨false, hX _ _ _ e, (fun (q : false = true) => by cases q), fun _ => ih _ _ _ _ _ _ _ _ _ A r' m' hd n1 n2 rf h⟩
    · exact h.elim
theorem S_try {X : ExT} (hX : ExOk K X) {l : List Hd} {lm : List HdM} {tb : WX → TS} {mb : WD → MS} (s : SS K tb mb) (k : HdS K l lm) : SS K (fun W => tTry K tb W l) (fun W => mTry X lm mb W) := ⟨fun r m w n t b c h =>
  s.run r m (mix_run hX k w n t b c) n t b c h⟩
theorem S_try0 {X : ExT} (hX : ExOk K X) {l : List Hd} {lm : List HdM} {tb : WX → TS} {mb : WD → MS} (s : SS K tb mb) (k : HdS K l lm) : SS K (fun _ => tTry K tb (fun _ _ _ _ => False) l) (fun _ => mTry X lm mb WD0) := ⟨fun r m w n t b c h =>
  s.run r m (mix_run hX k FW0 n t b c) n t b c h⟩
/-! ### raise, by the field's name -/
def mRaise (c f : Str) (s : MA) (W : WD) : MS := fun _ ρ M => s ρ M fun ds M1 => match ds with
  | [d] => W c [(f, d)] ρ M1
  | _ => False
theorem raise_run {c f : Str} {χ φ : List Addr} {H : Hp} {W : WX} {W' : WD} {σ : L2.St} {ρ : Sl} {M : Mem} (s : SA K as ms) (r : Rs K H φ χ σ ρ) (m : Mm K H φ χ M) (w : FW K χ H φ W' W) {D : En} (h : mRaise c f (ms W') W' D ρ M) :
    as W σ H fun vs H1 => ∃ v, vs = [v] ∧ ∀ d, H1 d = none → W (.ref (He.ga K c)) (some d) σ (upd H1 d (.xd [(f, v)])) := by
  refine s.run r m w (fun vs ds H1 φ1 M1 A1 m1 r1 h1 => ?_) h
  split at h1
  · rename_i d
    obtain ⟨v, rfl, h2⟩ := r1.one
    refine ⟨v, rfl, fun dd hdd => ?_⟩
    have A2 : Adv H1 φ1 (upd H1 dd (.xd [(f, v)])) φ1 := Adv.new hdd
    exact w _ _ [(f, v)] dd _ _ φ1 _ _ (A1.trans A2) (r.adv (A1.trans A2)) (m1.new hdd) upd_same (m1.nin hdd) (fun q => m1.hid dd q hdd) (.cons (h2.adv A2) .nil) h1
  · exact h1.elim
theorem RpL.mk_ints {H : Hp} {φ χ : List Addr} : ∀ ns : List Int, RpL K H φ χ (ns.map V.int) (ns.map Da.int)
  | [] => .nil
  | n :: ns => .cons (.int n) (RpL.mk_ints ns)
/-- the law's promise at its end -/
def sp_law0 (K : PySem.W.Frag) : Sp := fun vs H Q _ => ∃ (a : Addr) (ns : List Int), vs = [.ref a] ∧ SqL K H a (ns.map V.int) ∧ ns.length ≤ 63 ∧ ∀ H', Q (.bl true) H'
theorem law_up (K : PySem.W.Frag) {f : MP} (h : ∀ ns : List Int, ns.length ≤ 63 → f [.kl (ns.map Da.int)] [] (fun d _ => d = .bl true) XD0) : ∀ vs H Q E, sp_law0 K vs H Q E → up K f vs H Q E := by
  rintro vs H Q E ⟨a, ns, rfl, hs, hl, q⟩
  refine ⟨[], [], [], [.kl (ns.map Da.int)], fun d _ => d = .bl true, XD0, .cons ?_ .nil, ⟨by simp, rfl, (fun _ h => by cases h), (fun _ h => by cases h), (fun n a d h => by simp at h)⟩, ?_, (fun _ _ _ _ _ _ _ _ _ _ _ _ _ h => h.elim), h ns hl⟩
  · rcases hs with hs | hs
    · rcases hs with hs | ⟨ob, hs⟩
      · exact .klR hs (.inl rfl) (by simp) (by simp) (RpL.mk_ints ns)
      · exact .klR hs (.inr ⟨ob, rfl⟩) (by simp) (by simp) (RpL.mk_ints ns)
    · exact .klK (fun _ => .inr hs) (RpL.mk_ints ns)
  · rintro v d H' φ' M' A m r rfl
    cases r
    exact q H'
end
end Z

namespace Z
open PySem PySem.Spec PyProof.Rows L2 Evl
theorem S_raisevalue {K : PySem.W.Frag} (c : Str) {as : WX → TA} {ms : WD → MA} (s : SA K as ms) : SS K (fun W => tRaisevalue (He.ga K c) W (as W)) (fun W => mRaise c "value" (ms W) W) := ⟨fun r m w n t b k h => raise_run s r m w h⟩
end Z

namespace Z
open PySem PySem.Spec PyProof.Rows L2 Evl
theorem S_raisename {K : PySem.W.Frag} (c : Str) {as : WX → TA} {ms : WD → MA} (s : SA K as ms) : SS K (fun W => tRaisename (He.ga K c) W (as W)) (fun W => mRaise c "name" (ms W) W) := ⟨fun r m w n t b k h => raise_run s r m w h⟩
end Z

/-! T11: own classes over data -/
namespace Z
open PySem PySem.Spec PyProof.Rows L2 Evl
section
variable {K : PySem.W.Frag} {χ φ : List Addr} {H : Hp} {M : Mem} {v : V} {d : Da}
theorem vO (m : Mm K H φ χ M) (h : Rp K H φ χ v d) {c : Str} {fds : List (Str × Da)} (e : look M d = .obj c fds) : ∃ a dx fs, v = .ref a ∧ H a = some (.ins (He.ga K c) dx fs) ∧ RpF K H φ χ fs fds := by
  cases h with
  | obj h n m r => cases e; exact ⟨_, _, _, rfl, h, r⟩
  | cell h =>
    obtain ⟨d, e1, _, c⟩ := m.look h
    have e2 : M.getD _ (.gl "") = Da.obj _ _ := e
    rw [e1] at e2
    subst e2
    obtain ⟨dx, vs, q, r⟩ := c
    exact ⟨_, dx, vs, rfl, q, r⟩
  | _ => cases e
theorem RpF.lookN {f : Str} : ∀ {vs : List (Str × V)} {ds : List (Str × Da)}, RpF K H φ χ vs ds → ds.lookup f = none → vs.lookup f = none
  | _, _, .nil, _ => rfl
  | _, _, .cons (k := k) h r, e => by
    rw [List.lookup_cons] at e ⊢
    cases q : f == k with
    | true => rw [q] at e; cases e
    | false => rw [q] at e; exact r.lookN e
def putFD (f : Str) (d : Da) : List (Str × Da) → List (Str × Da)
  | [] => [(f, d)]
  | (g, x) :: r => if g = f then (g, d) :: r else (g, x) :: putFD f d r
theorem RpF.put {f : Str} (hd : Rp K H φ χ v d) : ∀ {vs : List (Str × V)} {ds : List (Str × Da)}, RpF K H φ χ vs ds → RpF K H φ χ (putF f v vs) (putFD f d ds)
  | _, _, .nil => .cons hd .nil
  | _, _, .cons (k := k) h r => by
    unfold putF putFD
    by_cases q : k = f
    · rw [if_pos q, if_pos q]; exact .cons hd r
    · rw [if_neg q, if_neg q]; exact .cons h (r.put hd)
theorem RpF.len : ∀ {vs : List (Str × V)} {ds : List (Str × Da)}, RpF K H φ χ vs ds → vs.length = ds.length
  | _, _, .nil => rfl
  | _, _, .cons _ r => by rw [List.length_cons, List.length_cons, r.len]
end
section
variable {K : PySem.W.Frag} {ta tb : WX → TE} {ma mb : WD → ME} {as as' : WX → TA} {ms ms' : WD → MA}
/-- e.f -/
def mFld (c f : Str) (ma : ME) : ME := fun ρ M Q => ma ρ M fun x M1 => match look M1 x with
  | .obj c' fds => c' = c ∧ match fds.lookup f with
    | some d => Q d M1
    | none => False
  | _ => False
theorem E_fld {c f : Str} (cl : Cls K (He.ga K c)) (na : NoAttr K (He.ga K c) f) (a : SE K ta ma) : SE K (fun W => tFld K (ta W) f) (fun W => mFld c f (ma W)) := ⟨fun r m w fe h =>
  a.run r m w (fun v d H1 φ1 M1 A1 m1 r1 h1 => by
    split at h1
    · rename_i c' fds e
      obtain ⟨rfl, h1⟩ := h1
      obtain ⟨a, dx, fs, rfl, ha, rf⟩ := vO m1 r1 e
      split at h1
      · rename_i d' ed
        obtain ⟨u, hu, ru⟩ := rf.look ed
        exact ⟨a, _, dx, fs, u, rfl, ha, cl, na, hu, (fe.adv A1).pure m1 ru h1⟩
      · exact h1.elim
    · exact h1.elim) h⟩
/-- e.f = value, in the making of an instance -/
def mFldS (c f : Str) (mo mv : ME) : MS := fun D ρ M => mv ρ M fun y M1 => mo ρ M1 fun o M2 => match o with
  | .cell n => match M2[n]? with
    | some (.obj c' fds) => c' = c ∧ fds.length < 1000 ∧ D.nx ρ (M2.set n (.obj c' (putFD f y fds)))
    | _ => False
  | _ => False
theorem S_fldS {c f : Str} (cl : Cls K (He.ga K c)) (na : NoAttr K (He.ga K c) f) (a : SE K ta ma) (b : SE K tb mb) : SS K (fun W => sFld K (ta W) (tb W) f) (fun W => mFldS c f (ma W) (mb W)) := ⟨fun r m w n t bk ct h =>
  b.run r m w (fun y dy H1 φ1 M1 A1 m1 r1 h1 => a.run (r.adv A1) m1 (w.adv A1) (fun o d H2 φ2 M2 A2 m2 r2 h2 => by
    split at h2
    · cases r2 with
      | cell hx =>
        split at h2
        · rename_i k c' fds e
          obtain ⟨rfl, hl, h2⟩ := h2
          obtain ⟨dx, fs, e1, rf⟩ := m2.at_ _ _ _ hx e
          have A3 := Adv.mut (H := H2) (o := HO.ins (He.ga K c') dx (putF f y fs)) (List.mem_of_getElem? hx)
          refine ⟨_, _, dx, fs, rfl, e1, cl, na, by rw [rf.len]; exact hl, n _ _ _ _ _ ((A1.trans A2).trans A3) (r.adv ((A1.trans A2).trans A3)) (m2.mut (d := .obj _ _) hx ⟨dx, _, upd_same, (rf.put (r1.adv A2)).adv A3⟩) h2⟩
        · exact h2.elim
    · exact h2.elim) h1) h⟩
/-- defaults -/
def DfL (K : PySem.W.Frag) (dvs : List V) (dfs : List Da) : Prop := ∀ H φ χ, RpL K H φ χ dvs dfs
theorem DfL.nil : DfL K [] [] := fun _ _ _ => .nil
/-- o.m(..) -/
def mMeth (c m : Str) (pm : List Nat) (n mm : Nat) (f : MP) (dfs : List Da) (ma : ME) (s sk : MA) : ME := fun ρ M Q => ma ρ M fun x M1 => match look M1 x with
  | .obj c' fds => c' = c ∧ fds.lookup m = none ∧ s ρ M1 fun ds M2 => sk ρ M2 fun es M3 => ds.length = n ∧ es.length = mm ∧ f (perm pm ((x :: ds) ++ es ++ dfs)) M3 Q XD0
  | _ => False
def mMethS (c m : Str) (pm : List Nat) (n mm : Nat) (f : MP) (dfs : List Da) (ma : ME) (s sk : MA) (W : WD) : ME := fun ρ M Q => ma ρ M fun x M1 => match look M1 x with
  | .obj c' fds => c' = c ∧ fds.lookup m = none ∧ s ρ M1 fun ds M2 => sk ρ M2 fun es M3 => ds.length = n ∧ es.length = mm ∧ f (perm pm ((x :: ds) ++ es ++ dfs)) M3 Q fun c fs M4 => W c fs ρ M4
  | _ => False
theorem E_meth (c m : Str) (pm : List Nat) (n mm : Nat) (f : MP) {dvs : List V} {dfs : List Da} (D : DfL K dvs dfs) (a : SE K ta ma) (s : SA K as ms) (sk : SA K as' ms') : SE K (fun W => tMethP K c m pm n mm (up K f) dvs (fun _ => E0) (ta W) (as W) (as' W)) (fun W => mMeth c m pm n mm f dfs (ma W) (ms W) (ms' W)) := ⟨fun {χ W W' σ H φ ρ M Q Q'} r mM w fe h =>
  a.run r mM w (fun x dx H1 φ1 M1 A1 m1 r1 h1 => by
    split at h1
    · rename_i c' fds e
      obtain ⟨rfl, hn, h1⟩ := h1
      obtain ⟨ad, dd, fs, rfl, ha, rf⟩ := vO m1 r1 e
      refine ⟨ad, dd, fs, rfl, ha, rf.lookN hn, ?_⟩
      exact s.run (r.adv A1) m1 (w.adv A1) (fun vs ds H2 φ2 M2 A2 m2 r2 h2 => sk.run (r.adv (A1.trans A2)) m2 (w.adv (A1.trans A2)) (fun ws es H3 φ3 M3 A3 m3 r3 h3 => ⟨by rw [r2.len]; exact h3.1, by rw [r3.len]; exact h3.2.1, φ3, χ, M3, _, Q', XD0,
        (((RpL.cons (r1.adv (A2.trans A3)) (r2.adv A3)).app r3).app (D _ _ _)).perm pm, m3, fe.adv ((A1.trans A2).trans A3), fun _ _ _ _ _ _ _ _ _ _ _ _ _ h => h.elim, h3.2.2⟩) h2) h1
    · exact h1.elim) h⟩
theorem E_methS (c m : Str) (pm : List Nat) (n mm : Nat) (f : MP) {dvs : List V} {dfs : List Da} (D : DfL K dvs dfs) (a : SE K ta ma) (s : SA K as ms) (sk : SA K as' ms') : SE K (fun W => tMethP K c m pm n mm (up K f) dvs (WE W) (ta W) (as W) (as' W)) (fun W => mMethS c m pm n mm f dfs (ma W) (ms W) (ms' W) W) := ⟨fun {χ W W' σ H φ ρ M Q Q'} r mM w fe h =>
  a.run r mM w (fun x dx H1 φ1 M1 A1 m1 r1 h1 => by
    split at h1
    · rename_i c' fds e
      obtain ⟨rfl, hn, h1⟩ := h1
      obtain ⟨ad, dd, fs, rfl, ha, rf⟩ := vO m1 r1 e
      refine ⟨ad, dd, fs, rfl, ha, rf.lookN hn, ?_⟩
      exact s.run (r.adv A1) m1 (w.adv A1) (fun vs ds H2 φ2 M2 A2 m2 r2 h2 => sk.run (r.adv (A1.trans A2)) m2 (w.adv (A1.trans A2)) (fun ws es H3 φ3 M3 A3 m3 r3 h3 => ⟨by rw [r2.len]; exact h3.1, by rw [r3.len]; exact h3.2.1, φ3, χ, M3, _, Q', fun c fs M4 => W' c fs ρ M4,
        (((RpL.cons (r1.adv (A2.trans A3)) (r2.adv A3)).app r3).app (D _ _ _)).perm pm, m3, fe.adv ((A1.trans A2).trans A3), fun c fs vfs dd H4 φ4 M4 A4 m4 hd n1 n2 rf q => w _ _ _ _ _ _ _ _ _ (((A1.trans A2).trans A3).trans A4) (r.adv (((A1.trans A2).trans A3).trans A4)) m4 hd n1 n2 rf q, h3.2.2⟩) h2) h1
    · exact h1.elim) h⟩
/-- C(..): a new cell, __init__, then the instance as a datum -/
def mMakeE (c : Str) (pm : List Nat) (f : MP) (dfs ds es : List Da) (M2 : Mem) (Q : TK) (E : XD) : Prop :=
  f (perm pm ((.cell M2.length :: ds) ++ es ++ dfs)) (M2 ++ [.obj c []]) (fun d M3 => d = .non ∧ leave M2.length Q (.cell M2.length) M3) (leaveX M2.length E)
def mMake (c : Str) (pm : List Nat) (n mm : Nat) (f : MP) (dfs : List Da) (s sk : MA) : ME := fun ρ M Q => s ρ M fun ds M1 => sk ρ M1 fun es M2 => ds.length = n ∧ es.length = mm ∧ mMakeE c pm f dfs ds es M2 Q XD0
def mMakeS (c : Str) (pm : List Nat) (n mm : Nat) (f : MP) (dfs : List Da) (s sk : MA) (W : WD) : ME := fun ρ M Q => s ρ M fun ds M1 => sk ρ M1 fun es M2 => ds.length = n ∧ es.length = mm ∧ mMakeE c pm f dfs ds es M2 Q fun c fs M4 => W c fs ρ M4
theorem make_run {c : Str} {pm : List Nat} {f : MP} {dvs : List V} {dfs ds es : List Da} (D : DfL K dvs dfs) {χ φ : List Addr} {H : Hp} {M : Mem} {Q : VK} {Q' : TK} {E : XK} {E' : XD} {vs ws : List V} (m : Mm K H φ χ M) (r : RpL K H φ χ vs ds) (r2 : RpL K H φ χ ws es) (fe : FE K χ H φ Q' Q) (fx : FX K χ H φ E' E)
    (h : mMakeE c pm f dfs ds es M Q' E') (x dx : Addr) (hx : H x = none) (hd : H dx = none) (ne : dx ≠ x) : up K f (perm pm ((V.ref x :: vs) ++ ws ++ dvs)) (upd (upd H dx (.own x)) x (.ins (He.ga K c) dx [])) (fun v H3 => v = .non ∧ Q (.ref x) H3) E := by
  have A1 : Adv H φ (upd H dx (.own x)) φ := Adv.new hd
  have hx1 : (upd H dx (.own x)) x = none := by rw [upd_ne (Ne.symm ne)]; exact hx
  have A2 : Adv (upd H dx (.own x)) φ (upd (upd H dx (.own x)) x (.ins (He.ga K c) dx [])) (φ ++ [x]) := Adv.newC hx1
  have m2 : Mm K (upd (upd H dx (.own x)) x (.ins (He.ga K c) dx [])) (φ ++ [x]) χ (M ++ [.obj c []]) := (m.new hd).newC hx1 ⟨dx, [], upd_same, .nil⟩
  have A := A1.trans A2
  have at_ : (φ ++ [x])[M.length]? = some x := by
    rw [← m.len]
    exact snoc_at _ _
  unfold mMakeE at h
  refine ⟨φ ++ [x], χ, M ++ [.obj c []], perm pm ((.cell M.length :: ds) ++ es ++ dfs), fun d M3 => d = .non ∧ leave M.length Q' (.cell M.length) M3, leaveX M.length E', (((RpL.cons (.cell at_) (r.adv A)).app (r2.adv A)).app (D _ _ _)).perm pm, m2, ?_, ?_, h⟩
  · rintro v d H3 φ3 M3 A3 m3 r3 ⟨rfl, d', M', k, q⟩
    cases r3
    refine ⟨rfl, ?_⟩
    obtain ⟨φ4, A4, m4, r4⟩ := k.run (Nat.le_of_eq m.len) (A.trans A3) m3 (.cell (A3.at_ at_))
    exact fe _ _ _ _ _ A4 m4 r4 q
  · rintro c fs vfs dd H3 φ3 M3 A3 m3 hd n1 n2 rf ⟨M', hk, he⟩
    rcases hk with rfl | ⟨h1, rfl, h2, h3⟩
    · exact fx _ _ _ _ _ _ _ (A.trans A3) m3 hd n1 n2 rf he
    · exact fx _ _ _ _ _ _ _ ((A.trans A3).cut (Nat.le_of_eq m.len)) (m3.cut h2) hd (nin_take n1) n2 (rf.cut h3) he
theorem E_make (c : Str) (pm : List Nat) (n mm : Nat) (f : MP) {dvs : List V} {dfs : List Da} (D : DfL K dvs dfs) (s : SA K as ms) (sk : SA K as' ms') : SE K (fun W => tMakeP K c pm n mm (up K f) dvs (fun _ => E0) (as W) (as' W)) (fun W => mMake c pm n mm f dfs (ms W) (ms' W)) := ⟨fun {χ W W' σ H φ ρ M Q Q'} r mM w fe h =>
  s.run r mM w (fun vs ds H1 φ1 M1 A1 m1 r1 h1 => sk.run (r.adv A1) m1 (w.adv A1) (fun ws es H2 φ2 M2 A2 m2 r2 h2 => ⟨by rw [r1.len]; exact h2.1, by rw [r2.len]; exact h2.2.1,
    make_run D m2 (r1.adv A2) r2 (fe.adv (A1.trans A2)) (fun _ _ _ _ _ _ _ _ _ _ _ _ _ h => h.elim) h2.2.2⟩) h1) h⟩
theorem E_makeS (c : Str) (pm : List Nat) (n mm : Nat) (f : MP) {dvs : List V} {dfs : List Da} (D : DfL K dvs dfs) (s : SA K as ms) (sk : SA K as' ms') : SE K (fun W => tMakeP K c pm n mm (up K f) dvs (WE W) (as W) (as' W)) (fun W => mMakeS c pm n mm f dfs (ms W) (ms' W) W) := ⟨fun {χ W W' σ H φ ρ M Q Q'} r mM w fe h =>
  s.run r mM w (fun vs ds H1 φ1 M1 A1 m1 r1 h1 => sk.run (r.adv A1) m1 (w.adv A1) (fun ws es H2 φ2 M2 A2 m2 r2 h2 => ⟨by rw [r1.len]; exact h2.1, by rw [r2.len]; exact h2.2.1,
    make_run D m2 (r1.adv A2) r2 (fe.adv (A1.trans A2)) (fun c fs vfs dd H4 φ4 M4 A4 m4 hd n1 n2 rf q => w _ _ _ _ _ _ _ _ _ ((A1.trans A2).trans A4) (r.adv ((A1.trans A2).trans A4)) m4 hd n1 n2 rf q) h2.2.2⟩) h1) h⟩
end
section
variable {K : PySem.W.Frag}
theorem FX0 {χ φ : List Addr} {H : Hp} {E : XK} : FX K χ H φ XD0 E := fun _ _ _ _ _ _ _ _ _ _ _ _ _ h => h.elim
/-! len, ==, in, isinstance -/
def nLenO (c : Str) (pm : List Nat) (f : MP) (dfs : List Da) : List Da → Mem → TK → Prop := fun ds M Q => match ds with
  | [x] => match look M x with
    | .obj c' _ => c' = c ∧ f (perm pm ([x] ++ dfs)) M (fun d M' => ∃ i : Int, d = .int i ∧ 0 ≤ i ∧ i < 2 ^ 63 ∧ Q (.int i) M') XD0
    | _ => False
  | _ => False
theorem C_lenO {c : Str} {pm : List Nat} {f : MP} {dvs : List V} {dfs : List Da} (D : DfL K dvs dfs) : SC K (rLenO K c pm (up K f) dvs) (nLenO c pm f dfs) := by
  intro χ H φ M x dx Q Q' m hx fe h
  unfold nLenO at h
  split at h
  · obtain ⟨v, rfl, h1⟩ := hx.one
    split at h
    · rename_i c' fds e
      obtain ⟨rfl, h⟩ := h
      obtain ⟨a, dd, fs, rfl, ha, rf⟩ := vO m h1 e
      refine ⟨a, dd, fs, rfl, ha, φ, χ, M, _, _, _, ((RpL.cons h1 .nil).app (D _ _ _)).perm pm, m, ?_, FX0, h⟩
      rintro v d H' φ' M' A m' r' ⟨i, rfl, h0, hi, q⟩
      obtain rfl := vInt r'
      exact ⟨i, rfl, h0, hi, fe _ _ _ _ _ A m' (.int i) q⟩
    · exact h.elim
  · exact h.elim
def nEqO (c : Str) (pm : List Nat) (f : MP) (dfs : List Da) : MO := fun x y M Q => match look M x with
  | .obj c1 _ => match look M y with
    | .obj c2 _ => c1 = c ∧ c2 = c ∧ f (perm pm ([x, y] ++ dfs)) M (fun d M' => ∃ b : Bool, d = .bl b ∧ Q (.bl b) M') XD0
    | _ => False
  | _ => False
theorem O_eqO {c : Str} {pm : List Nat} {f : MP} {dvs : List V} {dfs : List Da} (D : DfL K dvs dfs) : SO K (rEqO K c pm (up K f) dvs) (nEqO c pm f dfs) := by
  intro χ H φ M x y dx dy Q Q' m hx hy fe h
  unfold nEqO at h
  split at h
  · rename_i c1 fds e1
    split at h
    · rename_i c2 gds e2
      obtain ⟨rfl, rfl, h⟩ := h
      obtain ⟨a, dd, fs, rfl, ha, rf⟩ := vO m hx e1
      obtain ⟨b, de, gs, rfl, hb, rg⟩ := vO m hy e2
      refine ⟨a, b, dd, de, fs, gs, rfl, rfl, ha, hb, φ, χ, M, _, _, _, ((RpL.cons hx (.cons hy .nil)).app (D _ _ _)).perm pm, m, ?_, FX0, h⟩
      rintro v d H' φ' M' A m' r' ⟨i, rfl, q⟩
      obtain rfl := vBl r'
      exact ⟨i, rfl, fe _ _ _ _ _ A m' (.bl i) q⟩
    · exact h.elim
  · exact h.elim
def nInO (c : Str) (pm : List Nat) (f : MP) (dfs : List Da) : MO := fun x y M Q => match look M y with
  | .obj c2 _ => c2 = c ∧ f (perm pm ([y, x] ++ dfs)) M (fun d M' => ∃ b : Bool, d = .bl b ∧ Q (.bl b) M') XD0
  | _ => False
def nNinO (c : Str) (pm : List Nat) (f : MP) (dfs : List Da) : MO := fun x y M Q => match look M y with
  | .obj c2 _ => c2 = c ∧ f (perm pm ([y, x] ++ dfs)) M (fun d M' => ∃ b : Bool, d = .bl b ∧ Q (.bl (!b)) M') XD0
  | _ => False
theorem O_inO {c : Str} {pm : List Nat} {f : MP} {dvs : List V} {dfs : List Da} (D : DfL K dvs dfs) : SO K (rInO K c pm (up K f) dvs) (nInO c pm f dfs) := by
  intro χ H φ M x y dx dy Q Q' m hx hy fe h
  unfold nInO at h
  split at h
  · rename_i c2 gds e2
    obtain ⟨rfl, h⟩ := h
    obtain ⟨b, de, gs, rfl, hb, rg⟩ := vO m hy e2
    refine ⟨b, de, gs, rfl, hb, φ, χ, M, _, _, _, ((RpL.cons hy (.cons hx .nil)).app (D _ _ _)).perm pm, m, ?_, FX0, h⟩
    rintro v d H' φ' M' A m' r' ⟨i, rfl, q⟩
    obtain rfl := vBl r'
    exact ⟨i, rfl, fe _ _ _ _ _ A m' (.bl i) q⟩
  · exact h.elim
theorem O_ninO {c : Str} {pm : List Nat} {f : MP} {dvs : List V} {dfs : List Da} (D : DfL K dvs dfs) : SO K (rNinO K c pm (up K f) dvs) (nNinO c pm f dfs) := by
  intro χ H φ M x y dx dy Q Q' m hx hy fe h
  unfold nNinO at h
  split at h
  · rename_i c2 gds e2
    obtain ⟨rfl, h⟩ := h
    obtain ⟨b, de, gs, rfl, hb, rg⟩ := vO m hy e2
    refine ⟨b, de, gs, rfl, hb, φ, χ, M, _, _, _, ((RpL.cons hy (.cons hx .nil)).app (D _ _ _)).perm pm, m, ?_, FX0, h⟩
    rintro v d H' φ' M' A m' r' ⟨i, rfl, q⟩
    obtain rfl := vBl r'
    exact ⟨i, rfl, fe _ _ _ _ _ A m' (.bl (!i)) q⟩
  · exact h.elim
def nIsiO (c : Str) : List Da → Mem → TK → Prop := fun ds M Q => match ds with
  | [x, .gl c'] => c' = c ∧ match look M x with
    | .obj c2 _ => c2 = c ∧ Q (.bl true) M
    | _ => match tyDa M x with
      | some _ => Q (.bl false) M
      | none => False
  | _ => False
theorem C_isiO {c : Str} (I : IsO K c) : SC K (rIsi K) (nIsiO c) := by
  intro χ H φ M x dx Q Q' m hx f h
  unfold nIsiO at h
  split at h
  · rename_i d c'
    obtain ⟨rfl, h⟩ := h
    obtain ⟨v, w, rfl, h1, h2⟩ := hx.two
    cases h2
    split at h
    · rename_i c2 fds e
      obtain ⟨rfl, h⟩ := h
      obtain ⟨a, dd, fs, rfl, ha, rf⟩ := vO m h1 e
      exact ⟨_, _, _, _, true, rfl, .own _, I.tyX ha, I.me, f.pure m (.bl _) h⟩
    · split at h
      · rename_i a e
        exact ⟨v, _, _, _, false, rfl, .own _, tyDa_X m h1 e, I.ty a (tyDa_in e), f.pure m (.bl _) h⟩
      · exact h.elim
  · exact h.elim
/-! == of dicts -/
def pdK : List (Key × Da) → Prop := fun ks => ∀ p ∈ ks, pd p.2
def eqKD (ks ls : List (Key × Da)) : Bool := decide (ks.length = ls.length) && ks.all fun p => match valD ls p.1 with
  | some e => eqD p.2 e
  | none => false
theorem RpK.weakP {H : Hp} {φ χ : List Addr} : ∀ {vs : List (Key × V)} {ds : List (Key × Da)}, RpK K H φ χ vs ds → pdK ds → RpK K H [] [] vs ds
  | _, _, .nil, _ => .nil
  | _, _, .cons h r, p => .cons (h.weak (p _ (List.mem_cons_self ..)).1) (r.weakP fun q hq => p q (List.mem_cons_of_mem _ hq))
theorem valD_mem {ls : List (Key × Da)} {k : Key} {d : Da} (h : valD ls k = some d) : (k, d) ∈ ls := by
  unfold valD at h
  obtain ⟨p, h1, h2⟩ := Option.map_eq_some_iff.1 h
  have := List.find?_some h1
  have e : p.1 = k := by simpa using this
  have m := List.mem_of_find?_eq_some h1
  rw [← e, ← h2]
  exact m
theorem khit_of {H : Hp} {us : List (Key × V)} {ls : List (Key × Da)} (rl : RpK K H [] [] us ls) (pl : pdK ls) : ∀ {vs : List (Key × V)} {ks : List (Key × Da)}, RpK K H [] [] vs ks → pdK ks →
    KHit (EqI K H 60) us vs (ks.all fun p => match valD ls p.1 with | some e => eqD p.2 e | none => false)
  | _, _, .nil, _ => .nil
  | _, _, .cons (k := k) (v := v) (d := d) (ds := r) h rr, p => by
    rw [List.all_cons]
    rcases rl.val (k := k) with ⟨e1, e2⟩ | ⟨u, d', e1, e2, rd⟩
    · simp only [e2, Bool.false_and]
      exact .miss e1
    · simp only [e2]
      have p1 := p _ (List.mem_cons_self ..)
      have p2 := pl _ (valD_mem e2)
      exact .hit e1 (eqI_of (n := 59) p1.1 p2.1 p1.2 p2.2 h rd) (khit_of rl pl rr fun q hq => p q (List.mem_cons_of_mem _ hq))
def nEqK : MO := fun x y M Q => match look M x with
  | .dct ks => match look M y with
    | .dct ls => pdK ks ∧ pdK ls ∧ Q (.bl (eqKD ks ls)) M
    | _ => False
  | _ => False
theorem O_eqK : SO K (rEqK K) nEqK := by
  intro χ H φ M x y dx dy Q Q' m hx hy fe h
  unfold nEqK at h
  split at h
  · rename_i ks e1
    split at h
    · rename_i ls e2
      obtain ⟨p1, p2, q⟩ := h
      obtain ⟨a, vs, rfl, ha, r1⟩ := vD m hx e1
      obtain ⟨b, us, rfl, hb, r2⟩ := vD m hy e2
      refine ⟨a, b, vs, us, _, rfl, rfl, ha, hb, fun _ => khit_of (r2.weakP p2) p2 (r1.weakP p1) p1, ?_⟩
      rw [r1.len, r2.len]
      exact fe.pure m (.bl _) q
    · exact h.elim
  · exact h.elim
end
end Z

/-! T12: comprehensions: a new list as a cell; two fors; dicts -/
namespace Z
open PySem PySem.Spec PyProof.Rows L2 Evl
/-- what stays true of the rest of the heap while a new object at D grows -/
theorem grow {χ : List Addr} {H0 : Hp} {φ0 : List Addr} {D : Addr} {z o1 o2 : HO} {H1 H2 : Hp} {φ1 φ2 : List Addr} (hd : H1 D = some o1) (n1 : D ∉ φ1) (A : Adv (upd H0 D z) φ0 (upd H1 D z) φ1) (B : Adv H1 φ1 H2 φ2) : Adv (upd H0 D z) φ0 (upd (upd H2 D o2) D z) φ2 := by
  rw [upd_upd]
  have n2 : D ∉ φ2 := B.nin hd n1
  refine A.trans ⟨fun a o e n => ?_, ?_, fun a e => ?_⟩
  · by_cases q : a = D
    · subst q
      rw [upd_same] at e ⊢
      exact e
    · rw [upd_ne q] at e ⊢
      exact B.keep a o e n
  · obtain ⟨ψ, e, q⟩ := B.pre
    refine ⟨ψ, e, fun a ha => ?_⟩
    have na : a ≠ D := fun z => n2 (by rw [e, ← z]; exact List.mem_append_right _ ha)
    rw [upd_ne na]
    exact q a ha
  · by_cases q : a = D
    · subst q
      rw [upd_same]
      simp
    · rw [upd_ne q] at e ⊢
      exact B.dom a e
theorem ungrow {H0 : Hp} {φ0 : List Addr} {D : Addr} {z : HO} {H1 : Hp} {φ1 : List Addr} (hD : H0 D = none) (A : Adv (upd H0 D z) φ0 (upd H1 D z) φ1) (hd : H1 D ≠ none) : Adv H0 φ0 H1 φ1 := by
  refine ⟨fun a o e n => ?_, ?_, fun a e => ?_⟩
  · have na : a ≠ D := ne_of_none e hD
    have := A.keep a o (by rw [upd_ne na]; exact e) n
    rw [upd_ne na] at this
    exact this
  · obtain ⟨ψ, e, q⟩ := A.pre
    refine ⟨ψ, e, fun a ha => ?_⟩
    have z := q a ha
    by_cases na : a = D
    · rw [na]; exact hD
    · rw [upd_ne na] at z; exact z
  · by_cases na : a = D
    · rw [na]; exact hd
    · have := A.dom a (by rw [upd_ne na]; exact e)
      rw [upd_ne na] at this
      exact this
theorem drop_at {α : Type} {l : List α} {k : Nat} {d : α} {ds : List α} (e2 : l.drop k = d :: ds) : k < l.length ∧ l[k]? = some d ∧ l.drop (k + 1) = ds := by
  refine ⟨?_, ?_, ?_⟩
  · have := congrArg List.length e2
    rw [List.length_drop] at this
    simp at this
    omega
  · have := congrArg (fun l => l[0]?) e2
    simpa using this
  · have := congrArg List.tail e2
    simpa using this
section
variable {K : PySem.W.Frag} {ta tb : WX → TE} {ma mb : WD → ME} {as as' : WX → TA} {ms ms' : WD → MA}
/-! ### one for, as a new cell -/
theorem N_lc {wi : WX → TI} {mi : WD → MI} {g : TG} {mg : MG} {tt : TT} {mt : MT} {te : TE} {me : ME} {vs : List Nat} (i : SI K wi mi) (v : SV K vs g mg) (t : ST K (fun _ => tt) (fun _ => mt)) (e : SE K (fun _ => te) (fun _ => me)) :
    SN K (fun W => tLc (wi W) g tt te vs) (fun W => mLc (mi W) mg mt me vs) := ⟨fun {χ W W' σ H φ ρ M Q Q'} r m w sh f h => by
  refine i.run r m w (fun J I H0 φ0 M0 A0 m0 T st h1 => ?_) h
  obtain ⟨hlen, h1⟩ := h1
  intro D hD
  have h0 : H D = none := by
    cases e : H D with
    | none => rfl
    | some o => exact absurd hD (A0.dom D (by rw [e]; simp))
  have nD : D ∉ φ0 := m0.nin hD
  have hχ : ∀ a ∈ D :: χ, a ∈ χ ∨ H0 a = none := hidden hD
  have AD : Adv H0 φ0 (upd H0 D (.lst [])) φ0 := Adv.new hD
  have inD : D ∈ D :: χ := List.mem_cons_self ..
  let Inv : Nat → Nat → Hp → Prop := fun k j H1 => ∃ φ1 M1 vs1 acc, k + j = I.items.length ∧ Adv (upd H0 D (.lst [])) φ0 (upd H1 D (.lst [])) φ1 ∧ D ∉ φ1 ∧ Mm K H1 φ1 (D :: χ) M1 ∧ Rs K H1 φ1 (D :: χ) σ ρ ∧ I.still M1 ∧ H1 D = some (.lst vs1) ∧ RpL K H1 φ1 (D :: χ) vs1 acc ∧ acc.length ≤ k ∧
    lcL I.still mg mt me vs ρ (I.items.drop k) acc M1 Q'
  refine ⟨Inv, ⟨I.items.length, φ0, M0, [], [], by omega, by rw [upd_upd]; exact Adv.refl, nD, m0.hideN hD, (r.adv A0).hideN hD, st, upd_same, .nil, Nat.le_refl _, by rw [List.drop_zero]; exact h1⟩, ?_⟩
  rintro k j H1 ⟨φ1, M1, vs1, acc, hk, A1, n1, m1, r1, st1, hd1, ra, la, q⟩
  have A01 : Adv H0 φ0 H1 φ1 := ungrow hD A1 (by rw [hd1]; simp)
  obtain ⟨go, stop⟩ := T H1 φ1 M1 (D :: χ) hχ A01.toX m1 st1
  cases e2 : I.items.drop k with
  | nil =>
    have hl : I.items.length ≤ k := by
      have := congrArg List.length e2
      rw [List.length_drop] at this
      simp at this
      omega
    have : k = I.items.length := by omega
    subst this
    rw [e2] at q
    exact .inl ⟨stop, f D (.lst acc) _ φ1 _ (A0.trans A01) h0 n1 (fun c => m0.hid D c hD) m1 ⟨vs1, hd1, ra⟩ q⟩
  | cons d ds =>
    obtain ⟨hl, ed, eds⟩ := drop_at e2
    rw [e2] at q
    obtain ⟨g1, y1⟩ := go k hl
    refine .inr ⟨g1, fun H' => ∃ φ' M' vs' acc', Adv (upd H0 D (.lst [])) φ0 (upd H' D (.lst [])) φ' ∧ D ∉ φ' ∧ Mm K H' φ' (D :: χ) M' ∧ Rs K H' φ' (D :: χ) σ ρ ∧ I.still M' ∧ H' D = some (.lst vs') ∧ RpL K H' φ' (D :: χ) vs' acc' ∧ acc'.length ≤ k + 1 ∧
      lcL I.still mg mt me vs ρ ds acc' M' Q', ?_, ?_⟩
    · rintro H' ⟨φ', M', vs', acc', a1, a2, a3, a4, a5, a6, a7, a8, a9⟩
      exact ⟨j - 1, by omega, φ', M', vs', acc', by omega, a1, a2, a3, a4, a5, a6, a7, a8, by rw [eds]; exact a9⟩
    · intro x H2 y
      obtain ⟨d', hd', A2, m2, rx⟩ := y1 x H2 y
      rw [ed] at hd'
      cases hd'
      refine v.run ((r1.adv A2).wipe vs) m2 rx (fun σ3 H3 φ3 ρ3 M3 A3 r3 m3 e3 h3 => ⟨e3.trans (wipe_wipe vs), ?_⟩) q
      refine t.run (W := W0) r3 m3 FW0 (fun b H4 φ4 M4 A4 m4 h4 => ?_) h3
      have A14 := (A2.trans A3).trans A4
      have hd4 : H4 D = some (.lst vs1) := A14.keep D _ hd1 n1
      have n4 : D ∉ φ4 := A14.nin hd1 n1
      cases b with
      | false =>
        refine iteF ?_
        obtain ⟨s4, q4⟩ := h4
        have sh := grow (χ := χ) (o2 := .lst vs1) hd1 n1 A1 A14
        rw [show upd (upd H4 D (.lst vs1)) D (.lst []) = upd H4 D (.lst []) from upd_upd] at sh
        exact ⟨φ4, M4, vs1, acc, sh, n4, m4, r1.adv A14, s4, hd4, ra.adv A14, by omega, q4⟩
      | true =>
        refine iteT ?_
        refine e.run (W := W0) (r3.adv A4) m4 FW0 (fun u z H5 φ5 M5 A5 m5 r5 h5 => ?_) h4
        obtain ⟨s5, q5⟩ := h5
        have A15 := A14.trans A5
        have hd5 : H5 D = some (.lst vs1) := A15.keep D _ hd1 n1
        have n5 : D ∉ φ5 := A15.nin hd1 n1
        refine ⟨vs1, hd5, ?_, φ5, M5, vs1 ++ [u], acc ++ [z], grow (χ := χ) hd1 n1 A1 A15, n5, m5.updH inD, (r1.adv A15).updH inD, s5, upd_same, ((ra.adv A15).app (.cons r5 .nil)).at_ inD, ?_, q5⟩
        · rw [ra.len, sizeLine_eq]
          omega
        · rw [List.length_append]
          simp
          omega⟩
/-! ### a dict -/
def dcL (still : Mem → Prop) (g : MG) (tt : MT) (tk tv : ME) (vs : List Nat) (ρ : Sl) : List Da → List (Key × Da) → Mem → TK → Prop
  | [], acc, M, Q => Q (.dct acc) M
  | d :: ds, acc, M, Q => g d (wipeD ρ vs) M fun ρ2 M2 => tt ρ2 M2 fun b M3 => if b = true then tk ρ2 M3 fun y M4 => tv ρ2 M4 fun z M5 => ∃ k, keyD y = some k ∧ still M5 ∧ dcL still g tt tk tv vs ρ ds (putD acc k z) M5 Q else still M3 ∧ dcL still g tt tk tv vs ρ ds acc M3 Q
def mDc (mi : MI) (g : MG) (tt : MT) (tk tv : ME) (vs : List Nat) : ME := fun ρ M Q => mi ρ M fun I M1 => I.items.length ≤ 1000000 ∧ dcL I.still g tt tk tv vs ρ I.items [] M1 Q
theorem putD_len1 (kds : List (Key × Da)) (k : Key) (d : Da) : (putD kds k d).length ≤ kds.length + 1 := by
  unfold putD
  split
  · rw [List.length_map]; omega
  · rw [List.length_append]; simp
theorem E_dc {wi : WX → TI} {mi : WD → MI} {g : TG} {mg : MG} {tt : TT} {mt : MT} {tk tv : TE} {mk mv : ME} {vs : List Nat} (i : SI K wi mi) (v : SV K vs g mg) (t : ST K (fun _ => tt) (fun _ => mt)) (ek : SE K (fun _ => tk) (fun _ => mk)) (ev : SE K (fun _ => tv) (fun _ => mv)) :
    SE K (fun W => tDc (wi W) g tt tk tv vs) (fun W => mDc (mi W) mg mt mk mv vs) := ⟨fun {χ W W' σ H φ ρ M Q Q'} r m w f h => by
  refine i.run r m w (fun J I H0 φ0 M0 A0 m0 T st h1 => ?_) h
  obtain ⟨hlen, h1⟩ := h1
  intro D hD
  have nD : D ∉ φ0 := m0.nin hD
  have hχ : ∀ a ∈ D :: χ, a ∈ χ ∨ H0 a = none := hidden hD
  have AD : Adv H0 φ0 (upd H0 D (.dK [])) φ0 := Adv.new hD
  have inD : D ∈ D :: χ := List.mem_cons_self ..
  let Inv : Nat → Nat → Hp → Prop := fun k j H1 => ∃ φ1 M1 vs1 acc, k + j = I.items.length ∧ Adv (upd H0 D (.dK [])) φ0 (upd H1 D (.dK [])) φ1 ∧ D ∉ φ1 ∧ Mm K H1 φ1 (D :: χ) M1 ∧ Rs K H1 φ1 (D :: χ) σ ρ ∧ I.still M1 ∧ H1 D = some (.dK vs1) ∧ RpK K H1 φ1 (D :: χ) vs1 acc ∧ acc.length ≤ k ∧
    dcL I.still mg mt mk mv vs ρ (I.items.drop k) acc M1 Q'
  refine ⟨Inv, ⟨I.items.length, φ0, M0, [], [], by omega, by rw [upd_upd]; exact Adv.refl, nD, m0.hideN hD, (r.adv A0).hideN hD, st, upd_same, .nil, Nat.le_refl _, by rw [List.drop_zero]; exact h1⟩, ?_⟩
  rintro k j H1 ⟨φ1, M1, vs1, acc, hk, A1, n1, m1, r1, st1, hd1, ra, la, q⟩
  have A01 : Adv H0 φ0 H1 φ1 := ungrow hD A1 (by rw [hd1]; simp)
  obtain ⟨go, stop⟩ := T H1 φ1 M1 (D :: χ) hχ A01.toX m1 st1
  cases e2 : I.items.drop k with
  | nil =>
    have hl : I.items.length ≤ k := by
      have := congrArg List.length e2
      rw [List.length_drop] at this
      simp at this
      omega
    have : k = I.items.length := by omega
    subst this
    rw [e2] at q
    exact .inl ⟨stop, f _ _ _ φ1 _ (A0.trans A01) m1.bare (.dct hd1 rfl n1 (fun c => m0.hid D c hD) ra.bare) q⟩
  | cons d ds =>
    obtain ⟨hl, ed, eds⟩ := drop_at e2
    rw [e2] at q
    obtain ⟨g1, y1⟩ := go k hl
    refine .inr ⟨g1, fun H' => ∃ φ' M' vs' acc', Adv (upd H0 D (.dK [])) φ0 (upd H' D (.dK [])) φ' ∧ D ∉ φ' ∧ Mm K H' φ' (D :: χ) M' ∧ Rs K H' φ' (D :: χ) σ ρ ∧ I.still M' ∧ H' D = some (.dK vs') ∧ RpK K H' φ' (D :: χ) vs' acc' ∧ acc'.length ≤ k + 1 ∧
      dcL I.still mg mt mk mv vs ρ ds acc' M' Q', ?_, ?_⟩
    · rintro H' ⟨φ', M', vs', acc', a1, a2, a3, a4, a5, a6, a7, a8, a9⟩
      exact ⟨j - 1, by omega, φ', M', vs', acc', by omega, a1, a2, a3, a4, a5, a6, a7, a8, by rw [eds]; exact a9⟩
    · intro x H2 y
      obtain ⟨d', hd', A2, m2, rx⟩ := y1 x H2 y
      rw [ed] at hd'
      cases hd'
      refine v.run ((r1.adv A2).wipe vs) m2 rx (fun σ3 H3 φ3 ρ3 M3 A3 r3 m3 e3 h3 => ⟨e3.trans (wipe_wipe vs), ?_⟩) q
      refine t.run (W := W0) r3 m3 FW0 (fun b H4 φ4 M4 A4 m4 h4 => ?_) h3
      have A14 := (A2.trans A3).trans A4
      have hd4 : H4 D = some (.dK vs1) := A14.keep D _ hd1 n1
      have n4 : D ∉ φ4 := A14.nin hd1 n1
      cases b with
      | false =>
        refine iteF ?_
        obtain ⟨s4, q4⟩ := h4
        have sh := grow (χ := χ) (o2 := .dK vs1) hd1 n1 A1 A14
        rw [show upd (upd H4 D (.dK vs1)) D (.dK []) = upd H4 D (.dK []) from upd_upd] at sh
        exact ⟨φ4, M4, vs1, acc, sh, n4, m4, r1.adv A14, s4, hd4, ra.adv A14, by omega, q4⟩
      | true =>
        refine iteT ?_
        refine ek.run (W := W0) (r3.adv A4) m4 FW0 (fun u z H5 φ5 M5 A5 m5 r5 h5 => ?_) h4
        refine ev.run (W := W0) (r3.adv (A4.trans A5)) m5 FW0 (fun u2 z2 H6 φ6 M6 A6 m6 r6 h6 => ?_) h5
        obtain ⟨kk, ekk, s6, q6⟩ := h6
        have A16 := (A14.trans A5).trans A6
        have hd6 : H6 D = some (.dK vs1) := A16.keep D _ hd1 n1
        have n6 : D ∉ φ6 := A16.nin hd1 n1
        refine ⟨vs1, kk, keyD_of r5 ekk, hd6, ?_, φ6, M6, putK vs1 kk u2, putD acc kk z2, grow (χ := χ) hd1 n1 A1 A16, n6, m6.updH inD, (r1.adv A16).updH inD, s6, upd_same, ((ra.adv A16).put r6).at_ inD, ?_, q6⟩
        · rw [ra.len, sizeLine_eq]
          omega
        · have := putD_len1 acc kk z2
          omega⟩
end
end Z

/-! T13: two fors; enumerate of lists and tuples -/
namespace Z
open PySem PySem.Spec PyProof.Rows L2 Evl
def lcIn (still : Mem → Prop) (g : MG) (tt : MT) (te : ME) (vs : List Nat) (ρ : Sl) (C : List Da → Mem → Prop) : List Da → List Da → Mem → Prop
  | [], acc, M => C acc M
  | d :: ds, acc, M => g d (wipeD ρ vs) M fun ρ2 M2 => tt ρ2 M2 fun b M3 => if b = true then te ρ2 M3 fun y M4 => acc.length ≤ 1000000 ∧ still M4 ∧ lcIn still g tt te vs ρ C ds (acc ++ [y]) M4 else still M3 ∧ lcIn still g tt te vs ρ C ds acc M3
def lcL2 (still : Mem → Prop) (g : MG) (tt : MT) (mi : MI) (g1 : MG) (tt1 : MT) (te : ME) (vs vs1 : List Nat) (ρ : Sl) : List Da → List Da → Mem → TK → Prop
  | [], acc, M, Q => Q (.lst acc) M
  | d :: ds, acc, M, Q => g d (wipeD ρ vs) M fun ρ2 M2 => tt ρ2 M2 fun b M3 => if b = true then mi ρ2 M3 fun I1 M4 => lcIn I1.still g1 tt1 te vs1 ρ2 (fun acc' M5 => still M5 ∧ lcL2 still g tt mi g1 tt1 te vs vs1 ρ ds acc' M5 Q) I1.items acc M4
      else still M3 ∧ lcL2 still g tt mi g1 tt1 te vs vs1 ρ ds acc M3 Q
def mLc2 (mi : MI) (g : MG) (tt : MT) (mi1 : MI) (g1 : MG) (tt1 : MT) (te : ME) (vs vs1 : List Nat) : ME := fun ρ M Q => mi ρ M fun I M1 => lcL2 I.still g tt mi1 g1 tt1 te vs vs1 ρ I.items [] M1 Q
section
variable {K : PySem.W.Frag} {as : WX → TA} {ms : WD → MA}
theorem lc2_run {wi : WX → TI} {mi : WD → MI} {g : TG} {mg : MG} {tt : TT} {mt : MT} {wi1 : TI} {mi1 : MI} {g1 : TG} {mg1 : MG} {tt1 : TT} {mt1 : MT} {te : TE} {me : ME} {vs vs1 : List Nat} (i : SI K wi mi) (v : SV K vs g mg) (t : ST K (fun _ => tt) (fun _ => mt))
    (i1 : SI K (fun _ => wi1) (fun _ => mi1)) (v1 : SV K vs1 g1 mg1) (t1 : ST K (fun _ => tt1) (fun _ => mt1)) (e : SE K (fun _ => te) (fun _ => me))
    {χ : List Addr} {W : WX} {W' : WD} {σ : L2.St} {H : Hp} {φ : List Addr} {ρ : Sl} {M : Mem} {Q : VK} {Q' : TK} (r : Rs K H φ χ σ ρ) (m : Mm K H φ χ M) (w : FW K χ H φ W' W)
    (f : ∀ D vs2 acc H' φ' M', Adv H φ H' φ' → H D = none → D ∉ φ' → D ∉ χ → Mm K H' φ' (D :: χ) M' → H' D = some (.lst vs2) → RpL K H' φ' (D :: χ) vs2 acc → Q' (.lst acc) M' → Q (.ref D) H')
    (h : mLc2 (mi W') mg mt mi1 mg1 mt1 me vs vs1 ρ M Q') : tLc2 (wi W) g tt wi1 g1 tt1 te vs vs1 σ H Q := by
  refine i.run r m w (fun J I H0 φ0 M0 A0 m0 T st h1 => ?_) h
  intro D hD
  have h0 : H D = none := by
    cases e : H D with
    | none => rfl
    | some o => exact absurd hD (A0.dom D (by rw [e]; simp))
  have nD : D ∉ φ0 := m0.nin hD
  have hχ : ∀ a ∈ D :: χ, a ∈ χ ∨ H0 a = none := hidden hD
  have inD : D ∈ D :: χ := List.mem_cons_self ..
  let Inv : Nat → Nat → Hp → Prop := fun k j H1 => ∃ φ1 M1 vs2 acc, k + j = I.items.length ∧ Adv (upd H0 D (.lst [])) φ0 (upd H1 D (.lst [])) φ1 ∧ D ∉ φ1 ∧ Mm K H1 φ1 (D :: χ) M1 ∧ Rs K H1 φ1 (D :: χ) σ ρ ∧ I.still M1 ∧ H1 D = some (.lst vs2) ∧ RpL K H1 φ1 (D :: χ) vs2 acc ∧
    lcL2 I.still mg mt mi1 mg1 mt1 me vs vs1 ρ (I.items.drop k) acc M1 Q'
  refine ⟨Inv, ⟨I.items.length, φ0, M0, [], [], by omega, by rw [upd_upd]; exact Adv.refl, nD, m0.hideN hD, (r.adv A0).hideN hD, st, upd_same, .nil, by rw [List.drop_zero]; exact h1⟩, ?_⟩
  rintro k j H1 ⟨φ1, M1, vs2, acc, hk, A1, n1, m1, r1, st1, hd1, ra, q⟩
  have A01 : Adv H0 φ0 H1 φ1 := ungrow hD A1 (by rw [hd1]; simp)
  obtain ⟨go, stop⟩ := T H1 φ1 M1 (D :: χ) hχ A01.toX m1 st1
  cases e2 : I.items.drop k with
  | nil =>
    have hl : I.items.length ≤ k := by
      have := congrArg List.length e2
      rw [List.length_drop] at this
      simp at this
      omega
    have : k = I.items.length := by omega
    subst this
    rw [e2] at q
    exact .inl ⟨stop, f D vs2 acc _ φ1 _ (A0.trans A01) h0 n1 (fun c => m0.hid D c hD) m1 hd1 ra q⟩
  | cons d ds =>
    obtain ⟨hl, ed, eds⟩ := drop_at e2
    rw [e2] at q
    obtain ⟨g1', y1⟩ := go k hl
    let Nx : Hp → Prop := fun H' => ∃ φ' M' vs' acc', Adv (upd H0 D (.lst [])) φ0 (upd H' D (.lst [])) φ' ∧ D ∉ φ' ∧ Mm K H' φ' (D :: χ) M' ∧ Rs K H' φ' (D :: χ) σ ρ ∧ I.still M' ∧ H' D = some (.lst vs') ∧ RpL K H' φ' (D :: χ) vs' acc' ∧
      lcL2 I.still mg mt mi1 mg1 mt1 me vs vs1 ρ ds acc' M' Q'
    refine .inr ⟨g1', Nx, ?_, ?_⟩
    · rintro H' ⟨φ', M', vs', acc', a1, a2, a3, a4, a5, a6, a7, a9⟩
      exact ⟨j - 1, by omega, φ', M', vs', acc', by omega, a1, a2, a3, a4, a5, a6, a7, by rw [eds]; exact a9⟩
    · intro x H2 y
      obtain ⟨d', hd', A2, m2, rx⟩ := y1 x H2 y
      rw [ed] at hd'
      cases hd'
      refine v.run ((r1.adv A2).wipe vs) m2 rx (fun σ3 H3 φ3 ρ3 M3 A3 r3 m3 e3 h3 => ⟨e3.trans (wipe_wipe vs), ?_⟩) q
      refine t.run (W := W0) r3 m3 FW0 (fun b H4 φ4 M4 A4 m4 h4 => ?_) h3
      have A14 := (A2.trans A3).trans A4
      have hd4 : H4 D = some (.lst vs2) := A14.keep D _ hd1 n1
      have n4 : D ∉ φ4 := A14.nin hd1 n1
      cases b with
      | false =>
        refine iteF ?_
        obtain ⟨s4, q4⟩ := h4
        have sh := grow (χ := χ) (o2 := .lst vs2) hd1 n1 A1 A14
        rw [show upd (upd H4 D (.lst vs2)) D (.lst []) = upd H4 D (.lst []) from upd_upd] at sh
        exact ⟨φ4, M4, vs2, acc, sh, n4, m4, r1.adv A14, s4, hd4, ra.adv A14, q4⟩
      | true =>
        refine iteT ?_
        refine i1.run (W := W0) (r3.adv A4) m4 FW0 (fun J1 I1 H5 φ5 M5 A5 m5 T1 st5 h5 => ?_) h4
        have A15 := A14.trans A5
        have hd5 : H5 D = some (.lst vs2) := A15.keep D _ hd1 n1
        have n5 : D ∉ φ5 := A15.nin hd1 n1
        have r35 := r3.adv (A4.trans A5)
        let Inv1 : Nat → Nat → Hp → Prop := fun k1 j1 H6 => ∃ φ6 M6 vs3 acc3, k1 + j1 = I1.items.length ∧ Adv (upd H5 D (.lst [])) φ5 (upd H6 D (.lst [])) φ6 ∧ D ∉ φ6 ∧ Mm K H6 φ6 (D :: χ) M6 ∧ Rs K H6 φ6 (D :: χ) σ ρ ∧ Rs K H6 φ6 (D :: χ) σ3 ρ3 ∧ I1.still M6 ∧ H6 D = some (.lst vs3) ∧ RpL K H6 φ6 (D :: χ) vs3 acc3 ∧
          Adv (upd H0 D (.lst [])) φ0 (upd H6 D (.lst [])) φ6 ∧
          lcIn I1.still mg1 mt1 me vs1 ρ3 (fun acc' M5 => I.still M5 ∧ lcL2 I.still mg mt mi1 mg1 mt1 me vs vs1 ρ ds acc' M5 Q') (I1.items.drop k1) acc3 M6
        have sh5 := grow (χ := χ) (o2 := .lst []) hd1 n1 A1 A15
        rw [show upd (upd H5 D (.lst [])) D (.lst []) = upd H5 D (.lst []) from upd_upd] at sh5
        refine ⟨Inv1, ⟨I1.items.length, φ5, M5, vs2, acc, by omega, Adv.refl, n5, m5, r1.adv A15, r35, st5, hd5, ra.adv A15, sh5, by rw [List.drop_zero]; exact h5⟩, ?_⟩
        rintro k1 j1 H6 ⟨φ6, M6, vs3, acc3, hk1, A6, n6, m6, r6, r63, st6, hd6, ra6, sh6, q6⟩
        have X6 : AdvX (D :: χ) H5 φ5 H6 φ6 := by
          refine ⟨fun a o ea na nx => ?_, ?_⟩
          · have ne : a ≠ D := fun z => nx (by rw [z]; exact inD)
            have := A6.keep a o (by rw [upd_ne ne]; exact ea) na
            rw [upd_ne ne] at this
            exact this
          · obtain ⟨ψ, eψ, zz⟩ := A6.pre
            refine ⟨ψ, eψ, fun a ha => ?_⟩
            have na : a ≠ D := fun z => n6 (by rw [eψ, ← z]; exact List.mem_append_right _ ha)
            have := zz a ha
            rw [upd_ne na] at this
            exact this
        obtain ⟨go1, stop1⟩ := T1 H6 φ6 M6 (D :: χ) (fun a ha => .inl ha) X6 m6 st6
        cases e7 : I1.items.drop k1 with
        | nil =>
          have hl1 : I1.items.length ≤ k1 := by
            have := congrArg List.length e7
            rw [List.length_drop] at this
            simp at this
            omega
          have : k1 = I1.items.length := by omega
          subst this
          rw [e7] at q6
          obtain ⟨s7, q7⟩ := q6
          exact .inl ⟨stop1, φ6, M6, vs3, acc3, sh6, n6, m6, r6, s7, hd6, ra6, q7⟩
        | cons d1 ds1 =>
          obtain ⟨hl1, ed1, eds1⟩ := drop_at e7
          rw [e7] at q6
          obtain ⟨g2, y2⟩ := go1 k1 hl1
          refine .inr ⟨g2, fun H' => ∃ φ' M' vs' acc', Adv (upd H5 D (.lst [])) φ5 (upd H' D (.lst [])) φ' ∧ D ∉ φ' ∧ Mm K H' φ' (D :: χ) M' ∧ Rs K H' φ' (D :: χ) σ ρ ∧ Rs K H' φ' (D :: χ) σ3 ρ3 ∧ I1.still M' ∧ H' D = some (.lst vs') ∧ RpL K H' φ' (D :: χ) vs' acc' ∧
            Adv (upd H0 D (.lst [])) φ0 (upd H' D (.lst [])) φ' ∧ lcIn I1.still mg1 mt1 me vs1 ρ3 (fun acc' M5 => I.still M5 ∧ lcL2 I.still mg mt mi1 mg1 mt1 me vs vs1 ρ ds acc' M5 Q') ds1 acc' M', ?_, ?_⟩
          · rintro H' ⟨φ', M', vs', acc', a1, a2, a3, a4, a5, a6, a7, a8, a9, b1⟩
            exact ⟨j1 - 1, by omega, φ', M', vs', acc', by omega, a1, a2, a3, a4, a5, a6, a7, a8, a9, by rw [eds1]; exact b1⟩
          · intro x1 H7 y7
            obtain ⟨d1', hd1', A7, m7, rx7⟩ := y2 x1 H7 y7
            rw [ed1] at hd1'
            cases hd1'
            refine v1.run ((r63.adv A7).wipe vs1) m7 rx7 (fun σ8 H8 φ8 ρ8 M8 A8 r8 m8 e8 h8 => ⟨e8.trans (wipe_wipe vs1), ?_⟩) q6
            refine t1.run (W := W0) r8 m8 FW0 (fun b H9 φ9 M9 A9 m9 h9 => ?_) h8
            have A69 := (A7.trans A8).trans A9
            have hd9 : H9 D = some (.lst vs3) := A69.keep D _ hd6 n6
            have n9 : D ∉ φ9 := A69.nin hd6 n6
            cases b with
            | false =>
              refine iteF ?_
              obtain ⟨s9, q9⟩ := h9
              have a := grow (χ := χ) (o2 := .lst vs3) hd6 n6 A6 A69
              have b := grow (χ := χ) (o2 := .lst vs3) hd6 n6 sh6 A69
              rw [show upd (upd H9 D (.lst vs3)) D (.lst []) = upd H9 D (.lst []) from upd_upd] at a b
              exact ⟨φ9, M9, vs3, acc3, a, n9, m9, r6.adv A69, r63.adv A69, s9, hd9, ra6.adv A69, b, q9⟩
            | true =>
              refine iteT ?_
              refine e.run (W := W0) (r8.adv A9) m9 FW0 (fun u z Ha φa Ma Aa ma ra' ha => ?_) h9
              obtain ⟨la, sa, qa⟩ := ha
              have A6a := A69.trans Aa
              have hda : Ha D = some (.lst vs3) := A6a.keep D _ hd6 n6
              have na : D ∉ φa := A6a.nin hd6 n6
              refine ⟨vs3, hda, ?_, φa, Ma, vs3 ++ [u], acc3 ++ [z], grow (χ := χ) hd6 n6 A6 A6a, na, ma.updH inD, (r6.adv A6a).updH inD, (r63.adv A6a).updH inD, sa, upd_same, ((ra6.adv A6a).app (.cons ra' .nil)).at_ inD, grow (χ := χ) hd6 n6 sh6 A6a, qa⟩
              rw [ra6.len, sizeLine_eq]
              omega
theorem E_lc2 {wi : WX → TI} {mi : WD → MI} {g : TG} {mg : MG} {tt : TT} {mt : MT} {wi1 : TI} {mi1 : MI} {g1 : TG} {mg1 : MG} {tt1 : TT} {mt1 : MT} {te : TE} {me : ME} {vs vs1 : List Nat} (i : SI K wi mi) (v : SV K vs g mg) (t : ST K (fun _ => tt) (fun _ => mt))
    (i1 : SI K (fun _ => wi1) (fun _ => mi1)) (v1 : SV K vs1 g1 mg1) (t1 : ST K (fun _ => tt1) (fun _ => mt1)) (e : SE K (fun _ => te) (fun _ => me)) : SE K (fun W => tLc2 (wi W) g tt wi1 g1 tt1 te vs vs1) (fun W => mLc2 (mi W) mg mt mi1 mg1 mt1 me vs vs1) := ⟨fun r m w fe h =>
  lc2_run i v t i1 v1 t1 e r m w (fun D vs2 acc H' φ' M' A hD nD nx m' hd ra q => fe _ _ _ φ' _ A m'.bare (.lst hd nD nx ra.bare) q) h⟩
theorem N_lc2 {wi : WX → TI} {mi : WD → MI} {g : TG} {mg : MG} {tt : TT} {mt : MT} {wi1 : TI} {mi1 : MI} {g1 : TG} {mg1 : MG} {tt1 : TT} {mt1 : MT} {te : TE} {me : ME} {vs vs1 : List Nat} (i : SI K wi mi) (v : SV K vs g mg) (t : ST K (fun _ => tt) (fun _ => mt))
    (i1 : SI K (fun _ => wi1) (fun _ => mi1)) (v1 : SV K vs1 g1 mg1) (t1 : ST K (fun _ => tt1) (fun _ => mt1)) (e : SE K (fun _ => te) (fun _ => me)) : SN K (fun W => tLc2 (wi W) g tt wi1 g1 tt1 te vs vs1) (fun W => mLc2 (mi W) mg mt mi1 mg1 mt1 me vs vs1) := ⟨fun r m w sh f h =>
  lc2_run i v t i1 v1 t1 e r m w (fun D vs2 acc H' φ' M' A hD nD nx m' hd ra q => f D (.lst acc) _ φ' _ A hD nD nx m' ⟨vs2, hd, ra⟩ q) h⟩
/-! enumerate of a list or a tuple -/
def iEnumA (K : PySem.W.Frag) (ta : TA) : TI := fun σ H R => ta σ H fun vs H1 => ∃ a xs, vs = [.ref a] ∧ ((SqL K H1 a xs ∧ R (Ite K a) H1) ∨ (SqT K H1 a xs ∧ R (IteT K a) H1))
theorem pi_enumA {X : Cx} {e : Expr} {ta : TA} {p pos tpos : Pos} {elts : List Expr} {kk : Nat} (hg : Gl X "enumerate") (hm : X.mg "enumerate" = none) (ha : PA X [e] ta) (hs : starEach [e] X.env = [(false, eval e X.env)] := by rfl) :
    PI X (.Tuple elts kk tpos) (.Call (.Name "enumerate" p) [e] [] pos) (iEnumA X.K ta) := by
  refine ⟨fun pins s σ H R I h => ?_⟩
  refine Call_ (ld_blt I hg hm boot_enumerate (PyProof.Rows.callWith_type1 (thn (ha.run pos pins s σ H _ I h) fun us s1 ⟨vs, H1, I1, r1, q1⟩ => ?_) hs rfl))
  obtain ⟨a, xs, ex, q1⟩ := q1
  subst ex
  cases r1 with
  | cons r rr =>
    cases rr
    cases r
    rcases q1 with ⟨hq, q⟩ | ⟨hq, q⟩
    · exact enum_list I1 hq q
    · exact enum_tup I1 hq q
def mEnumA (s : MA) : MI := fun ρ M R => s ρ M fun xs M1 => match xs with
  | [x] => match look M1 x with
    | .lst ds => R ⟨enuD ds, fun M2 => look M2 x = .lst ds⟩ M1
    | .tup ds => R ⟨enuD ds, fun M2 => look M2 x = .tup ds⟩ M1
    | _ => False
  | _ => False
theorem I_enumA (s : SA K as ms) : SI K (fun W => iEnumA K (as W)) (fun W => mEnumA (ms W)) := ⟨fun {χ W W' σ H φ ρ M R R'} r m w f h => by
  refine s.run r m w (fun vs xs H1 φ1 M1 A1 m1 r1 h1 => ?_) h
  split at h1
  · rename_i x
    obtain ⟨v, rfl, hv⟩ := r1.one
    split at h1
    · rename_i ds e
      obtain ⟨a, vs, rfl, hs, rl⟩ := vL m1 hv e
      refine ⟨a, vs, rfl, .inl ⟨hs, f _ _ _ _ _ A1 m1 ?_ e h1⟩⟩
      intro H φ M χ1 hχ A m st
      have hv2 := Rp.at1 hχ A hv
      obtain ⟨b, ws, eb, hs2, rl2⟩ := vL m hv2 st
      cases eb
      refine ⟨fun i hi => ?_, ⟨ws, hs2, by show _ ≤ (enuD ds).length; rw [enuD_len, rl2.len]; exact Nat.le_refl _⟩⟩
      have hi : i < ds.length := by rw [← enuD_len]; exact hi
      obtain ⟨y, hy, ry⟩ := rl2.get (i := i) (d := ds[i]) (by simp [hi])
      refine ⟨⟨ws, y, hs2, hy⟩, ?_⟩
      rintro u H' ⟨T, z, rfl, hT, rfl, hz⟩
      have ez : z = y := Option.some.inj ((hz ws hs2).symm.trans hy)
      subst ez
      refine ⟨_, enuD_at (List.getElem?_eq_getElem hi), Adv.new hT, m.new hT, ?_⟩
      exact .tup upd_same (m.nin hT) (fun c => m.hid T c hT) (.cons (.int _) (.cons (ry.adv (Adv.new hT)) .nil))
    · rename_i ds e
      obtain ⟨a, vs, rfl, hs, rl⟩ := vT m1 hv e
      refine ⟨a, vs, rfl, .inr ⟨hs, f _ _ _ _ _ A1 m1 ?_ e h1⟩⟩
      intro H φ M χ1 hχ A m st
      have hv2 := Rp.at1 hχ A hv
      obtain ⟨b, ws, eb, hs2, rl2⟩ := vT m hv2 st
      cases eb
      refine ⟨fun i hi => ?_, ⟨ws, hs2, by show _ ≤ (enuD ds).length; rw [enuD_len, rl2.len]; exact Nat.le_refl _⟩⟩
      have hi : i < ds.length := by rw [← enuD_len]; exact hi
      obtain ⟨y, hy, ry⟩ := rl2.get (i := i) (d := ds[i]) (by simp [hi])
      refine ⟨⟨ws, y, hs2, hy⟩, ?_⟩
      rintro u H' ⟨T, z, rfl, hT, rfl, hz⟩
      have ez : z = y := Option.some.inj ((hz ws hs2).symm.trans hy)
      subst ez
      refine ⟨_, enuD_at (List.getElem?_eq_getElem hi), Adv.new hT, m.new hT, ?_⟩
      exact .tup upd_same (m.nin hT) (fun c => m.hid T c hT) (.cons (.int _) (.cons (ry.adv (Adv.new hT)) .nil))
    · exact h1.elim
  · exact h1.elim⟩
end
end Z

/-! T14: == and != of data with dicts and cells within; instances compared with other things -/
namespace Z
open PySem PySem.Spec PyProof.Rows L2 Evl
mutual
/-- plain, dicts too -/
def plE : Da → Bool
  | .non => true
  | .bl _ => true
  | .int _ => true
  | .str _ => true
  | .tup ds => plEL ds
  | .lst ds => plEL ds
  | .dct ks => plEK ks && decide ((ks.map (·.1)).Nodup)
  | _ => false
def plEL : List Da → Bool
  | [] => true
  | d :: ds => plE d && plEL ds
def plEK : List (Key × Da) → Bool
  | [] => true
  | (_, d) :: ds => plE d && plEK ds
end
mutual
def dpE : Da → Nat
  | .tup ds => dpEL ds + 1
  | .lst ds => dpEL ds + 1
  | .dct ks => dpEK ks + 1
  | _ => 0
def dpEL : List Da → Nat
  | [] => 0
  | d :: ds => max (dpE d) (dpEL ds)
def dpEK : List (Key × Da) → Nat
  | [] => 0
  | (_, d) :: ds => max (dpE d) (dpEK ds)
end
mutual
/-- ==, where it is known: a dict is compared with dicts alone -/
def eqE : Da → Da → Option Bool
  | .tup a, .tup b => eqEL a b
  | .lst a, .lst b => if a.length = b.length then eqEL a b else some false
  | .dct a, .dct b => if a.length = b.length then eqEK b a else some false
  | .dct _, _ => none
  | _, .dct _ => none
  | .non, y => some (eqD .non y)
  | .bl a, y => some (eqD (.bl a) y)
  | .int a, y => some (eqD (.int a) y)
  | .str a, y => some (eqD (.str a) y)
  | .tup a, y => some (eqD (.tup a) y)
  | .lst a, y => some (eqD (.lst a) y)
  | _, _ => none
def eqEL : List Da → List Da → Option Bool
  | [], [] => some true
  | x :: xs, y :: ys => match eqE x y, eqEL xs ys with
    | some p, some q => some (p && q)
    | _, _ => none
  | _, _ => some false
def eqEK (ls : List (Key × Da)) : List (Key × Da) → Option Bool
  | [] => some true
  | (k, d) :: r => match valD ls k with
    | none => some false
    | some e => match eqE d e, eqEK ls r with
      | some p, some q => some (p && q)
      | _, _ => none
end
section
variable {K : PySem.W.Frag} {χ φ : List Addr} {H : Hp}
mutual
theorem Rp.detE : ∀ {x y : Da} {v : V}, plE x = true → plE y = true → Rp K H φ χ v x → Rp K H φ χ v y → x = y
  | .non, y, v, _, py, hx, hy => by cases hx; cases hy <;> first | rfl | cases py
  | .bl b, y, v, _, py, hx, hy => by cases hx; cases hy <;> first | rfl | cases py
  | .int b, y, v, _, py, hx, hy => by cases hx; cases hy <;> first | rfl | cases py
  | .str b, y, v, _, py, hx, hy => by cases hx; cases hy <;> first | rfl | cases py
  | .tup ds, y, v, px, py, hx, hy => by
    cases hx with
    | tup h1 n1 m1 r1 =>
      cases hy with
      | tup h2 n2 m2 r2 =>
        rw [h1] at h2
        cases h2
        unfold plE at px py
        rw [RpL.detE px py r1 r2]
      | lst h2 n2 m2 r2 => rw [h1] at h2; cases h2
      | dct h2 c2 n2 m2 r2 => rw [h1] at h2; cases h2; cases c2
      | _ => cases py
  | .lst ds, y, v, px, py, hx, hy => by
    cases hx with
    | lst h1 n1 m1 r1 =>
      cases hy with
      | lst h2 n2 m2 r2 =>
        rw [h1] at h2
        cases h2
        unfold plE at px py
        rw [RpL.detE px py r1 r2]
      | tup h2 n2 m2 r2 => rw [h1] at h2; cases h2
      | dct h2 c2 n2 m2 r2 => rw [h1] at h2; cases h2; cases c2
      | _ => cases py
  | .dct ds, y, v, px, py, hx, hy => by
    cases hx with
    | dct h1 c1 n1 m1 r1 =>
      cases hy with
      | dct h2 c2 n2 m2 r2 =>
        rw [h1] at h2
        cases h2
        rw [c1] at c2
        cases c2
        unfold plE at px py
        rw [Bool.and_eq_true] at px py
        rw [RpK.detE px.1 py.1 r1 r2]
      | tup h2 n2 m2 r2 => rw [h1] at h2; cases h2; cases c1
      | lst h2 n2 m2 r2 => rw [h1] at h2; cases h2; cases c1
      | _ => cases py
  | .ty _, _, _, px, _, _, _ => by cases px
  | .gl _, _, _, px, _, _, _ => by cases px
  | .obj _ _, _, _, px, _, _, _ => by cases px
  | .kl _, _, _, px, _, _, _ => by cases px
  | .kt _, _, _, px, _, _, _ => by cases px
  | .cell _, _, _, px, _, _, _ => by cases px
  | .exv _ _ _ _, _, _, px, _, _, _ => by cases px
theorem RpL.detE : ∀ {xs ys : List Da} {vs : List V}, plEL xs = true → plEL ys = true → RpL K H φ χ vs xs → RpL K H φ χ vs ys → xs = ys
  | [], ys, vs, _, _, hx, hy => by cases hx; cases hy; rfl
  | x :: xs, ys, vs, px, py, hx, hy => by
    cases hx with
    | cons h1 r1 =>
      cases hy with
      | cons h2 r2 =>
        unfold plEL at px py
        rw [Bool.and_eq_true] at px py
        rw [Rp.detE px.1 py.1 h1 h2, RpL.detE px.2 py.2 r1 r2]
theorem RpK.detE : ∀ {xs ys : List (Key × Da)} {vs : List (Key × V)}, plEK xs = true → plEK ys = true → RpK K H φ χ vs xs → RpK K H φ χ vs ys → xs = ys
  | [], ys, vs, _, _, hx, hy => by cases hx; cases hy; rfl
  | (k, x) :: xs, ys, vs, px, py, hx, hy => by
    cases hx with
    | cons h1 r1 =>
      cases hy with
      | cons h2 r2 =>
        unfold plEK at px py
        rw [Bool.and_eq_true] at px py
        rw [Rp.detE px.1 py.1 h1 h2, RpK.detE px.2 py.2 r1 r2]
end
theorem valD_nd {ks : List (Key × Da)} (nd : (ks.map (·.1)).Nodup) : ∀ p ∈ ks, valD ks p.1 = some p.2 := by
  induction ks with
  | nil => intro p h; cases h
  | cons q r ih =>
    obtain ⟨k, d⟩ := q
    rw [List.map_cons, List.nodup_cons] at nd
    intro p hp
    unfold valD
    rw [List.find?_cons]
    rcases List.mem_cons.1 hp with rfl | hp
    · simp
    · have ne : k ≠ p.1 := fun e => nd.1 (by rw [e]; exact List.mem_map.2 ⟨p, hp, rfl⟩)
      rw [decide_eq_false ne]
      exact ih nd.2 p hp
mutual
theorem eqE_refl : ∀ {x : Da}, plE x = true → eqE x x = some true
  | .non, _ => rfl
  | .bl b, _ => by unfold eqE; simp [eqD]
  | .int b, _ => by unfold eqE; simp [eqD]
  | .str b, _ => by unfold eqE; simp [eqD]
  | .tup ds, p => by unfold plE at p; unfold eqE; exact eqEL_refl p
  | .lst ds, p => by unfold plE at p; unfold eqE; rw [if_pos rfl]; exact eqEL_refl p
  | .dct ks, p => by
    unfold plE at p
    rw [Bool.and_eq_true, decide_eq_true_eq] at p
    unfold eqE
    rw [if_pos rfl]
    exact eqEK_refl p.1 (valD_nd p.2)
  | .ty _, p => by cases p
  | .gl _, p => by cases p
  | .obj _ _, p => by cases p
  | .kl _, p => by cases p
  | .kt _, p => by cases p
  | .cell _, p => by cases p
  | .exv _ _ _ _, p => by cases p
theorem eqEL_refl : ∀ {xs : List Da}, plEL xs = true → eqEL xs xs = some true
  | [], _ => rfl
  | x :: xs, p => by
    unfold plEL at p
    rw [Bool.and_eq_true] at p
    unfold eqEL
    rw [eqE_refl p.1, eqEL_refl p.2]
    rfl
theorem eqEK_refl : ∀ {ks ls : List (Key × Da)}, plEK ks = true → (∀ p ∈ ks, valD ls p.1 = some p.2) → eqEK ls ks = some true
  | [], _, _, _ => rfl
  | (k, d) :: r, ls, p, h => by
    unfold plEK at p
    rw [Bool.and_eq_true] at p
    unfold eqEK
    rw [h (k, d) (List.mem_cons_self ..)]
    simp only
    rw [eqE_refl p.1, eqEK_refl p.2 fun q hq => h q (List.mem_cons_of_mem _ hq)]
    rfl
end
theorem plEK_mem : ∀ {ks : List (Key × Da)}, plEK ks = true → ∀ p ∈ ks, plE p.2 = true
  | [], _, _, h => by cases h
  | (k, d) :: r, p, q, h => by
    unfold plEK at p
    rw [Bool.and_eq_true] at p
    rcases List.mem_cons.1 h with rfl | h
    · exact p.1
    · exact plEK_mem p.2 q h
theorem dpEK_mem : ∀ {ks : List (Key × Da)}, ∀ p ∈ ks, dpE p.2 ≤ dpEK ks
  | [], _, h => by cases h
  | (k, d) :: r, q, h => by
    unfold dpEK
    rcases List.mem_cons.1 h with rfl | h
    · exact Nat.le_max_left ..
    · exact Nat.le_trans (dpEK_mem q h) (Nat.le_max_right ..)
theorem sc_depth {x : Da} (p : plE x = true) (h : dpE x ≤ 0) : plD x = true ∧ dpD x ≤ 0 := by
  cases x with
  | non => exact ⟨rfl, Nat.le_refl _⟩
  | bl _ => exact ⟨rfl, Nat.le_refl _⟩
  | int _ => exact ⟨rfl, Nat.le_refl _⟩
  | str _ => exact ⟨rfl, Nat.le_refl _⟩
  | tup _ => unfold dpE at h; omega
  | lst _ => unfold dpE at h; omega
  | dct _ => unfold dpE at h; omega
  | _ => cases p
theorem eqJ_of : ∀ (n : Nat) {x y : Da} {v w : V} {b : Bool}, plE x = true → plE y = true → dpE x ≤ n → dpE y ≤ n → eqE x y = some b → Rp K H φ χ v x → Rp K H φ χ w y → EqD K H (EqJ K H n) v w b := by
  intro n
  induction n with
  | zero =>
    intro x y v w b px py dx dy e hx hy
    obtain ⟨p1, d1⟩ := sc_depth px dx
    obtain ⟨p2, d2⟩ := sc_depth py dy
    have q := eqR_of (K := K) (H := H) 0 p1 p2 d1 d2 hx hy
    have eb : eqD x y = b := by
      cases x <;> first | (cases p1; done) | skip
      all_goals first
        | (unfold dpD at d1; omega)
        | skip
      all_goals cases y <;> first | (cases p2; done) | (unfold dpD at d2; omega) | skip
      all_goals (unfold eqE at e; exact Option.some.inj e)
    rw [eb] at q
    have q' : EqR K H (fun _ _ _ => False) v w b := q
    refine .old ?_
    cases q' with
    | sc h => exact .sc h
    | bi a j => exact .bi a j
    | ib i b => exact .ib i b
    | ll h1 h2 h3 => exact .ll h1 h2 h3
    | lst h1 h2 h3 h4 =>
      cases h4 with
      | nil => exact .lst h1 h2 h3 .nil
      | nilL => exact .lst h1 h2 h3 .nilL
      | nilR => exact .lst h1 h2 h3 .nilR
      | cons h _ => exact h.elim
    | tup h1 h2 h4 =>
      cases h4 with
      | nil => exact .tup h1 h2 .nil
      | nilL => exact .tup h1 h2 .nilL
      | nilR => exact .tup h1 h2 .nilR
      | cons h _ => exact h.elim
    | lt h1 h2 => exact .lt h1 h2
    | tl h1 h2 => exact .tl h1 h2
    | ls h1 h2 => exact .ls h1 h2
    | sl h1 h2 => exact .sl h1 h2
    | ts h1 h2 => exact .ts h1 h2
    | st h1 h2 => exact .st h1 h2
  | succ n ih =>
    have item : ∀ {x y : Da} {v w : V} {b : Bool}, plE x = true → plE y = true → dpE x ≤ n → dpE y ≤ n → eqE x y = some b → Rp K H φ χ v x → Rp K H φ χ w y → EqJ K H (n + 1) v w b := by
      intro x y v w b px py dx dy e hx hy
      by_cases same : ∃ a, v = .ref a ∧ w = .ref a
      · obtain ⟨a, rfl, rfl⟩ := same
        have e2 := Rp.detE px py hx hy
        subst e2
        rw [eqE_refl px] at e
        exact .inl ⟨a, rfl, rfl, (Option.some.inj e).symm⟩
      · exact .inr ⟨ih px py dx dy e hx hy, fun a e1 e2 => same ⟨a, e1, e2⟩⟩
    have items : ∀ {xs ys : List Da} {vs ws : List V} {r : Bool}, plEL xs = true → plEL ys = true → dpEL xs ≤ n → dpEL ys ≤ n → eqEL xs ys = some r → RpL K H φ χ vs xs → RpL K H φ χ ws ys → ∃ e, EqZ (EqJ K H (n + 1)) vs ws e ∧ r = (e.all id && decide (xs.length = ys.length)) := by
      intro xs
      induction xs with
      | nil =>
        intro ys vs ws r px py dx dy e hx hy
        cases hx
        cases hy with
        | nil => cases e; exact ⟨[], .nil, rfl⟩
        | cons h1 r1 => cases e; exact ⟨[], .nilL, rfl⟩
      | cons x xs ihx =>
        intro ys vs ws r px py dx dy e hx hy
        cases hx with
        | cons h1 r1 =>
          cases hy with
          | nil => cases e; exact ⟨[], .nilR, rfl⟩
          | @cons w y ws ys h2 r2 =>
            unfold plEL at px py
            rw [Bool.and_eq_true] at px py
            unfold dpEL at dx dy
            unfold eqEL at e
            cases e1 : eqE x y with
            | none => rw [e1] at e; cases e
            | some p =>
              cases e2 : eqEL xs ys with
              | none => rw [e1, e2] at e; cases e
              | some q =>
                rw [e1, e2] at e
                cases e
                obtain ⟨es, z, er⟩ := ihx px.2 py.2 (by omega) (by omega) e2 r1 r2
                refine ⟨p :: es, .cons (item px.1 py.1 (by omega) (by omega) e1 h1 h2) z, ?_⟩
                rw [er, List.all_cons, List.length_cons, List.length_cons, Bool.and_assoc]
                congr 2
                simp
    have hits : ∀ {ks ls : List (Key × Da)} {vs us : List (Key × V)} {r : Bool}, plEK ks = true → plEK ls = true → dpEK ks ≤ n → dpEK ls ≤ n → eqEK ls ks = some r → RpK K H φ χ vs ks → RpK K H φ χ us ls → KHit (EqJ K H (n + 1)) us vs r := by
      intro ks
      induction ks with
      | nil =>
        intro ls vs us r px py dx dy e hx hy
        cases hx
        cases e
        exact .nil
      | cons p ks ihk =>
        intro ls vs us r px py dx dy e hx hy
        obtain ⟨k, d⟩ := p
        cases hx with
        | cons h1 r1 =>
          unfold plEK at px
          rw [Bool.and_eq_true] at px
          unfold dpEK at dx
          unfold eqEK at e
          rcases hy.val (k := k) with ⟨v1, v2⟩ | ⟨u, d', v1, v2, rd⟩
          · rw [v2] at e
            cases e
            exact .miss v1
          · rw [v2] at e
            simp only at e
            cases e1 : eqE d d' with
            | none => rw [e1] at e; cases e
            | some p =>
              cases e2 : eqEK ls ks with
              | none => rw [e1, e2] at e; cases e
              | some q =>
                rw [e1, e2] at e
                cases e
                have m := valD_mem v2
                exact .hit v1 (item px.1 (plEK_mem py _ m) (by omega) (Nat.le_trans (dpEK_mem _ m) dy) e1 h1 rd) (ihk px.2 py (by omega) dy e2 r1 hy)
    intro x y v w b px py dx dy e hx hy
    cases hx <;> first | (cases px; done) | skip
    all_goals cases hy <;> first | (cases py; done) | skip
    all_goals unfold eqE at e
    all_goals first
      | (cases e; done)
      | (cases e; exact .old (.bi _ _))
      | (cases e; exact .old (.ib _ _))
      | (cases e; exact .old (scR rfl (by simp [eqD])))
      | (cases e; exact .old (.ts (SqT.of (by assumption)) rfl))
      | (cases e; exact .old (.st (SqT.of (by assumption)) rfl))
      | (cases e; exact .old (.ls (SqL.of (by assumption)) rfl))
      | (cases e; exact .old (.sl (SqL.of (by assumption)) rfl))
      | (cases e; exact .old (.lt (SqL.of (by assumption)) (SqT.of (by assumption))))
      | (cases e; exact .old (.tl (SqT.of (by assumption)) (SqL.of (by assumption))))
      | skip
    · rename_i a vs ds h1 n1 m1 r1 b ws es h2 n2 m2 r2
      unfold plE at px py
      unfold dpE at dx dy
      obtain ⟨bs, z, er⟩ := items px py (by omega) (by omega) e r1 r2
      rw [er, ← r1.len, ← r2.len]
      exact .old (.tup (SqT.of h1) (SqT.of h2) z)
    · rename_i a vs ds h1 n1 m1 r1 b ws es h2 n2 m2 r2
      unfold plE at px py
      unfold dpE at dx dy
      by_cases l : ds.length = es.length
      · rw [if_pos l] at e
        obtain ⟨bs, z, er⟩ := items px py (by omega) (by omega) e r1 r2
        rw [er, decide_eq_true l, Bool.and_true]
        exact .old (.lst (SqL.of h1) (SqL.of h2) (by rw [r1.len, r2.len]; exact l) z)
      · rw [if_neg l] at e
        cases e
        exact .old (.ll (SqL.of h1) (SqL.of h2) (by rw [r1.len, r2.len]; exact l))
    · rename_i a o vs ks h1 c1 n1 m1 r1 b o2 us ls h2 c2 n2 m2 r2
      unfold plE at px py
      rw [Bool.and_eq_true] at px py
      unfold dpE at dx dy
      have l1 := r1.len
      have l2 := r2.len
      by_cases l : ks.length = ls.length
      · rw [if_pos l] at e
        have q := EqD.dd (K := K) (E := EqJ K H (n + 1)) (rd_of h1 c1) (rd_of h2 c2) fun _ => hits px.1 py.1 (by omega) (by omega) e r1 r2
        rw [decide_eq_true (by omega), Bool.true_and] at q
        exact q
      · rw [if_neg l] at e
        cases e
        have q := EqD.dd (K := K) (E := EqJ K H (n + 1)) (r := true) (rd_of h1 c1) (rd_of h2 c2) fun z => absurd z (by omega)
        rw [decide_eq_false (by omega), Bool.false_and] at q
        exact q
/-- ==, != of data, cells looked through -/
def nEqE : MO := fun x y M Q => ∃ x' y' b, frz 0 4 M x = some x' ∧ frz 0 4 M y = some y' ∧ plE x' = true ∧ plE y' = true ∧ dpE x' ≤ 59 ∧ dpE y' ≤ 59 ∧ eqE x' y' = some b ∧ Q (.bl b) M
def nNeE : MO := fun x y M Q => ∃ x' y' b, frz 0 4 M x = some x' ∧ frz 0 4 M y = some y' ∧ plE x' = true ∧ plE y' = true ∧ dpE x' ≤ 59 ∧ dpE y' ≤ 59 ∧ eqE x' y' = some b ∧ Q (.bl (!b)) M
theorem O_eqE : SO K (rEqE K) nEqE := by
  intro χ H φ M x y dx dy Q Q' m hx hy f ⟨x', y', b, e1, e2, p1, p2, d1, d2, e, q⟩
  exact ⟨b, eqJ_of 60 p1 p2 (by omega) (by omega) e (frz_run m 4 hx e1) (frz_run m 4 hy e2), f.pure m (.bl _) q⟩
theorem O_neE : SO K (rNeE K) nNeE := by
  intro χ H φ M x y dx dy Q Q' m hx hy f ⟨x', y', b, e1, e2, p1, p2, d1, d2, e, q⟩
  exact ⟨b, eqJ_of 60 p1 p2 (by omega) (by omega) e (frz_run m 4 hx e1) (frz_run m 4 hy e2), f.pure m (.bl _) q⟩
end
end Z

/-! draws over data -/
namespace Z
open PySem PySem.Spec PyProof.Rows L2 Evl
def BoxD (n : Nat) (d : Da) : Prop := ∃ a b c : Int, d = .lst [.int a, .int b, .int c] ∧ 0 ≤ b ∧ b < 2147483648 ∧ 0 ≤ c ∧ c ≤ n
theorem leave_same {n : Nat} {Q : TK} {d : Da} {M : Mem} (h : Q d M) : leave n Q d M := ⟨d, M, .inl ⟨rfl, rfl⟩, h⟩
theorem atI_nat' {α : Type} (l : List α) (k : Nat) : atI l (k : Int) = l[k]? := by
  unfold atI ixN
  rw [if_pos (by omega)]
  by_cases h : (k : Int) < l.length
  · rw [if_pos h]
    simp
  · rw [if_neg h]
    symm
    rw [Option.bind_none, List.getElem?_eq_none_iff]
    omega
theorem atI_0 {α : Type} (l : List α) : atI l 0 = l[0]? := atI_nat' l 0
theorem atI_1 {α : Type} (l : List α) : atI l 1 = l[1]? := atI_nat' l 1
theorem atI_2 {α : Type} (l : List α) : atI l 2 = l[2]? := atI_nat' l 2
theorem atI_3 {α : Type} (l : List α) : atI l 3 = l[3]? := atI_nat' l 3
theorem atI_4 {α : Type} (l : List α) : atI l 4 = l[4]? := atI_nat' l 4
theorem atI_m1 {α : Type} (l : List α) : atI l (-1) = l.getLast? := by
  unfold atI ixN
  rw [if_neg (by omega), List.getLast?_eq_getElem?]
  by_cases h : -(l.length : Int) ≤ -1
  · rw [if_pos h]
    show l[(-1 + (l.length : Int)).toNat]? = _
    congr 1
    omega
  · rw [if_neg h]
    symm
    rw [Option.bind_none, List.getElem?_eq_none_iff]
    omega
theorem ixN_0 {n : Nat} (h : 0 < n) : ixN n 0 = some 0 := by
  unfold ixN
  rw [if_pos (by omega), if_pos (by omega)]
  rfl
theorem ixN_1 {n : Nat} (h : 1 < n) : ixN n 1 = some 1 := by
  unfold ixN
  rw [if_pos (by omega), if_pos (by omega)]
  rfl
theorem ixN_2 {n : Nat} (h : 2 < n) : ixN n 2 = some 2 := by
  unfold ixN
  rw [if_pos (by omega), if_pos (by omega)]
  rfl
theorem ixN_nat {n k : Nat} (h : k < n) : ixN n (k : Int) = some k := by
  unfold ixN
  rw [if_pos (by omega), if_pos (by omega)]
  simp
mutual
theorem plD_clo (n : Nat) : ∀ {d : Da}, plD d = true → cloD n d = true
  | .non, _ => rfl
  | .bl _, _ => rfl
  | .int _, _ => rfl
  | .str _, _ => rfl
  | .tup ds, p => by unfold plD at p; unfold cloD; exact plL_clo n p
  | .lst ds, p => by unfold plD at p; unfold cloD; exact plL_clo n p
  | .ty _, p => by cases p
  | .gl _, p => by cases p
  | .dct _, p => by cases p
  | .obj _ _, p => by cases p
  | .kl _, p => by cases p
  | .kt _, p => by cases p
  | .cell _, p => by cases p
  | .exv _ _ _ _, p => by cases p
theorem plL_clo (n : Nat) : ∀ {ds : List Da}, plL ds = true → cloL n ds = true
  | [], _ => rfl
  | d :: ds, p => by
    unfold plL at p
    rw [Bool.and_eq_true] at p
    unfold cloL
    rw [plD_clo n p.1, plL_clo n p.2]
    rfl
end
theorem frz_clo {n f : Nat} {M : Mem} {d : Da} (h : cloD n d = true) : frz n f M d = some d := by
  cases f with
  | zero => unfold frz; rw [if_pos h]
  | succ f => unfold frz; rw [if_pos h]
theorem cloL_all {n : Nat} : ∀ {ds : List Da}, cloL n ds = true ↔ ∀ d ∈ ds, cloD n d = true
  | [] => by simp [cloL]
  | d :: ds => by
    unfold cloL
    rw [Bool.and_eq_true, cloL_all (ds := ds)]
    simp
theorem BoxD.clo {n m : Nat} {b : Da} (h : BoxD n b) : cloD m b = true := by
  obtain ⟨a, b, c, rfl, _⟩ := h
  rfl
theorem BoxD.mono {n m : Nat} {b : Da} (h : BoxD n b) (l : n ≤ m) : BoxD m b := by
  obtain ⟨a, b, c, rfl, h1, h2, h3, h4⟩ := h
  exact ⟨a, b, c, rfl, h1, h2, h3, by omega⟩
/-- back from a def with cells of its own -/
theorem leave_box {Q : TK} {d d' : Da} {b b' : Da} {R S : Mem} {n : Nat} (B : BoxD n b') (cM : cloL (R.length + 1) (b :: R) = true) (hf : frz (R.length + 1) 4 (b' :: (R ++ S)) d = some d') (q : Q d' (b' :: R)) : leave (R.length + 1) Q d (b' :: (R ++ S)) := by
  refine ⟨d', b' :: R, .inr ⟨by simp, by simp, ?_, hf⟩, q⟩
  unfold cloL at cM ⊢
  rw [Bool.and_eq_true] at cM
  rw [B.clo, cM.2]
  rfl
theorem okM_list : okM "list" = okLs := rfl
theorem okM_str : okM "str" = okS := rfl
theorem okM_dict : okM "dict" = okDc := rfl
theorem okS_str {z : Str} {M : Mem} : okS (.str z) M = True := by simp [okS]
/-- an item by a draw -/
theorem atI_mem {α : Type} {xs : List α} {d : Int} (h0 : 0 ≤ d) (h1 : d < (xs.length : Int)) : ∃ v, v ∈ xs ∧ atI xs d = some v := by
  obtain ⟨k, rfl⟩ := Int.eq_ofNat_of_zero_le h0
  have h : k < xs.length := by omega
  exact ⟨xs[k], List.getElem_mem h, by rw [atI_nat']; simp [h]⟩
end Z

namespace Z
open PySem PySem.Spec PyProof.Rows L2 Evl
theorem set_last {α : Type} (R : List α) (x y : α) : (R ++ [x]).set R.length y = R ++ [y] := by simp
theorem get_last {α : Type} (R : List α) (x : α) : (R ++ [x])[R.length]? = some x := by simp
theorem look_last {b x : Da} {R : Mem} : look (b :: (R ++ [x])) (.cell (R.length + 1)) = x := by
  show List.getD _ _ _ = _
  simp
theorem perm_erase {α : Type} {l : List α} {i : Nat} (h : i < l.length) : (l[i] :: l.eraseIdx i).Perm l := by
  have e : l.take i ++ l[i] :: l.drop (i + 1) = l := by rw [← List.drop_eq_getElem_cons h, List.take_append_drop]
  rw [List.eraseIdx_eq_take_drop_succ]
  have q : (l[i] :: (l.take i ++ l.drop (i + 1))).Perm (l.take i ++ l[i] :: l.drop (i + 1)) := List.perm_middle.symm
  rw [e] at q
  exact q
def one (c : Nat) : Str := ⟨#[c]⟩
def letters : List Nat := ("abcdefghijklmnopqrstuvwxyz" : Str).cps.toList
def nmS (z : Str) : Bool := !decide (z = ("table" : Str)) && (decide (1 ≤ z.length) && (decide (z.length ≤ 8) && z.cps.toList.all fun c => decide (c ∈ letters)))
theorem seqI {d : Int} {n : Nat} (h0 : 0 ≤ d) (h1 : d < n) : seqIndex? d n = some d.toNat := by
  unfold seqIndex?
  first
    | (simp; omega)
    | (rw [if_neg (by omega)]; simp; omega)
theorem log_nat {n : Nat} (h : n < 9000) : ((n : Int)).natAbs.log2 < 9000 := by
  have h1 : ((n : Int)).natAbs = n := by omega
  rw [h1]
  have h2 := Nat.log2_le_self n
  omega
def stems : List Str := ["", "a", "tabl", "rest", "part", "zzzzzzz"]
def fixS (z : Str) : Str := if z = ("table" : Str) then "tables" else z
def formS (stem : Str) (c : Nat) (w : Nat) : Str := fixS (match w with | 0 => stem ++ one c | 1 => one c ++ stem | _ => one c)
theorem form_ok : ∀ stem ∈ stems, ∀ c ∈ letters, ∀ w ∈ [0, 1, 2], nmS (formS stem c w) = true := by decide +kernel
theorem form_ne : ∀ stem ∈ stems, ∀ w ∈ [0, 1, 2], ∀ c ∈ letters, ∀ d ∈ letters, c ≠ d → formS stem c w ≠ formS stem d w ∧ formS stem c 0 ≠ formS stem d w := by decide +kernel
def lett (i : Nat) : Nat := letters.getD i 0
theorem steps_ne : ∀ f ∈ List.range 26, ∀ s ∈ [1, 3, 5, 7, 9, 11], ∀ i ∈ List.range 13, ∀ j ∈ List.range 13, i ≠ j → lett ((f + s * i) % 26) ≠ lett ((f + s * j) % 26) := by decide +kernel
theorem lett_mem : ∀ i ∈ List.range 26, lett i ∈ letters := by decide +kernel
def nameK (stem : Str) (f s w k : Nat) : Str := formS stem (lett ((f + s * k) % 26)) (if k = 0 then 0 else w)
theorem nameK_ok {stem : Str} {f s w : Nat} (hs : stem ∈ stems) (hw : w < 3) (k : Nat) : nmS (nameK stem f s w k) = true := by
  refine form_ok stem hs _ (lett_mem _ (List.mem_range.mpr (Nat.mod_lt _ (by decide)))) _ ?_
  split
  · decide
  · simp; omega
theorem nameK_ne {stem : Str} {f s w i j : Nat} (hs : stem ∈ stems) (hf : f < 26) (hst : s ∈ [1, 3, 5, 7, 9, 11]) (hw : w < 3) (hi : i < 13) (hj : j < 13) (ne : i ≠ j) : nameK stem f s w i ≠ nameK stem f s w j := by
  have hc := steps_ne f (List.mem_range.mpr hf) s hst i (List.mem_range.mpr hi) j (List.mem_range.mpr hj) ne
  have m1 := lett_mem _ (List.mem_range.mpr (Nat.mod_lt (f + s * i) (by decide : 26 > 0)))
  have m2 := lett_mem _ (List.mem_range.mpr (Nat.mod_lt (f + s * j) (by decide : 26 > 0)))
  have hw3 : w ∈ [0, 1, 2] := by simp; omega
  unfold nameK
  by_cases e1 : i = 0
  · rw [if_pos e1, if_neg (fun z => ne (e1.trans z.symm))]
    exact (form_ne stem hs w hw3 _ m1 _ m2 hc).2
  · rw [if_neg e1]
    by_cases e2 : j = 0
    · rw [if_pos e2]
      exact ((form_ne stem hs w hw3 _ m2 _ m1 hc.symm).2).symm
    · rw [if_neg e2]
      exact (form_ne stem hs w hw3 _ m1 _ m2 hc).1
theorem names_nodup {stem : Str} {f s w : Nat} (hs : stem ∈ stems) (hf : f < 26) (hst : s ∈ [1, 3, 5, 7, 9, 11]) (hw : w < 3) : ∀ m, m ≤ 13 → ((List.range m).map fun k => nameK stem f s w k).Nodup
  | 0, _ => by simp
  | m + 1, hm => by
    rw [List.range_succ, List.map_append, List.nodup_append]
    refine ⟨names_nodup hs hf hst hw m (by omega), by simp, fun a ha b hb => ?_⟩
    obtain ⟨k, hk, rfl⟩ := List.mem_map.mp ha
    have hk := List.mem_range.mp hk
    rw [List.map_singleton, List.mem_singleton] at hb
    rw [hb]
    intro e
    exact nameK_ne hs hf hst hw (by omega) (by omega) (by omega) e
end Z

namespace Z
open PySem PySem.Spec PyProof.Rows L2 Evl
/-! ### loops and comprehensions by an invariant; C: what follows a turn -/
theorem forL_ind {still : Mem → Prop} {g : MG} {tb : MS} {D : En} {n : Nat} {items : List Da} {ρ : Sl} {M : Mem} (P : Nat → Sl → Mem → Prop) (h0 : P 0 ρ M)
    (hs : ∀ k d ρ M, items[k]? = some d → P k ρ M → ∀ C : Sl → Mem → Prop, (∀ ρ' M' ρ3 M3, Wk n ρ' M' ρ3 M3 → still M3 → P (k + 1) ρ3 M3 → C ρ' M') → g d ρ M fun ρ1 M1 => tb { nx := C, rt := D.rt, bk := D.nx, ct := C } ρ1 M1)
    (he : ∀ ρ M, P items.length ρ M → D.nx ρ M) : forL still g tb D n items ρ M := by
  have go : ∀ (ds : List Da) (k : Nat) (ρ : Sl) (M : Mem), items.drop k = ds → k ≤ items.length → P k ρ M → forL still g tb D n ds ρ M := by
    intro ds
    induction ds with
    | nil =>
      intro k ρ M e l p
      have : items.length ≤ k := by
        have := congrArg List.length e
        rw [List.length_drop] at this
        simp at this
        omega
      have : k = items.length := by omega
      subst this
      exact he ρ M p
    | cons d ds ih =>
      intro k ρ M e l p
      have hl : k < items.length := by
        have := congrArg List.length e
        rw [List.length_drop] at this
        simp at this
        omega
      have ed : items[k]? = some d := by
        have := congrArg (fun l => l[0]?) e
        simpa using this
      have eds : items.drop (k + 1) = ds := by
        have := congrArg List.tail e
        simpa using this
      unfold forL
      exact hs k d ρ M ed p _ fun ρ' M' ρ3 M3 w s p' => ⟨ρ3, M3, w, s, ih (k + 1) ρ3 M3 eds hl p'⟩
  exact go items 0 ρ M rfl (Nat.zero_le _) h0
theorem Wk.same {n : Nat} {ρ : Sl} {M : Mem} : Wk n ρ M ρ M := .inl ⟨rfl, rfl⟩
theorem lcL_ind {still : Mem → Prop} {g : MG} {tt : MT} {te : ME} {vs : List Nat} {ρ : Sl} {items : List Da} {M : Mem} {Q : TK} (P : Nat → List Da → Mem → Prop) (h0 : P 0 [] M)
    (hs : ∀ k d acc M, items[k]? = some d → P k acc M → ∀ C : List Da → Mem → Prop, (∀ acc' M', still M' → P (k + 1) acc' M' → C acc' M') → g d (wipeD ρ vs) M fun ρ2 M2 => tt ρ2 M2 fun b M3 => if b = true then te ρ2 M3 fun y M4 => C (acc ++ [y]) M4 else C acc M3)
    (he : ∀ acc M, P items.length acc M → Q (.lst acc) M) : lcL still g tt te vs ρ items [] M Q := by
  have go : ∀ (ds : List Da) (k : Nat) (acc : List Da) (M : Mem), items.drop k = ds → k ≤ items.length → P k acc M → lcL still g tt te vs ρ ds acc M Q := by
    intro ds
    induction ds with
    | nil =>
      intro k acc M e l p
      have : items.length ≤ k := by
        have := congrArg List.length e
        rw [List.length_drop] at this
        simp at this
        omega
      have : k = items.length := by omega
      subst this
      exact he acc M p
    | cons d ds ih =>
      intro k acc M e l p
      have hl : k < items.length := by
        have := congrArg List.length e
        rw [List.length_drop] at this
        simp at this
        omega
      have ed : items[k]? = some d := by
        have := congrArg (fun l => l[0]?) e
        simpa using this
      have eds : items.drop (k + 1) = ds := by
        have := congrArg List.tail e
        simpa using this
      unfold lcL
      exact hs k d acc M ed p (fun acc' M' => still M' ∧ lcL still g tt te vs ρ ds acc' M' Q) fun acc' M' s p' => ⟨s, ih (k + 1) acc' M' eds hl p'⟩
  exact go items 0 [] M rfl (Nat.zero_le _) h0
/-- a comprehension that changes nothing -/
theorem lcL_pure {still : Mem → Prop} {i : Nat} {tt : MT} {te : ME} {vs : List Nat} {ρ : Sl} {items : List Da} {M : Mem} {Q : TK} (p : Da → Bool) (f : Da → Da)
    (ht : ∀ d ∈ items, ∀ R : Bool → Mem → Prop, R (p d) M → tt ((wipeD ρ vs).set i (some d)) M R) (hf : ∀ d ∈ items, p d = true → ∀ R : TK, R (f d) M → te ((wipeD ρ vs).set i (some d)) M R) (hS : still M) (q : Q (.lst ((items.filter p).map f)) M) :
    lcL still (hName i) tt te vs ρ items [] M Q := by
  refine lcL_ind (fun k acc M' => M' = M ∧ acc = ((items.take k).filter p).map f) ⟨rfl, rfl⟩ ?_ ?_
  · rintro k d acc M' e ⟨rfl, rfl⟩ C hC
    have hm : d ∈ items := List.mem_of_getElem? e
    have et : items.take (k + 1) = items.take k ++ [d] := by rw [List.take_add_one, e]; rfl
    refine ht d hm _ ?_
    cases c : p d with
    | true =>
      refine iteT (hf d hm c _ (hC _ _ hS ⟨rfl, ?_⟩))
      rw [et, List.filter_append]
      simp [c]
    | false =>
      refine iteF (hC _ _ hS ⟨rfl, ?_⟩)
      rw [et, List.filter_append]
      simp [c]
  · rintro acc M' ⟨rfl, rfl⟩
    rw [List.take_length]
    exact q
theorem rngD_at {lo : Int} {n k : Nat} {d : Da} (h : (rngD lo n)[k]? = some d) : k < n ∧ d = .int (lo + (k : Int)) := by
  unfold rngD at h
  rw [List.getElem?_map] at h
  by_cases l : k < n
  · rw [List.getElem?_range l] at h
    exact ⟨l, (Option.some.inj h).symm⟩
  · rw [List.getElem?_eq_none (by simp; omega)] at h
    cases h
theorem mapO_id {n f : Nat} {M : Mem} : ∀ {ds : List Da}, cloL n ds = true → mapO (frz n f M) ds = some ds
  | [], _ => rfl
  | d :: ds, h => by
    unfold cloL at h
    rw [Bool.and_eq_true] at h
    unfold mapO
    rw [frz_clo h.1, mapO_id h.2]
theorem mapOK_id {n f : Nat} {M : Mem} : ∀ {ds : List (Key × Da)}, cloK n ds = true → mapOK (frz n f M) ds = some ds
  | [], _ => rfl
  | (_, d) :: ds, h => by
    unfold cloK at h
    rw [Bool.and_eq_true] at h
    unfold mapOK
    rw [frz_clo h.1, mapOK_id h.2]
/-- a def's own list as a datum -/
theorem frz_cell {n m f : Nat} {M : Mem} {ds : List Da} (h : M[m]? = some (.lst ds)) (le : n ≤ m) (c : cloL n ds = true) : frz n (f + 1) M (.cell m) = some (.lst ds) := by
  have nc : ¬ cloD n (.cell m) = true := by
    unfold cloD
    simp
    exact le
  unfold frz
  rw [if_neg nc]
  simp only [h]
  rw [mapO_id c]
  rfl
theorem frz_cellD {n m f : Nat} {M : Mem} {ds : List (Key × Da)} (h : M[m]? = some (.dct ds)) (le : n ≤ m) (c : cloK n ds = true) : frz n (f + 1) M (.cell m) = some (.dct ds) := by
  have nc : ¬ cloD n (.cell m) = true := by
    unfold cloD
    simp
    exact le
  unfold frz
  rw [if_neg nc]
  simp only [h]
  rw [mapOK_id c]
  rfl
theorem plL_strs (zs : List Str) : plL (zs.map Da.str) = true := by
  induction zs with
  | nil => rfl
  | cons z zs ih =>
    show (plD (.str z) && plL (zs.map Da.str)) = true
    rw [ih]
    rfl
theorem clo_strs (n : Nat) (zs : List Str) : cloL n (zs.map Da.str) = true := by
  rw [cloL_all]
  intro d hd
  obtain ⟨z, _, rfl⟩ := List.mem_map.1 hd
  rfl
theorem plL_map {α : Type} {f : α → Da} (h : ∀ x, plD (f x) = true) (l : List α) : plL (l.map f) = true := by
  induction l with
  | nil => rfl
  | cons x l ih =>
    show (plD (f x) && plL (l.map f)) = true
    rw [h x, ih]
    rfl
theorem dpL_map {α : Type} {f : α → Da} (h : ∀ x, dpD (f x) = 0) (l : List α) : dpL (l.map f) = 0 := by
  induction l with
  | nil => rfl
  | cons x l ih =>
    show max (dpD (f x)) (dpL (l.map f)) = 0
    rw [h x, ih]
    rfl
theorem eqL_nil (xs : List Da) : eqL xs [] = xs.isEmpty := by
  cases xs <;> rfl
theorem plL_append {xs ys : List Da} : plL (xs ++ ys) = (plL xs && plL ys) := by
  induction xs with
  | nil => rfl
  | cons x xs ih =>
    show (plD x && plL (xs ++ ys)) = (plD x && plL xs && plL ys)
    rw [ih, Bool.and_assoc]
theorem dpL_append {xs ys : List Da} : dpL (xs ++ ys) = max (dpL xs) (dpL ys) := by
  induction xs with
  | nil => show dpL ys = max 0 (dpL ys); omega
  | cons x xs ih =>
    show max (dpD x) (dpL (xs ++ ys)) = max (max (dpD x) (dpL xs)) (dpL ys)
    rw [ih]
    omega
theorem plL_all {ds : List Da} : plL ds = true ↔ ∀ d ∈ ds, plD d = true := by
  induction ds with
  | nil => simp [plL]
  | cons d ds ih =>
    unfold plL
    rw [Bool.and_eq_true, ih]
    simp
theorem dpL_le {ds : List Da} {n : Nat} : dpL ds ≤ n ↔ ∀ d ∈ ds, dpD d ≤ n := by
  induction ds with
  | nil => simp [dpL]
  | cons d ds ih =>
    unfold dpL
    rw [Nat.max_le, ih]
    simp
theorem anyEq_strs (z : Str) (l : List Str) : anyEq (.str z) (l.map Da.str) = decide (z ∈ l) := by
  unfold anyEq
  induction l with
  | nil => simp
  | cons a l ih =>
    rw [List.map_cons, List.any_cons, ih]
    show (decide (a = z) || decide (z ∈ l)) = decide (z ∈ a :: l)
    by_cases h : a = z
    · simp [h]
    · have h2 : ¬ z = a := fun q => h q.symm
      simp [h, h2]
end Z

namespace Z
open PySem PySem.Spec PyProof.Rows L2 Evl
/-! looks, constructor by constructor -/
section
variable (M : Mem)
theorem look_non  : look M (.non) = .non := rfl
theorem lookE_non  : lookE M (.non) = .non := rfl
theorem look_bl (b : Bool) : look M (.bl b) = .bl b := rfl
theorem lookE_bl (b : Bool) : lookE M (.bl b) = .bl b := rfl
theorem look_int (i : Int) : look M (.int i) = .int i := rfl
theorem lookE_int (i : Int) : lookE M (.int i) = .int i := rfl
theorem look_str (s : Str) : look M (.str s) = .str s := rfl
theorem lookE_str (s : Str) : lookE M (.str s) = .str s := rfl
theorem look_tup (ds : List Da) : look M (.tup ds) = .tup ds := rfl
theorem lookE_tup (ds : List Da) : lookE M (.tup ds) = .tup ds := rfl
theorem look_lst (ds : List Da) : look M (.lst ds) = .lst ds := rfl
theorem lookE_lst (ds : List Da) : lookE M (.lst ds) = .lst ds := rfl
theorem look_dct (ds : List (Key × Da)) : look M (.dct ds) = .dct ds := rfl
theorem lookE_dct (ds : List (Key × Da)) : lookE M (.dct ds) = .dct ds := rfl
theorem look_obj (c : Str) (fs : List (Str × Da)) : look M (.obj c fs) = .obj c fs := rfl
theorem lookE_obj (c : Str) (fs : List (Str × Da)) : lookE M (.obj c fs) = .obj c fs := rfl
theorem look_ty (n : String) : look M (.ty n) = .ty n := rfl
theorem lookE_ty (n : String) : lookE M (.ty n) = .ty n := rfl
theorem look_gl (x : Str) : look M (.gl x) = .gl x := rfl
theorem lookE_gl (x : Str) : lookE M (.gl x) = .gl x := rfl
theorem look_exv (a dd : Addr) (c : Str) (fs : List (Str × Da)) : look M (.exv a dd c fs) = .exv a dd c fs := rfl
theorem lookE_exv (a dd : Addr) (c : Str) (fs : List (Str × Da)) : lookE M (.exv a dd c fs) = .exv a dd c fs := rfl
theorem look_cell (n : Nat) : look M (.cell n) = M[n]?.getD (.gl "") := List.getD_eq_getElem?_getD
theorem lookE_cell (n : Nat) : lookE M (.cell n) = M[n]?.getD (.gl "") := List.getD_eq_getElem?_getD
theorem look_kl (ds : List Da) : look M (.kl ds) = .lst ds := rfl
theorem look_kt (ds : List Da) : look M (.kt ds) = .tup ds := rfl
theorem tyDa_non  : tyDa M (.non) = some "NoneType" := rfl
theorem tyDa_bl (b : Bool) : tyDa M (.bl b) = some "bool" := rfl
theorem tyDa_int (i : Int) : tyDa M (.int i) = some "int" := rfl
theorem tyDa_str (s : Str) : tyDa M (.str s) = some "str" := rfl
theorem tyDa_tup (ds : List Da) : tyDa M (.tup ds) = some "tuple" := rfl
theorem tyDa_lst (ds : List Da) : tyDa M (.lst ds) = some "list" := rfl
theorem tyDa_dct (ds : List (Key × Da)) : tyDa M (.dct ds) = some "dict" := rfl
theorem tyDa_kt (ds : List Da) : tyDa M (.kt ds) = some "tuple" := rfl
theorem tyDa_cell (n : Nat) : tyDa M (.cell n) = match M[n]?.getD (.gl "") with | .lst _ => some "list" | .dct _ => some "dict" | _ => none := by
  rw [← List.getD_eq_getElem?_getD]
  rfl
theorem nonD_non  : nonD (.non) = true := rfl
theorem nonD_bl (b : Bool) : nonD (.bl b) = false := rfl
theorem nonD_int (i : Int) : nonD (.int i) = false := rfl
theorem nonD_str (s : Str) : nonD (.str s) = false := rfl
theorem nonD_tup (ds : List Da) : nonD (.tup ds) = false := rfl
theorem nonD_lst (ds : List Da) : nonD (.lst ds) = false := rfl
theorem nonD_dct (ds : List (Key × Da)) : nonD (.dct ds) = false := rfl
theorem nonD_obj (c : Str) (fs : List (Str × Da)) : nonD (.obj c fs) = false := rfl
theorem nonD_ty (n : String) : nonD (.ty n) = false := rfl
theorem nonD_gl (x : Str) : nonD (.gl x) = false := rfl
theorem nonD_exv (a dd : Addr) (c : Str) (fs : List (Str × Da)) : nonD (.exv a dd c fs) = false := rfl
/-- plain or a dict -/
def pdd : Da → Bool
  | .dct _ => true
  | d => plD d
def tyP : Da → String
  | .non => "NoneType"
  | .bl _ => "bool"
  | .int _ => "int"
  | .str _ => "str"
  | .tup _ => "tuple"
  | .lst _ => "list"
  | _ => "dict"
variable {M} {d : Da}
theorem pdd_of (h : plD d = true) : pdd d = true := by
  cases d <;> first | exact h | rfl
theorem look_pdd (h : pdd d = true) : look M d = d := by
  cases d <;> first | rfl | cases h
theorem lookE_pdd (h : pdd d = true) : lookE M d = d := by
  cases d <;> first | rfl | cases h
theorem tyDa_pdd (h : pdd d = true) : tyDa M d = some (tyP d) := by
  cases d <;> first | rfl | cases h
theorem look_pl (h : plD d = true) : look M d = d := look_pdd (pdd_of h)
theorem lookE_pl (h : plD d = true) : lookE M d = d := lookE_pdd (pdd_of h)
theorem tyDa_pl (h : plD d = true) : tyDa M d = some (tyP d) := tyDa_pdd (pdd_of h)
theorem leaveX_same {n : Nat} {E : XD} {c : Str} {fs : List (Str × Da)} {M : Mem} (h : E c fs M) : leaveX n E c fs M := ⟨M, .inl rfl, h⟩
end
/-- a block, statement by statement: what follows stands hidden in N -/
theorem seq_hide {t u : MS} {D : En} {ρ : Sl} {M : Mem} (h : ∀ N : Sl → Mem → Prop, (∀ ρ' M', u D ρ' M' → N ρ' M') → t { nx := N, rt := D.rt, bk := D.bk, ct := D.ct } ρ M) : mSeq t u D ρ M := h _ fun _ _ h => h
theorem cut_hide {t u : MS} {D : En} {ρ : Sl} {M : Mem} (h : ∀ N : Sl → Mem → Prop, (∀ ρ' M', u D ρ' M' → N ρ' M') → t { nx := N, rt := D.rt, bk := D.bk, ct := D.ct } ρ M) : mCut t u D ρ M := ⟨_, h _ fun _ _ h => h, fun _ _ h => h⟩
/-- an end, hidden -/
theorem end_hide {P : TK → Prop} {Q : TK} (h : ∀ R : TK, (∀ d M, Q d M → R d M) → P R) (m : ∀ R : TK, (∀ d M, Q d M → R d M) → (∀ d M, R d M → Q d M) → P R → P Q) : P Q := m Q (fun _ _ h => h) (fun _ _ h => h) (h Q fun _ _ h => h)
def strD : Da → Bool
  | .str _ => true
  | _ => false
theorem strs_of {ds : List Da} (h : ds.all strD = true) : ∃ zs : List Str, ds = zs.map Da.str := by
  induction ds with
  | nil => exact ⟨[], rfl⟩
  | cons d ds ih =>
    rw [List.all_cons, Bool.and_eq_true] at h
    obtain ⟨zs, e⟩ := ih h.2
    cases d with
    | str z => exact ⟨z :: zs, by rw [e]; rfl⟩
    | _ => cases h.1
theorem tyB_str {d : Da} (h : plD d = true) : tyB "str" (tyP d) = strD d := by
  cases d <;> first | rfl | cases h
theorem natc_0 : ((0 : Nat) : Int) = 0 := rfl
theorem natc_1 : ((1 : Nat) : Int) = 1 := rfl
theorem natc_2 : ((2 : Nat) : Int) = 2 := rfl
theorem natc_3 : ((3 : Nat) : Int) = 3 := rfl
theorem natc_4 : ((4 : Nat) : Int) = 4 := rfl
theorem natc_5 : ((5 : Nat) : Int) = 5 := rfl
theorem natc_6 : ((6 : Nat) : Int) = 6 := rfl
theorem natc_7 : ((7 : Nat) : Int) = 7 := rfl
theorem natc_8 : ((8 : Nat) : Int) = 8 := rfl
theorem natc_9 : ((9 : Nat) : Int) = 9 := rfl
theorem natc_10 : ((10 : Nat) : Int) = 10 := rfl
theorem natc_11 : ((11 : Nat) : Int) = 11 := rfl
theorem natc_12 : ((12 : Nat) : Int) = 12 := rfl
theorem natc_13 : ((13 : Nat) : Int) = 13 := rfl
theorem natc_14 : ((14 : Nat) : Int) = 14 := rfl
theorem natc_15 : ((15 : Nat) : Int) = 15 := rfl
theorem natc_16 : ((16 : Nat) : Int) = 16 := rfl
theorem q_bd {Q : TK} {M : Mem} {b b' : Bool} (h : Q (.bl b) M) (e : b' = b) : Q (.bl b') M := by
  rw [e]
  exact h
theorem leave_bl {Q : TK} {b : Bool} {M S : Mem} (cM : cloL M.length M = true) (q : Q (.bl b) M) : leave M.length Q (.bl b) (M ++ S) :=
  ⟨.bl b, M, .inr ⟨by simp, by simp, cM, frz_clo rfl⟩, q⟩
theorem set_lastM {M : Mem} {x y : Da} : (M ++ [x]).set M.length y = M ++ [y] := by simp
theorem if_hide {c : MT} {t u : MS} {D : En} {ρ : Sl} {M : Mem} (h : ∀ T U : Mem → Prop, (∀ M', t D ρ M' → T M') → (∀ M', u D ρ M' → U M') → c ρ M fun k M1 => if k = true then T M1 else U M1) : mIfS c t u D ρ M := h (fun M' => t D ρ M') (fun M' => u D ρ M') (fun _ h => h) fun _ h => h
theorem seq_run {t u : MS} {D : En} {ρ : Sl} {M : Mem} (h : t { nx := fun ρ M => u D ρ M, rt := D.rt, bk := D.bk, ct := D.ct } ρ M) : mSeq t u D ρ M := h
theorem next_run {D : En} {ρ : Sl} {M : Mem} (h : D.nx ρ M) : mNext D ρ M := h
theorem forL_step {still : Mem → Prop} {g : MG} {tb : MS} {D : En} {n : Nat} {d : Da} {ds : List Da} {ρ : Sl} {M : Mem} (h : ∀ C : Sl → Mem → Prop, (∀ ρ' M', still M' → forL still g tb D n ds ρ' M' → C ρ' M') → g d ρ M fun ρ1 M1 => tb { nx := C, rt := D.rt, bk := D.nx, ct := C } ρ1 M1) :
    forL still g tb D n (d :: ds) ρ M := by
  unfold forL
  exact h _ fun ρ' M' s f => ⟨ρ', M', .same, s, f⟩
theorem forL_end {still : Mem → Prop} {g : MG} {tb : MS} {D : En} {n : Nat} {ρ : Sl} {M : Mem} (h : D.nx ρ M) : forL still g tb D n [] ρ M := h
theorem valD_nil {κ : Type} [DecidableEq κ] {k : κ} : valD ([] : List (κ × Da)) k = none := rfl
theorem valD_cons {κ : Type} [DecidableEq κ] {k j : κ} {d : Da} {r : List (κ × Da)} : valD ((j, d) :: r) k = if j = k then some d else valD r k := by
  unfold valD
  rw [List.find?_cons]
  by_cases h : j = k <;> simp [h]
theorem tabD_nil {k : Str} : tabD [] k = none := rfl
theorem tabD_cons {k j : Str} {d : List Da} {r : List (Str × List Da)} : tabD ((j, d) :: r) k = if j = k then some d else tabD r k := by
  unfold tabD
  rw [List.find?_cons]
  by_cases h : j = k <;> simp [h]
theorem look_lastM {M : Mem} {x : Da} : look (M ++ [x]) (.cell M.length) = x := by
  rw [look_cell]
  simp
theorem valD_put (kds : List (Key × Da)) (k j : Key) (d : Da) : valD (putD kds k d) j = if k = j then some d else valD kds j := by
  unfold putD
  split
  · rename_i h
    have go : ∀ kds : List (Key × Da), valD (kds.map fun kv => if kv.1 = k then (kv.1, d) else kv) j = if k = j then (if (kds.any fun kv => decide (kv.1 = k)) = true then some d else none) else valD kds j := by
      intro kds
      induction kds with
      | nil => simp [valD]
      | cons p r ih =>
        obtain ⟨i, e⟩ := p
        rw [List.map_cons]
        by_cases c : i = k
        · subst c
          simp only [if_true]
          rw [valD_cons, valD_cons, ih]
          by_cases c2 : i = j
          · simp [c2]
          · simp [c2]
        · simp only [c, if_false]
          rw [valD_cons, valD_cons, ih]
          by_cases c2 : i = j
          · have c3 : ¬ k = j := fun z => c (c2.trans z.symm)
            simp [c2, c3]
          · rw [List.any_cons, decide_eq_false c, Bool.false_or, if_neg c2, if_neg c2]
    rw [go, h, if_pos rfl]
  · rename_i h
    have go : ∀ kds : List (Key × Da), ¬ (kds.any fun kv => decide (kv.1 = k)) = true → valD (kds ++ [(k, d)]) j = if k = j then some d else valD kds j := by
      intro kds
      induction kds with
      | nil => intro _; rw [List.nil_append, valD_cons]
      | cons p r ih =>
        intro h
        obtain ⟨i, e⟩ := p
        rw [List.any_cons] at h
        have h1 : ¬ i = k := fun z => h (by simp [z])
        have h2 := ih fun z => h (by rw [z]; simp)
        rw [List.cons_append, valD_cons, valD_cons, h2]
        by_cases c2 : i = j
        · have c3 : ¬ k = j := fun z => h1 (c2.trans z.symm)
          simp [c2, c3]
        · simp [c2]
    exact go kds h
theorem putD_len (kds : List (Key × Da)) (k : Key) (d : Da) : (putD kds k d).length ≤ kds.length + 1 := by
  unfold putD
  split
  · rw [List.length_map]; omega
  · rw [List.length_append]; simp
theorem mergeD_len : ∀ (l acc : List (Key × Da)), (mergeD acc l).length ≤ acc.length + l.length
  | [], acc => by show acc.length ≤ _; simp
  | (k, d) :: l, acc => by
    have h := mergeD_len l (putD acc k d)
    have h2 := putD_len acc k d
    show (mergeD (putD acc k d) l).length ≤ _
    rw [List.length_cons]
    omega
theorem mergeD_nil (acc : List (Key × Da)) : mergeD acc [] = acc := rfl
theorem mergeD_cons (acc : List (Key × Da)) (k : Key) (d : Da) (l : List (Key × Da)) : mergeD acc ((k, d) :: l) = mergeD (putD acc k d) l := rfl
theorem len_put {kds : List (Key × Da)} {k : Key} {d : Da} {n : Nat} (h : kds.length ≤ n) : (putD kds k d).length ≤ n + 1 := Nat.le_trans (putD_len _ _ _) (by omega)
theorem mMix_hit {X : ExT} {W : WD} {D : En} {c x : Str} {i : Option Nat} {ts : Addr → Addr → MS} {r : List HdM} {fs : List (Str × Da)} {ρ : Sl} {M : Mem} (e : X.lookup (c, x) = some true) (h1 : i.isSome = true → c = x) (h : ∀ a dd, ts a dd (unbD i D) (bndD i (.exv a dd c fs) ρ) M) :
    mMix X W D ((x, i, ts) :: r) c fs ρ M := by
  simp only [mMix, e]
  exact ⟨h1, h⟩
theorem mMix_miss {X : ExT} {W : WD} {D : En} {c x : Str} {i : Option Nat} {ts : Addr → Addr → MS} {r : List HdM} {fs : List (Str × Da)} {ρ : Sl} {M : Mem} (e : X.lookup (c, x) = some false) (h : mMix X W D r c fs ρ M) : mMix X W D ((x, i, ts) :: r) c fs ρ M := by
  simp only [mMix, e]
  exact h
end Z

/-! LT2: lists of texts, pairs of texts; comprehensions over texts -/
namespace Z
open PySem PySem.Spec PyProof.Rows L2 Evl
theorem lookup_one {α : Type} (k : Str) (d : α) : List.lookup k [(k, d)] = some d := by
  rw [List.lookup_cons, beq_self_eq_true]
def strF {α : Type} (e : α) (f : Str → α) : Da → α
  | .str z => f z
  | _ => e
theorem lcS {still : Mem → Prop} {i : Nat} {tt : MT} {te : ME} {vs : List Nat} {ρ : Sl} {M : Mem} {Q : TK} (zs : List Str) (p : Str → Bool) (f : Str → Da)
    (ht : ∀ z ∈ zs, ∀ R : Bool → Mem → Prop, R (p z) M → tt ((wipeD ρ vs).set i (some (.str z))) M R) (hf : ∀ z ∈ zs, p z = true → ∀ R : TK, R (f z) M → te ((wipeD ρ vs).set i (some (.str z))) M R) (hS : still M) (q : Q (.lst ((zs.filter p).map f)) M) :
    lcL still (hName i) tt te vs ρ (zs.map Da.str) [] M Q := by
  refine lcL_pure (strF false p) (strF .non f) (fun d hd R r => ?_) (fun d hd hp R r => ?_) hS ?_
  · obtain ⟨z, hz, rfl⟩ := List.mem_map.1 hd
    exact ht z hz R r
  · obtain ⟨z, hz, rfl⟩ := List.mem_map.1 hd
    exact hf z hz hp R r
  · rw [List.filter_map, List.map_map]
    exact q
theorem pdS (zs : List Str) : pdL (zs.map Da.str) := ⟨plL_strs zs, by rw [dpL_map (fun _ => rfl)]; omega⟩
theorem pdT (zs : List Str) : pd (.tup (zs.map Da.str)) := ⟨plL_strs zs, by unfold dpD; rw [dpL_map (fun _ => rfl)]; omega⟩
theorem pdLS (zs : List Str) : pd (.lst (zs.map Da.str)) := ⟨plL_strs zs, by unfold dpD; rw [dpL_map (fun _ => rfl)]; omega⟩
theorem eqL_strsD (xs ys : List Str) : eqL (xs.map Da.str) (ys.map Da.str) = decide (xs = ys) := by
  induction xs generalizing ys with
  | nil => cases ys <;> rfl
  | cons x xs ih =>
    cases ys with
    | nil => rfl
    | cons y ys =>
      show (decide (x = y) && eqL (xs.map Da.str) (ys.map Da.str)) = _
      rw [ih]
      by_cases h : x = y <;> simp [h]
theorem strs_nil (zs : List Str) : (zs.map Da.str).isEmpty = zs.isEmpty := by cases zs <;> rfl
/-- a pair of texts -/
def prD (p : Str × Str) : Da := .tup [.str p.1, .str p.2]
theorem pl_prs (ps : List (Str × Str)) : plL (ps.map prD) = true := plL_map (fun _ => rfl) ps
theorem dp_prs (ps : List (Str × Str)) : dpL (ps.map prD) ≤ 1 := by
  refine dpL_le.2 fun d hd => ?_
  obtain ⟨p, _, rfl⟩ := List.mem_map.1 hd
  exact Nat.le_of_eq rfl
theorem pdP (ps : List (Str × Str)) : pdL (ps.map prD) := ⟨pl_prs ps, Nat.le_trans (dp_prs ps) (by decide)⟩
theorem pdLP (ps : List (Str × Str)) : pd (.lst (ps.map prD)) := ⟨pl_prs ps, by have := dp_prs ps; unfold dpD; omega⟩
theorem eq_pr (p q : Str × Str) : eqD (prD p) (prD q) = decide (p = q) := by
  obtain ⟨a, b⟩ := p
  obtain ⟨c, d⟩ := q
  show (decide (a = c) && (decide (b = d) && true)) = _
  by_cases h : a = c <;> by_cases h2 : b = d <;> simp [h, h2]
theorem anyEq_prs (p : Str × Str) (l : List (Str × Str)) : anyEq (prD p) (l.map prD) = decide (p ∈ l) := by
  unfold anyEq
  induction l with
  | nil => simp
  | cons a l ih =>
    rw [List.map_cons, List.any_cons, ih, eq_pr]
    by_cases h : a = p
    · simp [h]
    · have h2 : ¬ p = a := fun q => h q.symm
      simp [h, h2]
theorem eqL_prs (xs ys : List (Str × Str)) : eqL (xs.map prD) (ys.map prD) = decide (xs = ys) := by
  induction xs generalizing ys with
  | nil => cases ys <;> rfl
  | cons x xs ih =>
    cases ys with
    | nil => rfl
    | cons y ys =>
      show (eqD (prD x) (prD y) && eqL (xs.map prD) (ys.map prD)) = _
      rw [ih, eq_pr]
      by_cases h : x = y <;> simp [h]
theorem enuD_get {ds : List Da} {k : Nat} {d : Da} (h : (enuD ds)[k]? = some d) : ∃ x, ds[k]? = some x ∧ d = .tup [.int (k : Nat), x] := by
  unfold enuD at h
  rw [List.getElem?_map, List.getElem?_zipIdx] at h
  cases e : ds[k]? with
  | none => rw [e] at h; cases h
  | some x =>
    rw [e] at h
    refine ⟨x, rfl, ?_⟩
    simpa using h.symm
theorem cutL_takeD {α : Type} (xs : List α) (m : Nat) : cutL xs none (some (m : Int)) = xs.take m := by
  unfold cutL
  have e1 : HT.sIx xs.length xs.length (some (m : Int)) = min m xs.length := HT.sIx_nat _ _ _
  rw [e1, show HT.sIx xs.length 0 none = 0 from rfl, List.drop_zero, Nat.sub_zero]
  by_cases h : m ≤ xs.length
  · rw [Nat.min_eq_left h]
  · rw [Nat.min_eq_right (by omega), List.take_of_length_le (by omega), List.take_of_length_le (by omega)]
theorem cutL_dropD {α : Type} (xs : List α) (n : Nat) : cutL xs (some (n : Int)) none = xs.drop n := by
  have e1 : HT.sIx xs.length 0 (some (n : Int)) = min n xs.length := HT.sIx_nat _ _ _
  have e2 : HT.sIx xs.length xs.length none = xs.length := rfl
  unfold cutL
  rw [e1, e2]
  by_cases h : n ≤ xs.length
  · rw [Nat.min_eq_left h]
    apply List.take_of_length_le
    rw [List.length_drop]
    exact Nat.le_refl _
  · rw [Nat.min_eq_right (by omega), Nat.sub_self, List.take_zero, List.drop_of_length_le (by omega)]
/-- a comprehension that changes nothing, any target -/
theorem lcL_pureG {still : Mem → Prop} {g : MG} {tt : MT} {te : ME} {vs : List Nat} {ρ : Sl} {items : List Da} {M : Mem} {Q : TK} (sl : Da → Sl) (p : Da → Bool) (f : Da → Da) (hg : ∀ d ∈ items, ∀ R : Sl → Mem → Prop, R (sl d) M → g d (wipeD ρ vs) M R)
    (ht : ∀ d ∈ items, ∀ R : Bool → Mem → Prop, R (p d) M → tt (sl d) M R) (hf : ∀ d ∈ items, p d = true → ∀ R : TK, R (f d) M → te (sl d) M R) (hS : still M) (q : Q (.lst ((items.filter p).map f)) M) :
    lcL still g tt te vs ρ items [] M Q := by
  refine lcL_ind (fun k acc M' => M' = M ∧ acc = ((items.take k).filter p).map f) ⟨rfl, rfl⟩ ?_ ?_
  · rintro k d acc M' e ⟨rfl, rfl⟩ C hC
    have hm : d ∈ items := List.mem_of_getElem? e
    have et : items.take (k + 1) = items.take k ++ [d] := by rw [List.take_add_one, e]; rfl
    refine hg d hm _ (ht d hm _ ?_)
    cases c : p d with
    | true =>
      refine iteT (hf d hm c _ (hC _ _ hS ⟨rfl, ?_⟩))
      rw [et, List.filter_append]
      simp [c]
    | false =>
      refine iteF (hC _ _ hS ⟨rfl, ?_⟩)
      rw [et, List.filter_append]
      simp [c]
  · rintro acc M' ⟨rfl, rfl⟩
    rw [List.take_length]
    exact q
def prF {α : Type} (e : α) (f : Str × Str → α) : Da → α
  | .tup [.str a, .str b] => f (a, b)
  | _ => e
theorem lcP {still : Mem → Prop} {i j : Nat} {tt : MT} {te : ME} {vs : List Nat} {ρ : Sl} {M : Mem} {Q : TK} (ps : List (Str × Str)) (p : Str × Str → Bool) (f : Str × Str → Da)
    (ht : ∀ x ∈ ps, ∀ R : Bool → Mem → Prop, R (p x) M → tt (((wipeD ρ vs).set i (some (.str x.1))).set j (some (.str x.2))) M R)
    (hf : ∀ x ∈ ps, p x = true → ∀ R : TK, R (f x) M → te (((wipeD ρ vs).set i (some (.str x.1))).set j (some (.str x.2))) M R) (hS : still M) (q : Q (.lst ((ps.filter p).map f)) M) :
    lcL still (hTup 2 (hCons (hName i) (hCons (hName j) hNil))) tt te vs ρ (ps.map prD) [] M Q := by
  refine lcL_pureG (prF [] fun x => ((wipeD ρ vs).set i (some (.str x.1))).set j (some (.str x.2))) (prF false p) (prF .non f) (fun d hd R r => ?_) (fun d hd R r => ?_) (fun d hd hp R r => ?_) hS ?_
  · obtain ⟨x, hx, rfl⟩ := List.mem_map.1 hd
    exact ⟨rfl, rfl, r⟩
  · obtain ⟨x, hx, rfl⟩ := List.mem_map.1 hd
    exact ht x hx R r
  · obtain ⟨x, hx, rfl⟩ := List.mem_map.1 hd
    exact hf x hx hp R r
  · rw [List.filter_map, List.map_map]
    exact q
/-! two fors -/
theorem lcIn_S {still : Mem → Prop} {i : Nat} {tt : MT} {te : ME} {vs : List Nat} {ρ : Sl} {C : List Da → Mem → Prop} {M : Mem} (p : Str → Bool) (f : Str → Da) : ∀ (zs : List Str) (acc : List Da), acc.length + zs.length ≤ 1000000 →
    (∀ z ∈ zs, ∀ R : Bool → Mem → Prop, R (p z) M → tt ((wipeD ρ vs).set i (some (.str z))) M R) → (∀ z ∈ zs, p z = true → ∀ R : TK, R (f z) M → te ((wipeD ρ vs).set i (some (.str z))) M R) → still M → C (acc ++ (zs.filter p).map f) M →
    lcIn still (hName i) tt te vs ρ C (zs.map Da.str) acc M
  | [], acc, _, _, _, _, h => by
    rw [List.filter_nil, List.map_nil, List.append_nil] at h
    exact h
  | z :: zs, acc, hl, ht, hf, hs, h => by
    rw [List.length_cons] at hl
    rw [List.map_cons]
    unfold lcIn
    refine ht z (List.mem_cons_self ..) _ ?_
    cases c : p z with
    | true =>
      refine iteT (hf z (List.mem_cons_self ..) c _ ⟨by omega, hs, ?_⟩)
      refine lcIn_S p f zs _ (by rw [List.length_append, List.length_singleton]; omega) (fun y hy => ht y (List.mem_cons_of_mem _ hy)) (fun y hy => hf y (List.mem_cons_of_mem _ hy)) hs ?_
      rw [List.filter_cons, if_pos c, List.map_cons] at h
      rw [List.append_assoc]
      exact h
    | false =>
      refine iteF ⟨hs, ?_⟩
      refine lcIn_S p f zs _ (by omega) (fun y hy => ht y (List.mem_cons_of_mem _ hy)) (fun y hy => hf y (List.mem_cons_of_mem _ hy)) hs ?_
      rw [List.filter_cons, if_neg (by rw [c]; simp)] at h
      exact h
theorem lcL2_pureG {still : Mem → Prop} {g : MG} {tt : MT} {mi : MI} {g1 : MG} {tt1 : MT} {te : ME} {vs vs1 : List Nat} {ρ : Sl} {M : Mem} {Q : TK} {items : List Da} (sl : Da → Sl) (out : Da → List Da) (hl : (items.flatMap out).length ≤ 900000)
    (hg : ∀ d ∈ items, ∀ R : Sl → Mem → Prop, R (sl d) M → g d (wipeD ρ vs) M R) (ht : ∀ d ∈ items, ∀ R : Bool → Mem → Prop, R true M → tt (sl d) M R)
    (hin : ∀ d ∈ items, ∀ (acc : List Da) (C : List Da → Mem → Prop), acc.length ≤ 900000 → C (acc ++ out d) M → mi (sl d) M fun I1 M4 => lcIn I1.still g1 tt1 te vs1 (sl d) C I1.items acc M4)
    (hS : still M) (q : Q (.lst (items.flatMap out)) M) : lcL2 still g tt mi g1 tt1 te vs vs1 ρ items [] M Q := by
  have go : ∀ (ds es : List Da), es ++ ds = items → lcL2 still g tt mi g1 tt1 te vs vs1 ρ ds (es.flatMap out) M Q := by
    intro ds
    induction ds with
    | nil =>
      intro es e
      rw [List.append_nil] at e
      subst e
      exact q
    | cons d ds ih =>
      intro es e
      have hd : d ∈ items := by rw [← e]; simp
      have hle : (es.flatMap out).length ≤ 900000 := by
        have e2 : (items.flatMap out).length = (es.flatMap out).length + ((d :: ds).flatMap out).length := by
          rw [← e, List.flatMap_append, List.length_append]
        omega
      unfold lcL2
      refine hg d hd _ (ht d hd _ (iteT (hin d hd _ _ hle ⟨hS, ?_⟩)))
      have e3 : es.flatMap out ++ out d = (es ++ [d]).flatMap out := by simp
      rw [e3]
      exact ih (es ++ [d]) (by rw [List.append_assoc]; exact e)
  exact go items [] rfl
/-! eqD, pair by pair of constructors -/
theorem eqD_non_non   : eqD (.non) (.non) = true := rfl
theorem eqD_non_bl  (b : Bool) : eqD (.non) (.bl b) = false := rfl
theorem eqD_non_int  (b : Int) : eqD (.non) (.int b) = false := rfl
theorem eqD_non_str  (b : Str) : eqD (.non) (.str b) = false := rfl
theorem eqD_non_tup  (b : List Da) : eqD (.non) (.tup b) = false := rfl
theorem eqD_non_lst  (b : List Da) : eqD (.non) (.lst b) = false := rfl
theorem eqD_non_dct  (b : List (Key × Da)) : eqD (.non) (.dct b) = false := rfl
theorem eqD_non_obj  (b : Str) (b' : List (Str × Da)) : eqD (.non) (.obj b b') = false := rfl
theorem eqD_bl_non (a : Bool)  : eqD (.bl a) (.non) = false := rfl
theorem eqD_bl_bl (a : Bool) (b : Bool) : eqD (.bl a) (.bl b) = decide (a = b) := rfl
theorem eqD_bl_int (a : Bool) (b : Int) : eqD (.bl a) (.int b) = ((if a then 1 else 0) == b) := rfl
theorem eqD_bl_str (a : Bool) (b : Str) : eqD (.bl a) (.str b) = false := rfl
theorem eqD_bl_tup (a : Bool) (b : List Da) : eqD (.bl a) (.tup b) = false := rfl
theorem eqD_bl_lst (a : Bool) (b : List Da) : eqD (.bl a) (.lst b) = false := rfl
theorem eqD_bl_dct (a : Bool) (b : List (Key × Da)) : eqD (.bl a) (.dct b) = false := rfl
theorem eqD_bl_obj (a : Bool) (b : Str) (b' : List (Str × Da)) : eqD (.bl a) (.obj b b') = false := rfl
theorem eqD_int_non (a : Int)  : eqD (.int a) (.non) = false := rfl
theorem eqD_int_bl (a : Int) (b : Bool) : eqD (.int a) (.bl b) = (a == (if b then 1 else 0)) := rfl
theorem eqD_int_int (a : Int) (b : Int) : eqD (.int a) (.int b) = decide (a = b) := rfl
theorem eqD_int_str (a : Int) (b : Str) : eqD (.int a) (.str b) = false := rfl
theorem eqD_int_tup (a : Int) (b : List Da) : eqD (.int a) (.tup b) = false := rfl
theorem eqD_int_lst (a : Int) (b : List Da) : eqD (.int a) (.lst b) = false := rfl
theorem eqD_int_dct (a : Int) (b : List (Key × Da)) : eqD (.int a) (.dct b) = false := rfl
theorem eqD_int_obj (a : Int) (b : Str) (b' : List (Str × Da)) : eqD (.int a) (.obj b b') = false := rfl
theorem eqD_str_non (a : Str)  : eqD (.str a) (.non) = false := rfl
theorem eqD_str_bl (a : Str) (b : Bool) : eqD (.str a) (.bl b) = false := rfl
theorem eqD_str_int (a : Str) (b : Int) : eqD (.str a) (.int b) = false := rfl
theorem eqD_str_str (a : Str) (b : Str) : eqD (.str a) (.str b) = decide (a = b) := rfl
theorem eqD_str_tup (a : Str) (b : List Da) : eqD (.str a) (.tup b) = false := rfl
theorem eqD_str_lst (a : Str) (b : List Da) : eqD (.str a) (.lst b) = false := rfl
theorem eqD_str_dct (a : Str) (b : List (Key × Da)) : eqD (.str a) (.dct b) = false := rfl
theorem eqD_str_obj (a : Str) (b : Str) (b' : List (Str × Da)) : eqD (.str a) (.obj b b') = false := rfl
theorem eqD_tup_non (a : List Da)  : eqD (.tup a) (.non) = false := rfl
theorem eqD_tup_bl (a : List Da) (b : Bool) : eqD (.tup a) (.bl b) = false := rfl
theorem eqD_tup_int (a : List Da) (b : Int) : eqD (.tup a) (.int b) = false := rfl
theorem eqD_tup_str (a : List Da) (b : Str) : eqD (.tup a) (.str b) = false := rfl
theorem eqD_tup_tup (a : List Da) (b : List Da) : eqD (.tup a) (.tup b) = eqL a b := rfl
theorem eqD_tup_lst (a : List Da) (b : List Da) : eqD (.tup a) (.lst b) = false := rfl
theorem eqD_tup_dct (a : List Da) (b : List (Key × Da)) : eqD (.tup a) (.dct b) = false := rfl
theorem eqD_tup_obj (a : List Da) (b : Str) (b' : List (Str × Da)) : eqD (.tup a) (.obj b b') = false := rfl
theorem eqD_lst_non (a : List Da)  : eqD (.lst a) (.non) = false := rfl
theorem eqD_lst_bl (a : List Da) (b : Bool) : eqD (.lst a) (.bl b) = false := rfl
theorem eqD_lst_int (a : List Da) (b : Int) : eqD (.lst a) (.int b) = false := rfl
theorem eqD_lst_str (a : List Da) (b : Str) : eqD (.lst a) (.str b) = false := rfl
theorem eqD_lst_tup (a : List Da) (b : List Da) : eqD (.lst a) (.tup b) = false := rfl
theorem eqD_lst_lst (a : List Da) (b : List Da) : eqD (.lst a) (.lst b) = eqL a b := rfl
theorem eqD_lst_dct (a : List Da) (b : List (Key × Da)) : eqD (.lst a) (.dct b) = false := rfl
theorem eqD_lst_obj (a : List Da) (b : Str) (b' : List (Str × Da)) : eqD (.lst a) (.obj b b') = false := rfl
theorem eqD_dct_non (a : List (Key × Da))  : eqD (.dct a) (.non) = false := rfl
theorem eqD_dct_bl (a : List (Key × Da)) (b : Bool) : eqD (.dct a) (.bl b) = false := rfl
theorem eqD_dct_int (a : List (Key × Da)) (b : Int) : eqD (.dct a) (.int b) = false := rfl
theorem eqD_dct_str (a : List (Key × Da)) (b : Str) : eqD (.dct a) (.str b) = false := rfl
theorem eqD_dct_tup (a : List (Key × Da)) (b : List Da) : eqD (.dct a) (.tup b) = false := rfl
theorem eqD_dct_lst (a : List (Key × Da)) (b : List Da) : eqD (.dct a) (.lst b) = false := rfl
theorem eqD_dct_dct (a : List (Key × Da)) (b : List (Key × Da)) : eqD (.dct a) (.dct b) = false := rfl
theorem eqD_dct_obj (a : List (Key × Da)) (b : Str) (b' : List (Str × Da)) : eqD (.dct a) (.obj b b') = false := rfl
theorem eqD_obj_non (a : Str) (a' : List (Str × Da))  : eqD (.obj a a') (.non) = false := rfl
theorem eqD_obj_bl (a : Str) (a' : List (Str × Da)) (b : Bool) : eqD (.obj a a') (.bl b) = false := rfl
theorem eqD_obj_int (a : Str) (a' : List (Str × Da)) (b : Int) : eqD (.obj a a') (.int b) = false := rfl
theorem eqD_obj_str (a : Str) (a' : List (Str × Da)) (b : Str) : eqD (.obj a a') (.str b) = false := rfl
theorem eqD_obj_tup (a : Str) (a' : List (Str × Da)) (b : List Da) : eqD (.obj a a') (.tup b) = false := rfl
theorem eqD_obj_lst (a : Str) (a' : List (Str × Da)) (b : List Da) : eqD (.obj a a') (.lst b) = false := rfl
theorem eqD_obj_dct (a : Str) (a' : List (Str × Da)) (b : List (Key × Da)) : eqD (.obj a a') (.dct b) = false := rfl
theorem eqD_obj_obj (a : Str) (a' : List (Str × Da)) (b : Str) (b' : List (Str × Da)) : eqD (.obj a a') (.obj b b') = false := rfl
theorem eqL_nn : eqL [] [] = true := rfl
theorem eqL_nc (y : Da) (ys : List Da) : eqL [] (y :: ys) = false := rfl
theorem eqL_cn (y : Da) (ys : List Da) : eqL (y :: ys) [] = false := rfl
theorem eqL_cc (x y : Da) (xs ys : List Da) : eqL (x :: xs) (y :: ys) = (eqD x y && eqL xs ys) := rfl
end Z

/-! L11: str(o) by an own __str__, o == y with y no instance, f-strings, xs[::-1] -/
namespace Z
open PySem PySem.Spec PyProof.Rows L2 Evl
section
variable {X : Cx} {k n : Nat} {ps : List Str} {sp : Sp} {C m : Str} {pm : List Nat} {dvs : List V}
theorem run_in2 {pins : List (Addr × Obj)} {σ : L2.St} {H : Hp} {s : Shared} {Q : VK} {a : Addr} {us : List Value} {vs : List V} {E' : Value → Shared → Prop} (F : FokM X.prog X.w X.K X.mg X.base CX0 k C m ps sp n [] dvs pm) (hr : Room (k + 2) X.A)
    (I : Inv X pins σ H s) (r : Vals vs us) (l1 : vs.length = n) (h : sp (perm pm ((V.ref a :: vs) ++ dvs)) H Q E0) : wpAny (model X.prog X.w) X.A.in1.in1 (call (.ref (He.ma X.K (He.ga X.K C) m)) (Value.ref a :: us)) (EP X pins σ Q) E' s := by
  obtain ⟨fd, ds, rd, F1, b⟩ := F.ex
  have r1 : Vals (V.ref a :: vs) (Value.ref a :: us) := .cons rfl r
  have n1 : (Value.ref a :: us).length = n + 1 := by rw [List.length_cons, ← r.length, l1]
  have b1 := b s (Value.ref a :: us) [] I.kIn n1 rfl
  rw [List.append_nil] at b1
  refine wpAny_call (codeAny_mono (F1.run X.A.in1.in1 X.stack s H ⟨Value.ref a :: us, []⟩ (perm pm ((Value.ref a :: us) ++ ds)) (perm pm ((V.ref a :: vs) ++ dvs)) Q E0 hr.in1.in1 I.env0.in1.in1 b1 (perm_rel (r1.append rd) pm) h) fun r s' hq => ?_)
  cases r with
  | error e => exact hq.elim
  | ok fl =>
    cases fl with
    | ret u => exact I.after hq
    | next => exact False.elim hq
    | brk => exact False.elim hq
    | cont => exact False.elim hq
/-- str(o) by an own __str__ -/
def rStrO (K : PySem.W.Frag) (C : Str) (pm : List Nat) (sp : Sp) (dvs : List V) : List V → Hp → VK → Prop := fun xs H Q => ∃ a dx fs, xs = [.ref a] ∧ H a = some (.ins (He.ga K C) dx fs) ∧ sp (perm pm ([V.ref a] ++ dvs)) H (fun v H' => ∃ z : Str, v = .str z ∧ Q (.str z) H') E0
theorem call_strO (hm : Meth X.K (He.ga X.K C) "__str__" (He.ma X.K (He.ga X.K C) "__str__")) (F : FokM X.prog X.w X.K X.mg X.base CX0 k C "__str__" ps sp 0 [] dvs pm) (hr : Room (k + 2) X.A) : CallR X (.type "str") (rStrO X.K C pm sp dvs) := by
  intro pins s σ H xs us Q I r h
  obtain ⟨a, dx, fs, rfl, ha, hq⟩ := h
  obtain ⟨u, rfl, ru⟩ := vals1 r
  cases ru
  obtain ⟨mA, O, _⟩ := ins_get I.hok ha
  obtain ⟨od, J, _⟩ := O.look
  refine PySem.W.kso_call hr.in1.in1.units0 I.kIn J hm.at_ hm.fn (wpAny_mono (run_in2 (us := []) F hr I .nil rfl hq) (fun v s' hv => ?_) fun _ _ z => z)
  obtain ⟨w, H', I', rw_, z, rfl, q⟩ := hv
  obtain ⟨t, rfl⟩ := rw_
  exact ⟨.str z, H', I', ⟨_, rfl⟩, q⟩
theorem notFirst_ty {K : PySem.W.Frag} {C : Addr} {T : String} (h : T ∈ (["NoneType", "bool", "int", "str", "tuple", "list", "dict"] : List String)) : PySem.W.notFirst K C (.type T) = true := by
  simp only [List.mem_cons, List.not_mem_nil, or_false] at h
  rcases h with rfl | rfl | rfl | rfl | rfl | rfl | rfl <;> rfl
/-- o == y, an instance and a thing of a built-in type, by an own __eq__ -/
def rEqX (K : PySem.W.Frag) (C : Str) (pm : List Nat) (sp : Sp) (dvs : List V) : R2 := fun x y H Q => ∃ a dx fs T, x = .ref a ∧ H a = some (.ins (He.ga K C) dx fs) ∧ TyX K H y (.type T) ∧ T ∈ (["NoneType", "bool", "int", "str", "tuple", "list", "dict"] : List String) ∧ sp (perm pm ([V.ref a, y] ++ dvs)) H (fun v H' => ∃ i : Bool, v = .bl i ∧ Q (.bl i) H') E0
theorem op_eqX (hm : Meth X.K (He.ga X.K C) "__eq__" (He.ma X.K (He.ga X.K C) "__eq__")) (F : FokM X.prog X.w X.K X.mg X.base CX0 k C "__eq__" ps sp 1 [] dvs pm) (hr : Room k X.A) : OpR X (compareOp .Eq) (rEqX X.K C pm sp dvs) := by
  intro pins s σ H x y v u Q I rx ry h
  obtain ⟨a, dx, fs, T, rfl, ha, ty, hT, hq⟩ := h
  cases rx
  obtain ⟨mA, O, _⟩ := ins_get I.hok ha
  obtain ⟨od, J, _⟩ := O.look
  obtain ⟨P, kx, hP, _⟩ := L2.kit_of I ry ty
  obtain ⟨m, hF⟩ := I.fr
  refine PySem.W.cmp_ofEq (PySem.W.cmp_K (op := .Eq) (tb := .type T) hr.units0 hF I.ok.mod.kin J (kx.ty _ _ I.kIn hP) (notFirst_ty hT) hm.at_ hm.fn (wpAny_mono (run_at (us := [u]) (vs := [y]) F hr I (.cons ry .nil) rfl hq) (fun v s' hv => ?_) fun _ _ z => z))
  obtain ⟨w, H', I', rw_, i, rfl, q⟩ := hv
  cases rw_
  exact ⟨.bl i, H', I', rfl, q⟩
/-! ### f-strings -/
abbrev TJ := Str → L2.St → Hp → (Str → Hp → Prop) → Prop
def jNil : TJ := fun acc _ H Q => Q acc H
def jCons (t : TE) (r : TJ) : TJ := fun acc σ H Q => t σ H fun x H1 => ∃ y : Str, x = .str y ∧ (acc ++ y).length ≤ sizeLine ∧ r (acc ++ y) σ H1 Q
inductive PJs (X : Cx) : List Expr → TJ → Prop where
  | nil : PJs X [] jNil
  | cons {e : Expr} {t : TE} {es : List Expr} {r : TJ} (h : PE X e t) (q : PJs X es r) : PJs X (e :: es) (jCons t r)
theorem PJs.old {es : List Expr} {r : TJ} (h : PJs X es r) : ∃ ts, PJ X es ts ∧ r = tJs ts := by
  induction h with
  | nil => exact ⟨[], .nil, rfl⟩
  | cons h _ ih =>
    obtain ⟨ts, q, rfl⟩ := ih
    exact ⟨_, .cons h q, rfl⟩
def tJoin (r : TJ) : TE := fun σ H Q => r Str.empty σ H fun out H1 => Q (.str out) H1
theorem pe_join {v1 v2 : Expr} {rest : List Expr} {r : TJ} {pos : Pos} (h : PJs X (v1 :: v2 :: rest) r) : PE X (.JoinedStr (v1 :: v2 :: rest) pos) (tJoin r) := by
  obtain ⟨ts, q, rfl⟩ := h.old
  exact pe_joined q
end
end Z

/-! T15: str(o), o == y, f-strings, xs[::-1] over data -/
namespace Z
open PySem PySem.Spec PyProof.Rows L2 Evl
section
variable {K : PySem.W.Frag} {χ φ : List Addr} {H : Hp} {M : Mem}
def nStrO (c : Str) (pm : List Nat) (f : MP) (dfs : List Da) : List Da → Mem → TK → Prop := fun ds M Q => match ds with
  | [x] => match look M x with
    | .obj c1 _ => c1 = c ∧ f (perm pm ([x] ++ dfs)) M (fun d M' => ∃ z : Str, d = .str z ∧ Q (.str z) M') XD0
    | _ => False
  | _ => False
theorem C_strO {c : Str} {pm : List Nat} {f : MP} {dvs : List V} {dfs : List Da} (D : DfL K dvs dfs) : SC K (rStrO K c pm (up K f) dvs) (nStrO c pm f dfs) := by
  intro χ H φ M x dx Q Q' m hx fe h
  unfold nStrO at h
  split at h
  · obtain ⟨v, rfl, h1⟩ := hx.one
    split at h
    · rename_i c' fds e
      obtain ⟨rfl, h⟩ := h
      obtain ⟨a, dd, fs, rfl, ha, rf⟩ := vO m h1 e
      refine ⟨a, dd, fs, rfl, ha, φ, χ, M, _, _, _, ((RpL.cons h1 .nil).app (D _ _ _)).perm pm, m, ?_, FX0, h⟩
      rintro v d H' φ' M' A m' r' ⟨z, rfl, q⟩
      obtain ⟨rfl, hz⟩ := vStr r'
      exact ⟨z, rfl, fe _ _ _ _ _ A m' (.str hz) q⟩
    · exact h.elim
  · exact h.elim
def nEqX (c : Str) (pm : List Nat) (f : MP) (dfs : List Da) : MO := fun x y M Q => match look M x with
  | .obj c1 _ => c1 = c ∧ (tyDa M y).isSome = true ∧ f (perm pm ([x, y] ++ dfs)) M (fun d M' => ∃ b : Bool, d = .bl b ∧ Q (.bl b) M') XD0
  | _ => False
theorem O_eqX {c : Str} {pm : List Nat} {f : MP} {dvs : List V} {dfs : List Da} (D : DfL K dvs dfs) : SO K (rEqX K c pm (up K f) dvs) (nEqX c pm f dfs) := by
  intro χ H φ M x y dx dy Q Q' m hx hy fe h
  unfold nEqX at h
  split at h
  · rename_i c1 fds e1
    obtain ⟨rfl, t, h⟩ := h
    obtain ⟨T, hT⟩ := Option.isSome_iff_exists.1 t
    obtain ⟨a, dd, fs, rfl, ha, rf⟩ := vO m hx e1
    refine ⟨a, dd, fs, T, rfl, ha, tyDa_X m hy hT, tyDa_in hT, φ, χ, M, _, _, _, ((RpL.cons hx (.cons hy .nil)).app (D _ _ _)).perm pm, m, ?_, FX0, h⟩
    rintro v d H' φ' M' A m' r' ⟨i, rfl, q⟩
    obtain rfl := vBl r'
    exact ⟨i, rfl, fe _ _ _ _ _ A m' (.bl i) q⟩
  · exact h.elim
/-! f-strings -/
abbrev MJ := Str → Sl → Mem → (Str → Mem → Prop) → Prop
def kNil : MJ := fun acc _ M Q => Q acc M
def kCons (t : ME) (r : MJ) : MJ := fun acc ρ M Q => t ρ M fun d M1 => match d with
  | .str y => (acc ++ y).length ≤ sizeLine ∧ r (acc ++ y) ρ M1 Q
  | _ => False
def mJoin (r : MJ) : ME := fun ρ M Q => r Str.empty ρ M fun out M1 => Q (.str out) M1
def mFmt (t : ME) : ME := fun ρ M Q => t ρ M fun d M1 => match d with
  | .str y => Q (.str y) M1
  | .int i => i.natAbs.log2 < 1920 ∧ (toString i : Str).length ≤ sizeLine ∧ Q (.str (toString i)) M1
  | _ => False
def FJ (K : PySem.W.Frag) (χ : List Addr) (H : Hp) (φ : List Addr) (Q' : Str → Mem → Prop) (Q : Str → Hp → Prop) : Prop := ∀ z H' φ' M', z.length ≤ sizeLine → Adv H φ H' φ' → Mm K H' φ' χ M' → Q' z M' → Q z H'
theorem FJ.adv {H1 : Hp} {φ1 : List Addr} {Q' : Str → Mem → Prop} {Q : Str → Hp → Prop} (f : FJ K χ H φ Q' Q) (A : Adv H φ H1 φ1) : FJ K χ H1 φ1 Q' Q := fun z H' φ' M' l B => f z H' φ' M' l (A.trans B)
structure SJ (K : PySem.W.Frag) (tj : WX → TJ) (mj : WD → MJ) : Prop where
  run : ∀ {χ W W' σ H φ ρ M Q Q' acc}, acc.length ≤ sizeLine → Rs K H φ χ σ ρ → Mm K H φ χ M → FW K χ H φ W' W → FJ K χ H φ Q' Q → mj W' acc ρ M Q' → tj W acc σ H Q
variable {te : WX → TE} {me : WD → ME} {tj : WX → TJ} {mj : WD → MJ}
theorem K_nil : SJ K (fun _ => jNil) (fun _ => kNil) := ⟨fun l _ m _ f h => f _ _ _ _ l Adv.refl m h⟩
theorem K_cons (a : SE K te me) (s : SJ K tj mj) : SJ K (fun W => jCons (te W) (tj W)) (fun W => kCons (me W) (mj W)) := ⟨fun _ r m w f h =>
  a.run r m w (fun v d H1 φ1 M1 A1 m1 r1 h1 => by
    cases d with
    | str y =>
      obtain ⟨rfl, _⟩ := vStr r1
      exact ⟨y, rfl, h1.1, s.run h1.1 (r.adv A1) m1 (w.adv A1) (f.adv A1) h1.2⟩
    | _ => exact h1.elim) h⟩
theorem E_join (s : SJ K tj mj) : SE K (fun W => tJoin (tj W)) (fun W => mJoin (mj W)) := ⟨fun r m w f h =>
  s.run (by show (0 : Nat) ≤ sizeLine; exact Nat.zero_le _) r m w (fun z H1 φ1 M1 l A m1 q => f _ _ _ _ _ A m1 (.str l) q) h⟩
theorem E_fmt (a : SE K te me) : SE K (fun W => tFmt (te W)) (fun W => mFmt (me W)) := ⟨fun r m w f h =>
  a.run r m w (fun v d H1 φ1 M1 A1 m1 r1 h1 => by
    cases d with
    | str y =>
      obtain ⟨rfl, l⟩ := vStr r1
      exact .inl ⟨y, rfl, l, f _ _ _ _ _ A1 m1 (.str l) h1⟩
    | int i =>
      obtain rfl := vInt r1
      exact .inr ⟨i, rfl, h1.1, f _ _ _ _ _ A1 m1 (.str h1.2.1) h1.2.2⟩
    | _ => exact h1.elim) h⟩
/-! xs[::-1] -/
def mRev (t : ME) : ME := fun ρ M Q => t ρ M fun d M1 => match look M1 d with
  | .lst ds => Q (.lst ds.reverse) M1
  | _ => False
theorem RpL.rev {vs : List V} {ds : List Da} (r : RpL K H φ χ vs ds) : RpL K H φ χ vs.reverse ds.reverse := by
  have go : ∀ {vs : List V} {ds : List Da} {ws : List V} {es : List Da}, RpL K H φ χ vs ds → RpL K H φ χ ws es → RpL K H φ χ (vs.reverseAux ws) (ds.reverseAux es) := by
    intro vs
    induction vs with
    | nil => intro ds ws es h q; cases h; exact q
    | cons v vs ih => intro ds ws es h q; cases h with | @cons _ d _ ds' h1 r1 => exact ih (ds := ds') (es := d :: es) (ws := v :: ws) r1 (.cons h1 q)
  exact go r .nil
theorem E_rev (a : SE K te me) : SE K (fun W => tRevL K (te W)) (fun W => mRev (me W)) := ⟨fun r m w f h =>
  a.run r m w (fun v d H1 φ1 M1 A1 m1 r1 h1 => by
    split at h1
    · rename_i ds e
      obtain ⟨b, vs, rfl, hs, rr⟩ := vL m1 r1 e
      exact ⟨b, vs, rfl, hs, fun p hp => (f.adv A1).lst m1 rr.rev hp h1⟩
    · exact h1.elim) h⟩
end
end Z

/-! L12: sorted(texts), sorted(dict), dict(pairs), < of tuples of ints, statements and expressions while a dict is locked -/
namespace Z
open PySem PySem.Spec PyProof.Rows L2 Evl
section
variable {X : Cx}
def rSortD : List V → Hp → VK → Prop := fun xs H Q => ∃ (a : Addr) (kvs : List (Key × V)) (ks : List Str), xs = [.ref a] ∧ Rd H a (.dK kvs) ∧ kvs.map (·.1) = ks.map Sum.inr ∧ ks.length < 64 ∧
    ∀ ys p, ys.Perm ks → sortedS ys = true → H p = none → Q (.ref p) (upd H p (.lst (ys.map V.str)))
def rSortA (K : PySem.W.Frag) : List V → Hp → VK → Prop := fun xs H Q => rSortedS K xs H Q ∨ rSortD xs H Q
theorem call_sortA (hc : X.calm = true) : CallR X (.builtin "sorted") (rSortA X.K) := CallR.or cr_sortedS (call_sortedD hc)
def rDictP (K : PySem.W.Frag) : List V → Hp → VK → Prop := fun xs H Q => ∃ (a : Addr) (ps : List Addr) (kvs : List (Key × V)), xs = [.ref a] ∧ SqL K H a (ps.map V.ref) ∧ Paired (fun p kv => SqT K H p [kV kv.1, kv.2]) ps kvs ∧
    ∀ p, H p = none → Q (.ref p) (upd H p (.dK (mergeK [] kvs)))
theorem call_dictA (hc : X.calm = true) : CallR X (.type "dict") (rDictP X.K) := call_dictP hc
def ltT (ns ms : List Int) : Bool := Ob.lexAt (fun j => decide (ns.getD j 0 = ms.getD j 0)) (fun j => decide (ns.getD j 0 < ms.getD j 0)) (decide (ns.length < ms.length)) 0 (min ns.length ms.length)
def rLtT (K : PySem.W.Frag) : R2 := fun x y H Q => ∃ (a b : Addr) (ns ms : List Int), x = .ref a ∧ y = .ref b ∧ SqT K H a (ns.map V.int) ∧ SqT K H b (ms.map V.int) ∧ Q (.bl (ltT ns ms)) H
theorem op_ltT (hu : X.A.units < cLine) : OpR X (compareOp .Lt) (rLtT X.K) := by
  intro pins s σ H x y v u Q I rx ry h
  obtain ⟨a, b, ns, ms, rfl, rfl, ha, hb, q⟩ := h
  cases rx
  cases ry
  obtain ⟨its, r1, p1, _⟩ := I.tuple ha
  obtain ⟨its2, r2, p2, _⟩ := I.tuple hb
  have i1 : IntsAre its ns := Vals.ints r1
  have i2 : IntsAre its2 ms := Vals.ints r2
  have e1 : its.toArray.size = ns.length := by rw [List.size_toArray]; exact i1.length
  have e2 : its2.toArray.size = ms.length := by rw [List.size_toArray]; exact i2.length
  have at1 : ∀ j (h1 : j < its.toArray.size), ∃ t, its.toArray[j] = .int (ns.getD j 0) t := fun j h1 => PyProof.Rows.IntsAre.int_at i1 _ _ (by simp at h1; simp [h1])
  have at2 : ∀ j (h1 : j < its2.toArray.size), ∃ t, its2.toArray[j] = .int (ms.getD j 0) t := fun j h1 => PyProof.Rows.IntsAre.int_at i2 _ _ (by simp at h1; simp [h1])
  have R := Ob.RcOp.tuples_lt (A := X.A) (s := s) (e := fun j => decide (ns.getD j 0 = ms.getD j 0)) (r := fun j => decide (ns.getD j 0 < ms.getD j 0)) p1 p2 hu (fun j h1 h2 => by
    obtain ⟨t, et⟩ := at1 j h1
    obtain ⟨t', et'⟩ := at2 j h2
    rw [et, et']
    have z : (ns.getD j 0 == ms.getD j 0) = decide (ns.getD j 0 = ms.getD j 0) := by
      by_cases q : ns.getD j 0 = ms.getD j 0
      · rw [decide_eq_true q]; exact beq_iff_eq.mpr q
      · rw [decide_eq_false q]; exact beq_eq_false_iff_ne.mpr q
    rw [← z]
    exact SeqAt.EqAt.int_int _ _ _ _) (fun j h1 h2 _ => by
    obtain ⟨t, et⟩ := at1 j h1
    obtain ⟨t', et'⟩ := at2 j h2
    rw [et, et']
    exact Ob.RcOp.lt_int _ _ _ _)
  rw [e1, e2] at R
  have z : wpAny (model X.prog X.w) X.A (compareOp .Lt (.ref a) (.ref b)) (EP X pins σ Q) X.xe s := R X.prog X.w X.xe (EP X pins σ Q) ⟨.bl _, H, I, rfl, q⟩
  exact z
/-! ### while a dict is locked -/
def lkW (W : WX) (d : Addr) (od : Obj) (u : HO) : WX := fun c x σ' H' => H' d = some (.frz od u) ∧ W c x σ' (upd H' d u)
def lkD (D : Ends) (d : Addr) (od : Obj) (u : HO) : Ends := ⟨fun σ' H' => H' d = some (.frz od u) ∧ D.nx σ' (upd H' d u), fun v H' => H' d = some (.frz od u) ∧ D.rt v (upd H' d u), fun σ' H' => H' d = some (.frz od u) ∧ D.bk σ' (upd H' d u), fun σ' H' => H' d = some (.frz od u) ∧ D.ct σ' (upd H' d u)⟩
def tLockW (t : WX → TS) (W : WX) : TS := fun D σ H => (∃ d u, H d = some u ∧ Mut (some u) ∧ ∀ od, t (lkW W d od u) (lkD D d od u) σ (upd H d (.frz od u))) ∨ t W D σ H
theorem takes_lock {W : WX} {d : Addr} {od : Obj} {u : HO} (tk : L2.Takes X W) (hn : ∀ o' u', X.H_0 d ≠ some (.frz o' u')) : L2.Takes X (lkW W d od u) := fun e s' ⟨a, B, sI, pins, σ, H, cls, dd, eu, I, nb, up, sky, na, os, ag, e1, w⟩ =>
  tk e s' ⟨a, B, sI, pins, σ, _, cls, dd, eu, I.unlock e1 hn, nb, up, sky, by rw [upd_ne (fun q => by rw [q, e1] at na; cases na)]; exact na, os, ag, w⟩
theorem ps_lockW {st : Stmt} {t : WX → TS} {W : WX} (tk : L2.Takes X W) (h : ∀ W2, L2.Takes X W2 → PS X st (t W2)) : PS X st (tLockW t W) := by
  refine ⟨fun pins s σ H D I hw => ?_⟩
  rcases hw with ⟨d, u, hd, mu, hw⟩ | hw
  · obtain ⟨od, I1⟩ := I.lock hd mu
    have hn := I.nofrz hd mu
    refine thn ((h _ (takes_lock tk hn)).run pins s σ _ _ I1 (hw od)) fun f s1 q => ?_
    cases f with
    | next => obtain ⟨σ', H', I2, e, q⟩ := q; exact ⟨σ', _, I2.unlock e hn, q⟩
    | brk => obtain ⟨σ', H', I2, e, q⟩ := q; exact ⟨σ', _, I2.unlock e hn, q⟩
    | cont => obtain ⟨σ', H', I2, e, q⟩ := q; exact ⟨σ', _, I2.unlock e hn, q⟩
    | ret v => obtain ⟨x, σ', H', I2, r, e, q⟩ := q; exact ⟨x, σ', _, I2.unlock e hn, r, q⟩
  · exact (h W tk).run pins s σ H D I hw
theorem takes_no : L2.Takes X (fun _ _ _ _ => False) := fun e s' ⟨a, B, sI, pins, σ, H, cls, dd, eu, I, nb, up, sky, na, os, ag, w⟩ => w.elim
def tLockO (t : TE) : TE := fun σ H Q => tLockE t σ H Q ∨ t σ H Q
theorem pe_lockO {e : Expr} {t : TE} (h : PE X e t) : PE X e (tLockO t) := ⟨fun pins s σ H Q I hw => hw.elim ((pe_lock h).run pins s σ H Q I) (h.run pins s σ H Q I)⟩
/-- a, b = .. of a tuple or a list -/
def gTL (K : PySem.W.Frag) (n : Nat) (t : TGs) : TG := fun v σ H Q => gTup K n t v σ H Q ∨ gLst K n t v σ H Q
theorem pg_tl {es : List Expr} {k : Nat} {t : TGs} {n : Nat} {pos : Pos} (hc : X.calm = true) (h : PGs X es t)
    (hn : (assignEach es X.env).length = n := by rfl) (hst : (assignEach es X.env).findIdx? (·.1) = none := by rfl) : PG X (.Tuple es k pos) (gTL X.K n t) :=
  ⟨fun pins s σ H v u Q I r hw => hw.elim ((pg_tup hc h hn hst).run pins s σ H v u Q I r) ((pg_lst hc h hn hst).run pins s σ H v u Q I r)⟩
end
/-- what a call binds where defaults and keyword-only ones fill up -/
theorem mbindsD {K : PySem.W.Frag} {x qual : Str} {params : Arguments} {body : List Stmt} {scope : Scope} {dvs : List V} {kws : List (Str × V)} {f : Addr} {fd : FuncData} {ps ks : List Str} {n j : Nat} {p : List Nat} {ms : List (Str × V)} (F : FunD K x qual params body scope dvs kws f fd) (hd : dvs ≠ []) (hk : kws ≠ []) (hms : ∀ q ∈ ms, q ∈ kws)
    (h : ∀ (T D : Addr) (doc pm : Value) (an : Option Addr) (cdv ct : Value) (us its mv ws : List Value), us.length = n + 1 → its.length = dvs.length → mv.length = ms.length → ws.length = ks.length →
      ∃ k, bindArgs (PySem.W.fnOf x qual params body scope (.ref T) (.ref D) doc pm an cdv ct) ⟨us, ks.zip ws⟩ = seqItems? (.ref T) >>= k ∧ KwChain D ((ms.map (·.1)).zip mv) (k (some its.toArray)) (ps.zip (perm p (us ++ ws ++ (its.drop j ++ mv))))) :
    ∃ ds, Vals (dvs.drop j ++ ms.map (·.2)) ds ∧ ∀ (s : Shared) (us ws : List Value), K.In s.heap → us.length = n + 1 → ws.length = ks.length → BindsTo s fd ⟨us, ks.zip ws⟩ (ps.zip (perm p (us ++ ws ++ ds))) := by
  obtain ⟨oc, od, dV, kV, doc, pm, an, cdv, ct, osl, rfl, lk, hcd, hD, hK⟩ := F.ex
  rcases hD with ⟨e, _⟩ | ⟨_, T, o, its, m, rfl, lT, oT, rT⟩
  · exact absurd e hd
  · rcases hK with e | ⟨D, rfl, hq⟩
    · exact absurd e hk
    · obtain ⟨mv, hl, rk, hks⟩ := kwd_vals (ms := ms) fun q hm => hq q (hms q hm)
      refine ⟨its.drop j ++ mv, (rT.drop j).append rk, fun s us ws X l1 l2 => ?_⟩
      obtain ⟨k, e1, e2⟩ := h T D doc pm an cdv ct us its mv ws l1 rT.length.symm hl l2
      refine BindsTo.of_looks fun M => ?_
      rw [e1]
      exact looks_items X lT oT (KwChain.looks X hks e2)
end Z

/-! T16: sorted, dict(..), < of tuples, walks over dicts, over data (mkT16.py prints T16.lean from T16.tmpl) -/
namespace Z
open PySem PySem.Spec PyProof.Rows L2 Evl
section
variable {K : PySem.W.Frag} {χ φ : List Addr} {H : Hp} {M : Mem} {v : V} {d : Da}
/-! ### sorted -/
theorem strs_len : ∀ {ns : List Str} {vs : List V}, RpL K H φ χ vs (ns.map Da.str) → ∀ z ∈ ns, z.length ≤ sizeLine
  | [], _, _, z, hz => by cases hz
  | n :: ns, _, .cons h r, z, hz => by
    rcases List.mem_cons.1 hz with rfl | hz
    · exact (vStr h).2
    · exact strs_len r z hz
theorem strs_rp : ∀ {ns : List Str}, (∀ z ∈ ns, z.length ≤ sizeLine) → RpL K H φ χ (ns.map V.str) (ns.map Da.str)
  | [], _ => .nil
  | n :: ns, h => .cons (.str (h n (List.mem_cons_self ..))) (strs_rp fun z hz => h z (List.mem_cons_of_mem _ hz))
def keysS : List (Key × Da) → Option (List Str)
  | [] => some []
  | (.inr z, _) :: r => (keysS r).map (z :: ·)
  | _ => none
theorem keysS_of : ∀ {kvs : List (Key × V)} {kds : List (Key × Da)} {zs : List Str}, RpK K H φ χ kvs kds → keysS kds = some zs → kvs.map (·.1) = zs.map Sum.inr
  | _, _, _, .nil, e => by cases e; rfl
  | _, _, zs, .cons (k := k) (ds := ds) h r, e => by
    cases k with
    | inl i => cases e
    | inr z =>
      have e : (keysS ds).map (z :: ·) = some zs := e
      obtain ⟨ys, e1, rfl⟩ := Option.map_eq_some_iff.1 e
      rw [List.map_cons, List.map_cons, keysS_of r e1]
def nSort : List Da → Mem → TK → Prop := fun ds M Q => match ds with
  | [x] => match look M x with
    | .lst es => match strsD es with
      | some zs => zs.length < 64 ∧ ∀ ys, ys.Perm zs → sortedS ys = true → Q (.lst (ys.map Da.str)) M
      | none => False
    | .dct kds => match keysS kds with
      | some zs => zs.length < 64 ∧ (∀ z ∈ zs, z.length ≤ sizeLine) ∧ ∀ ys, ys.Perm zs → sortedS ys = true → Q (.lst (ys.map Da.str)) M
      | none => False
    | _ => False
  | _ => False
theorem C_sort : SC K (rSortA K) nSort := by
  intro χ H φ M x dx Q Q' m hx f h
  unfold nSort at h
  split at h
  · obtain ⟨v, rfl, h1⟩ := hx.one
    split at h
    · rename_i es e
      split at h
      · rename_i zs e2
        obtain ⟨a, vs, rfl, hs, r⟩ := vL m h1 e
        rw [strsD_of e2] at r
        have hl := strs_len r
        rw [r.strs] at hs
        exact .inl ⟨a, zs, rfl, hs, h.1, fun ys p pm so hp => f.lst m (strs_rp fun z hz => hl z (pm.mem_iff.1 hz)) hp (h.2 ys pm so)⟩
      · exact h.elim
    · rename_i kds e
      split at h
      · rename_i zs e2
        obtain ⟨a, kvs, rfl, hr, r⟩ := vD m h1 e
        exact .inr ⟨a, kvs, zs, rfl, hr, keysS_of r e2, h.1, fun ys p pm so hp => f.lst m (strs_rp fun z hz => h.2.1 z (pm.mem_iff.1 hz)) hp (h.2.2 ys pm so)⟩
      · exact h.elim
    · exact h.elim
  · exact h.elim
/-! ### dict(pairs) -/
def pairsD (M : Mem) : List Da → Option (List (Key × Da))
  | [] => some []
  | d :: r => match look M d with
    | .tup [x, y] => match keyD x, pairsD M r with
      | some k, some ks => some ((k, y) :: ks)
      | _, _ => none
    | _ => none
theorem pairsD_of (m : Mm K H φ χ M) : ∀ {ds : List Da} {ks : List (Key × Da)} {vs : List V}, RpL K H φ χ vs ds → pairsD M ds = some ks → ∃ (ps : List Addr) (kvs : List (Key × V)), vs = ps.map V.ref ∧ Paired (fun p (kv : Key × V) => SqT K H p [kV kv.1, kv.2]) ps kvs ∧ RpK K H φ χ kvs ks
  | [], ks, vs, r, e => by
    cases r
    cases e
    exact ⟨[], [], rfl, .nil, .nil⟩
  | d :: ds, ks, vs, r, e => by
    cases r with
    | cons h r =>
      unfold pairsD at e
      split at e
      · rename_i x y e1
        split at e
        · rename_i k kk e2 e3
          cases e
          obtain ⟨a, us, rfl, hs, ru⟩ := vT m h e1
          obtain ⟨ps, kvs, rfl, pp, rk⟩ := pairsD_of m r e3
          obtain ⟨u, w, rfl, hu, hw⟩ := ru.two
          rw [keyD_of hu e2] at hs
          exact ⟨a :: ps, (k, w) :: kvs, rfl, .cons hs pp, .cons hw rk⟩
        · cases e
      · cases e
def nDictP : List Da → Mem → TK → Prop := fun ds M Q => match ds with
  | [x] => match look M x with
    | .lst es => match pairsD M es with
      | some ks => Q (.dct (mergeD [] ks)) M
      | none => False
    | _ => False
  | _ => False
theorem C_dictP : SC K (rDictP K) nDictP := by
  intro χ H φ M x dx Q Q' m hx f h
  unfold nDictP at h
  split at h
  · obtain ⟨v, rfl, h1⟩ := hx.one
    split at h
    · rename_i es e
      split at h
      · rename_i ks e2
        obtain ⟨a, vs, rfl, hs, r⟩ := vL m h1 e
        obtain ⟨ps, kvs, rfl, pp, rk⟩ := pairsD_of m r e2
        refine ⟨a, ps, kvs, rfl, hs, pp, fun p hp => f _ _ _ _ _ (Adv.new hp) (m.new hp) (.dct upd_same rfl (m.nin hp) (fun c => m.hid p c hp) ((mergeD_run rk .nil).adv (Adv.new hp))) h⟩
      · exact h.elim
    · exact h.elim
  · exact h.elim
/-! ### < of tuples of ints -/
def intsD : List Da → Option (List Int)
  | [] => some []
  | .int i :: r => (intsD r).map (i :: ·)
  | _ => none
theorem intsD_of : ∀ {ds : List Da} {ns : List Int} {vs : List V}, RpL K H φ χ vs ds → intsD ds = some ns → vs = ns.map V.int
  | [], ns, vs, r, e => by cases r; cases e; rfl
  | d :: ds, ns, vs, r, e => by
    cases r with
    | cons h r =>
      cases d with
      | int i =>
        have e : (intsD ds).map (i :: ·) = some ns := e
        obtain ⟨ms, e1, rfl⟩ := Option.map_eq_some_iff.1 e
        rw [vInt h, intsD_of r e1]
        rfl
      | _ => cases e
def nLtT : MO := fun x y M Q => match look M x, look M y with
  | .tup a, .tup b => match intsD a, intsD b with
    | some ns, some ms => Q (.bl (ltT ns ms)) M
    | _, _ => False
  | _, _ => False
theorem O_ltT : SO K (rLtT K) nLtT := by
  intro χ H φ M x y dx dy Q Q' m hx hy f h
  unfold nLtT at h
  split at h
  · rename_i a b e1 e2
    split at h
    · rename_i ns ms e3 e4
      obtain ⟨p, vs, rfl, hs, r⟩ := vT m hx e1
      obtain ⟨q, us, rfl, hu, r2⟩ := vT m hy e2
      rw [intsD_of r e3] at hs
      rw [intsD_of r2 e4] at hu
      exact ⟨p, q, ns, ms, rfl, rfl, hs, hu, f.pure m (.bl _) h⟩
    · exact h.elim
  · exact h.elim
/-! ### a dict's lock is not seen by data -/
structure SameBut (D : Addr) (H1 H2 : Hp) (kvs : List (Key × V)) : Prop where
  ne : ∀ a, a ≠ D → H2 a = H1 a
  o1 : ∃ o, H1 D = some o ∧ coreD o = some kvs
  o2 : ∃ o, H2 D = some o ∧ coreD o = some kvs
section
variable {D : Addr} {H1 H2 : Hp} {kvs : List (Key × V)}
theorem SameBut.other (S : SameBut D H1 H2 kvs) {a : Addr} {o : HO} (h : H1 a = some o) (c : coreD o = none) : H2 a = some o := by
  by_cases e : a = D
  · obtain ⟨o', h1, c1⟩ := S.o1
    rw [← e, h] at h1
    cases h1
    rw [c] at c1
    cases c1
  · rw [S.ne a e]
    exact h
theorem SameBut.dct (S : SameBut D H1 H2 kvs) {a : Addr} {o : HO} {ks : List (Key × V)} (h : H1 a = some o) (c : coreD o = some ks) : ∃ o', H2 a = some o' ∧ coreD o' = some ks := by
  by_cases e : a = D
  · obtain ⟨o', h1, c1⟩ := S.o1
    obtain ⟨o2, h2, c2⟩ := S.o2
    rw [e, h1] at h
    cases h
    rw [c] at c1
    cases c1
    exact ⟨o2, by rw [e]; exact h2, c2⟩
  · exact ⟨o, by rw [S.ne a e]; exact h, c⟩
mutual
theorem Rp.same (S : SameBut D H1 H2 kvs) : ∀ {v : V} {d : Da}, Rp K H1 φ χ v d → Rp K H2 φ χ v d
  | _, _, .non => .non
  | _, _, .bl b => .bl b
  | _, _, .int i => .int i
  | _, _, .str h => .str h
  | _, _, .ty n => .ty n
  | _, _, .gl x => .gl x
  | _, _, .tup h n m r => .tup (S.other h rfl) n m (RpL.same S r)
  | _, _, .lst h n m r => .lst (S.other h rfl) n m (RpL.same S r)
  | _, _, .dct h c n m r => match S.dct h c with
    | ⟨_, h', c'⟩ => .dct h' c' n m (RpK.same S r)
  | _, _, .obj h n m r => .obj (S.other h rfl) n m (RpF.same S r)
  | _, _, .klR h e n m r => .klR (S.other h (by rcases e with rfl | ⟨ob, rfl⟩ <;> rfl)) e n m (RpL.same S r)
  | _, _, .klK h r => .klK h (RpL.same S r)
  | _, _, .ktK h r => .ktK h (RpL.same S r)
  | _, _, .cell h => .cell h
  | _, _, .exv h n m r => .exv (S.other h rfl) n m (RpF.same S r)
theorem RpL.same (S : SameBut D H1 H2 kvs) : ∀ {v : List V} {d : List Da}, RpL K H1 φ χ v d → RpL K H2 φ χ v d
  | _, _, .nil => .nil
  | _, _, .cons h r => .cons (Rp.same S h) (RpL.same S r)
theorem RpK.same (S : SameBut D H1 H2 kvs) : ∀ {v : List (Key × V)} {d : List (Key × Da)}, RpK K H1 φ χ v d → RpK K H2 φ χ v d
  | _, _, .nil => .nil
  | _, _, .cons h r => .cons (Rp.same S h) (RpK.same S r)
theorem RpF.same (S : SameBut D H1 H2 kvs) : ∀ {v : List (Str × V)} {d : List (Str × Da)}, RpF K H1 φ χ v d → RpF K H2 φ χ v d
  | _, _, .nil => .nil
  | _, _, .cons h r => .cons (Rp.same S h) (RpF.same S r)
end
theorem Mm.same (S : SameBut D H1 H2 kvs) (n : D ∉ φ) (m : Mm K H1 φ χ M) : Mm K H2 φ χ M where
  nd := m.nd
  len := m.len
  dis := m.dis
  hid := fun a ha => by
    by_cases e : a = D
    · obtain ⟨o2, h2, _⟩ := S.o2
      rw [e, h2]
      simp
    · rw [S.ne a e]
      exact m.hid a ha
  at_ := fun k a d e1 e2 => by
    have c := m.at_ k a d e1 e2
    have ne : a ≠ D := fun q => n (by rw [← q]; exact List.mem_of_getElem? e1)
    cases d with
    | lst ds => obtain ⟨vs, q, r⟩ := c; exact ⟨vs, by rw [S.ne a ne]; exact q, r.same S⟩
    | dct ds => obtain ⟨vs, q, r⟩ := c; exact ⟨vs, by rw [S.ne a ne]; exact q, r.same S⟩
    | obj c ds => obtain ⟨dx, vs, q, r⟩ := c; exact ⟨dx, vs, by rw [S.ne a ne]; exact q, r.same S⟩
    | gl x => show H2 a ≠ none; rw [S.ne a ne]; exact c
    | _ => exact c.elim
theorem Rs.same {σ : L2.St} {ρ : Sl} (S : SameBut D H1 H2 kvs) (r : Rs K H1 φ χ σ ρ) : Rs K H2 φ χ σ ρ := ⟨r.len, fun i d e => by
  obtain ⟨v, h, q⟩ := r.at_ i d e
  exact ⟨v, h, q.same S⟩⟩
/-- out of the lock -/
structure Out (D : Addr) (kvs : List (Key × V)) (od : Obj) (H : Hp) (φ : List Addr) (H' : Hp) (φ' : List Addr) : Prop where
  adv : Adv H φ (upd H' D (.dK kvs)) φ'
  at_ : H' D = some (.frz od (.dK kvs))
  nin : D ∉ φ'
  same : SameBut D H' (upd H' D (.dK kvs)) kvs
theorem out_of {od : Obj} {H H' : Hp} {φ' : List Addr} (hd : H D = some (.dK kvs)) (n : D ∉ φ) (A : Adv (upd H D (.frz od (.dK kvs))) φ H' φ') : Out D kvs od H φ H' φ' := by
  have at_ : H' D = some (.frz od (.dK kvs)) := A.keep D _ upd_same n
  refine ⟨⟨fun a o e na => ?_, ?_, fun a e => ?_⟩, at_, A.nin upd_same n, ⟨fun a e => upd_ne e, ⟨_, at_, rfl⟩, ⟨_, upd_same, rfl⟩⟩⟩
  · by_cases q : a = D
    · subst q
      rw [hd] at e
      cases e
      exact upd_same
    · rw [upd_ne q]
      exact A.keep a o (by rw [upd_ne q]; exact e) na
  · obtain ⟨ψ, e, q⟩ := A.pre
    refine ⟨ψ, e, fun a ha => ?_⟩
    have z := q a ha
    by_cases ea : a = D
    · rw [ea, upd_same] at z; cases z
    · rw [upd_ne ea] at z; exact z
  · by_cases q : a = D
    · rw [q, upd_same]; simp
    · rw [upd_ne q]
      exact A.dom a (by rw [upd_ne q]; exact e)
theorem into {od : Obj} {H : Hp} (hd : H D = some (.dK kvs)) : SameBut D H (upd H D (.frz od (.dK kvs))) kvs := ⟨fun a e => upd_ne e, ⟨_, hd, rfl⟩, ⟨_, upd_same, rfl⟩⟩
end
/-! ### what a walk over a dict tells -/
def keyV : Key → Da
  | .inl i => .int i
  | .inr z => .str z
def keyOk : Key → Prop
  | .inl _ => True
  | .inr z => z.length ≤ sizeLine
theorem keyV_rp {k : Key} (h : keyOk k) : Rp K H φ χ (kV k) (keyV k) := by
  cases k with
  | inl i => exact .int i
  | inr z => exact .str h
theorem RpK.get {i : Nat} : ∀ {kvs : List (Key × V)} {kds : List (Key × Da)}, RpK K H φ χ kvs kds → ∀ {k : Key} {v : V}, kvs[i]? = some (k, v) → ∃ d, kds[i]? = some (k, d) ∧ Rp K H φ χ v d := by
  induction i with
  | zero =>
    intro kvs kds r k v e
    cases r with
    | nil => cases e
    | cons h r => cases e; exact ⟨_, rfl, h⟩
  | succ i ih =>
    intro kvs kds r k v e
    cases r with
    | nil => cases e
    | cons h r => exact ih r (by simpa using e)
def keysD (kds : List (Key × Da)) : List Da := kds.map fun p => keyV p.1
def itemsD (kds : List (Key × Da)) : List Da := kds.map fun p => .tup [keyV p.1, p.2]
theorem turns_keys {D : Addr} {o : Obj} {kvs : List (Key × V)} {kds : List (Key × Da)} (hd : H D = some (.frz o (.dK kvs))) (n : D ∉ φ) (nχ : D ∉ χ) (r : RpK K H φ χ kvs kds) (ok : ∀ p ∈ kds, keyOk p.1) : Turns K χ (Itk D o kvs) ⟨keysD kds, fun _ => True⟩ H φ := fun H1 φ1 M1 χ1 hχ A m _ => by
  have hl := r.len
  have hk : (keysD kds).length = kds.length := List.length_map ..
  refine ⟨fun i hi => ⟨⟨A.keep D _ hd n nχ, by rw [hl, ← hk]; exact hi⟩, ?_⟩, ⟨A.keep D _ hd n nχ, by rw [hl, ← hk]; exact Nat.le_refl _⟩⟩
  rintro x H' ⟨rfl, k, v, e, rfl⟩
  obtain ⟨d, e1, _⟩ := r.get e
  refine ⟨keyV k, ?_, Adv.refl, m, keyV_rp (ok _ (List.mem_of_getElem? e1))⟩
  show (List.map _ kds)[i]? = _
  rw [List.getElem?_map, e1]
  rfl
theorem turns_items {D : Addr} {o : Obj} {kvs : List (Key × V)} {kds : List (Key × Da)} (hd : H D = some (.frz o (.dK kvs))) (n : D ∉ φ) (nχ : D ∉ χ) (r : RpK K H φ χ kvs kds) (ok : ∀ p ∈ kds, keyOk p.1) : Turns K χ (Iti D o kvs) ⟨itemsD kds, fun _ => True⟩ H φ := fun H1 φ1 M1 χ1 hχ A m _ => by
  have hl := r.len
  have hk : (itemsD kds).length = kds.length := List.length_map ..
  refine ⟨fun i hi => ⟨⟨A.keep D _ hd n nχ, by rw [hl, ← hk]; exact hi⟩, ?_⟩, ⟨A.keep D _ hd n nχ, by rw [hl, ← hk]; exact Nat.le_refl _⟩⟩
  rintro x H' ⟨T, k, v, e, rfl, hT, rfl⟩
  obtain ⟨d, e1, rd⟩ := r.get e
  refine ⟨.tup [keyV k, d], ?_, Adv.new hT, m.new hT, .tup upd_same (m.nin hT) (fun c => m.hid T c hT) (.cons (keyV_rp (ok _ (List.mem_of_getElem? e1))) (.cons ((rd.at1 hχ A).adv (Adv.new hT)) .nil))⟩
  show (List.map _ kds)[i]? = _
  rw [List.getElem?_map, e1]
  rfl
/-! ### what is walked: a name or a field of one -/
structure Pt (K : PySem.W.Frag) (te : TE) (pth : Sl → Mem → Option Da) : Prop where
  run : ∀ {χ σ H φ ρ M d}, Rs K H φ χ σ ρ → Mm K H φ χ M → pth ρ M = some d → ∃ v, Rp K H φ χ v d ∧ (∀ Q : VK, Q v H → te σ H Q) ∧ ∀ D ks o, H D = some (.dK ks) → ∀ Q : VK, Q v (upd H D o) → te σ (upd H D o) Q
def pVar (i : Nat) : Sl → Mem → Option Da := fun ρ _ => match ρ[i]? with
  | some (some d) => some d
  | _ => none
theorem P_var (i : Nat) : Pt K (tVar i) (pVar i) := ⟨fun {χ σ H φ ρ M d} r m e => by
  unfold pVar at e
  split at e
  · rename_i d' e1
    cases e
    obtain ⟨v, h1, h2⟩ := r.at_ _ _ e1
    exact ⟨v, h2, fun Q q => ⟨v, h1, q⟩, fun D ks o _ Q q => ⟨v, h1, q⟩⟩
  · cases e⟩
def pFld (c f : Str) (i : Nat) : Sl → Mem → Option Da := fun ρ M => match ρ[i]? with
  | some (some x) => match look M x with
    | .obj c' fds => if c' = c then fds.lookup f else none
    | _ => none
  | _ => none
theorem P_fld {c f : Str} (cl : Cls K (He.ga K c)) (na : NoAttr K (He.ga K c) f) (i : Nat) : Pt K (tFld K (tVar i) f) (pFld c f i) := ⟨fun {χ σ H φ ρ M d} r m e => by
  unfold pFld at e
  split at e
  · rename_i x e1
    split at e
    · rename_i c' fds e2
      split at e
      · rename_i hc
        subst hc
        obtain ⟨v, h1, h2⟩ := r.at_ _ _ e1
        obtain ⟨a, dx, fs, rfl, ha, rf⟩ := vO m h2 e2
        obtain ⟨u, hu, ru⟩ := rf.look e
        refine ⟨u, ru, fun Q q => ⟨_, h1, a, _, dx, fs, u, rfl, ha, cl, na, hu, q⟩, fun D ks o hD Q q => ⟨_, h1, a, _, dx, fs, u, rfl, ?_, cl, na, hu, q⟩⟩
        rw [upd_ne (fun z => by rw [z, hD] at ha; cases ha)]
        exact ha
      · cases e
    · cases e
  · cases e⟩
theorem Rp.dctOf (h : Rp K H φ χ v (.dct kds)) : ∃ a o kvs, v = .ref a ∧ H a = some o ∧ coreD o = some kvs ∧ a ∉ φ ∧ a ∉ χ ∧ RpK K H φ χ kvs kds := by
  cases h with
  | dct h c n m r => exact ⟨_, _, _, rfl, h, c, n, m, r⟩
/-! ### for -/
variable {tg : WX → TG} {mg : WD → MG} {ts : WX → TS} {mt : WD → MS}
def ForT (J : It) (g : TG) (tb : TS) (D : Ends) (σ : L2.St) (H1 : Hp) : Prop := ∃ W : Nat → Nat → L2.St → Hp → Prop, (∃ m, W 0 m σ H1) ∧ ∀ i m σ H, W i m σ H →
  (J.stop i H ∧ D.nx σ H) ∨ (J.go i H ∧ ∃ N : L2.St → Hp → Prop, (∀ σ' H', N σ' H' → ∃ m', m' < m ∧ W (i + 1) m' σ' H') ∧ ∀ x H', J.yld i H x H' → g x σ H' fun σ2 H2 => tb { D with nx := N, ct := N, bk := D.nx } σ2 H2)
theorem for_run {W : WX} {W' : WD} {σ : L2.St} {H0 : Hp} {φ0 : List Addr} {ρ : Sl} {M0 : Mem} {D : Ends} {D' : En} {J : It} {I : ItD} (g : SG K tg mg) (s : SS K ts mt) (r : Rs K H0 φ0 χ σ ρ) (m0 : Mm K H0 φ0 χ M0) (w : FW K χ H0 φ0 W' W)
    (n : FN K χ H0 φ0 D'.nx D.nx) (t : FE K χ H0 φ0 D'.rt D.rt) (T : Turns K χ J I H0 φ0) (st : I.still M0) (h1 : forL I.still (mg W') (mt W') D' M0.length I.items ρ M0) : ForT J (tg W) (ts W) D σ H0 := by
  have A0 : Adv H0 φ0 H0 φ0 := Adv.refl
  let Inv : Nat → Nat → L2.St → Hp → Prop := fun k j σ1 H1 => ∃ φ1 ρ1 M1, k + j = I.items.length ∧ Adv H0 φ0 H1 φ1 ∧ Rs K H1 φ1 χ σ1 ρ1 ∧ Mm K H1 φ1 χ M1 ∧ I.still M1 ∧ forL I.still (mg W') (mt W') D' M0.length (I.items.drop k) ρ1 M1
  refine ⟨Inv, ⟨I.items.length, φ0, ρ, M0, by omega, Adv.refl, r.adv A0, m0, st, by rw [List.drop_zero]; exact h1⟩, ?_⟩
  rintro k j σ1 H1 ⟨φ1, ρ1, M1, hk, A1, r1, m1, st1, q⟩
  obtain ⟨go, stop⟩ := T H1 φ1 M1 χ (fun a h => .inl h) A1.toX m1 st1
  cases e : I.items.drop k with
  | nil =>
    have hl : I.items.length ≤ k := by
      have := congrArg List.length e
      rw [List.length_drop] at this
      simp at this
      omega
    have : k = I.items.length := by omega
    subst this
    rw [e] at q
    exact .inl ⟨stop, n _ _ _ _ _ (A0.trans A1) r1 m1 q⟩
  | cons d ds =>
    have hl : k < I.items.length := by
      have := congrArg List.length e
      rw [List.length_drop] at this
      simp at this
      omega
    have ed : I.items[k]? = some d := by
      have := congrArg (fun l => l[0]?) e
      simpa using this
    have eds : I.items.drop (k + 1) = ds := by
      have := congrArg List.tail e
      simpa using this
    rw [e] at q
    obtain ⟨g1, y1⟩ := go k hl
    refine .inr ⟨g1, fun σ' H' => ∃ φ' ρ' M', Adv H0 φ0 H' φ' ∧ Rs K H' φ' χ σ' ρ' ∧ Mm K H' φ' χ M' ∧ I.still M' ∧ forL I.still (mg W') (mt W') D' M0.length ds ρ' M', ?_, ?_⟩
    · rintro σ' H' ⟨φ', ρ', M', a1, a2, a3, a4, a5⟩
      exact ⟨j - 1, by omega, φ', ρ', M', by omega, a1, a2, a3, a4, by rw [eds]; exact a5⟩
    · intro x H2 y
      obtain ⟨d', hd', A2, m2, rx⟩ := y1 x H2 y
      rw [ed] at hd'
      cases hd'
      have A02 := A1.trans A2
      have wk : ∀ {σ' H' φ' ρ' M'}, Adv H0 φ0 H' φ' → Rs K H' φ' χ σ' ρ' → Mm K H' φ' χ M' → (∃ ρ3 M3, Wk M0.length ρ' M' ρ3 M3 ∧ I.still M3 ∧ forL I.still (mg W') (mt W') D' M0.length ds ρ3 M3) →
          ∃ φ' ρ' M', Adv H0 φ0 H' φ' ∧ Rs K H' φ' χ σ' ρ' ∧ Mm K H' φ' χ M' ∧ I.still M' ∧ forL I.still (mg W') (mt W') D' M0.length ds ρ' M' := by
        rintro σ' H' φ' ρ' M' A r m ⟨ρ3, M3, k, s3, q3⟩
        obtain ⟨φ3, A3, r3, m3⟩ := k.run (Nat.le_of_eq m0.len) A r m
        exact ⟨φ3, ρ3, M3, A3, r3, m3, s3, q3⟩
      refine g.run (r1.adv A2) m2 (w.adv (A0.trans A02)) rx (fun σ3 H3 φ3 ρ3 M3 A3 r3 m3 h3 => ?_) q
      let N' : Sl → Mem → Prop := fun ρ2 M2 => ∃ ρ3 M3, Wk M0.length ρ2 M2 ρ3 M3 ∧ I.still M3 ∧ forL I.still (mg W') (mt W') D' M0.length ds ρ3 M3
      refine s.run (D' := { nx := N', rt := D'.rt, bk := D'.nx, ct := N' }) r3 m3 (w.adv (A0.trans (A02.trans A3))) ?_ (t.adv (A0.trans (A02.trans A3))) ?_ ?_ h3
      · exact fun σ4 H4 φ4 ρ4 M4 A4 r4 m4 h4 => wk ((A02.trans A3).trans A4) r4 m4 h4
      · exact fun σ4 H4 φ4 ρ4 M4 A4 r4 m4 h4 => n _ _ _ _ _ (A0.trans ((A02.trans A3).trans A4)) r4 m4 h4
      · exact fun σ4 H4 φ4 ρ4 M4 A4 r4 m4 h4 => wk ((A02.trans A3).trans A4) r4 m4 h4
theorem FW.lock {W : WX} {W' : WD} {D : Addr} {kvs : List (Key × V)} {od : Obj} (hd : H D = some (.dK kvs)) (nd : D ∉ φ) (w : FW K χ H φ W' W) : FW K χ (upd H D (.frz od (.dK kvs))) φ W' (lkW W D od (.dK kvs)) := fun c fs vfs dd σ' H' φ' ρ' M' A r m h n1 n2 q hW => by
  have O := out_of hd nd A
  have ne : dd ≠ D := fun z => by rw [z, O.at_] at h; cases h
  exact ⟨O.at_, w c fs vfs dd σ' _ φ' ρ' M' O.adv (r.same O.same) (m.same O.same O.nin) (by rw [upd_ne ne]; exact h) n1 n2 (q.same O.same) hW⟩
theorem FN.lock {Q' : Sl → Mem → Prop} {Q : L2.St → Hp → Prop} {D : Addr} {kvs : List (Key × V)} {od : Obj} (hd : H D = some (.dK kvs)) (nd : D ∉ φ) (f : FN K χ H φ Q' Q) : FN K χ (upd H D (.frz od (.dK kvs))) φ Q' (fun σ' H' => H' D = some (.frz od (.dK kvs)) ∧ Q σ' (upd H' D (.dK kvs))) := fun σ' H' φ' ρ' M' A r m q => by
  have O := out_of hd nd A
  exact ⟨O.at_, f σ' _ φ' ρ' M' O.adv (r.same O.same) (m.same O.same O.nin) q⟩
theorem FE.lock {Q' : TK} {Q : VK} {D : Addr} {kvs : List (Key × V)} {od : Obj} (hd : H D = some (.dK kvs)) (nd : D ∉ φ) (f : FE K χ H φ Q' Q) : FE K χ (upd H D (.frz od (.dK kvs))) φ Q' (fun v H' => H' D = some (.frz od (.dK kvs)) ∧ Q v (upd H' D (.dK kvs))) := fun v d H' φ' M' A m r q => by
  have O := out_of hd nd A
  exact ⟨O.at_, f v d _ φ' M' O.adv (m.same O.same O.nin) (r.same O.same) q⟩
def mForK (pth : Sl → Mem → Option Da) (it : List (Key × Da) → List Da) (g : MG) (tb : MS) : MS := fun D ρ M => match pth ρ M with
  | some (.dct kds) => (∀ p ∈ kds, keyOk p.1) ∧ forL (fun _ => True) g tb D M.length (it kds) ρ M
  | _ => False
theorem forD {iter : TE → TI} {Jt : Addr → Obj → List (Key × V) → It} {it : List (Key × Da) → List Da}
    (hi : ∀ {te : TE} {σ : L2.St} {H : Hp} {D : Addr} {o : Obj} {kvs : List (Key × V)} {R : It → Hp → Prop}, H D = some (.frz o (.dK kvs)) → (∀ Q : VK, Q (.ref D) H → te σ H Q) → R (Jt D o kvs) H → iter te σ H R)
    (hT : ∀ {χ φ : List Addr} {H : Hp} {D : Addr} {o : Obj} {kvs : List (Key × V)} {kds : List (Key × Da)}, H D = some (.frz o (.dK kvs)) → D ∉ φ → D ∉ χ → RpK K H φ χ kvs kds → (∀ p ∈ kds, keyOk p.1) → Turns K χ (Jt D o kvs) ⟨it kds, fun _ => True⟩ H φ)
    {te : TE} {pth : Sl → Mem → Option Da} (p : Pt K te pth) (g : SG K tg mg) (s : SS K ts mt) : SS K (fun W => tLockW (fun W2 => tFor (iter te) (tg W2) (ts W2)) W) (fun W => mForK pth it (mg W) (mt W)) := ⟨fun {χ W W' σ H φ ρ M D D'} r m w n t b c h => by
  unfold mForK at h
  split at h
  · rename_i kds e
    obtain ⟨v, rv, e1, e2⟩ := p.run r m e
    obtain ⟨a, o, kvs, rfl, ha, hc, na, nx, rk⟩ := rv.dctOf
    obtain ⟨ok, h⟩ := h
    cases o with
    | dK ks =>
      cases hc
      refine .inl ⟨a, .dK kvs, ha, by trivial, fun od => ?_⟩
      have S := into (od := od) ha
      refine hi (D := a) (o := od) (kvs := kvs) upd_same (fun Q q => e2 a kvs _ ha Q q) ?_
      exact for_run (D' := D') (D := lkD D a od (.dK kvs)) g s (r.same S) (m.same S na) (w.lock ha na) (n.lock ha na) (t.lock ha na) (hT upd_same na nx (rk.same S) ok) trivial h
    | frz ob u =>
      cases u with
      | dK ks =>
        cases hc
        refine .inr (hi ha e1 ?_)
        exact for_run (D' := D') (D := D) g s r m w n t (hT ha na nx rk ok) trivial h
      | _ => cases hc
    | _ => cases hc
  · exact h.elim⟩
theorem S_forK {te : TE} {pth : Sl → Mem → Option Da} (p : Pt K te pth) (g : SG K tg mg) (s : SS K ts mt) : SS K (fun W => tLockW (fun W2 => tFor (iKeys te) (tg W2) (ts W2)) W) (fun W => mForK pth keysD (mg W) (mt W)) :=
  forD (iter := iKeys) (Jt := Itk) (fun hd he hR => he _ ⟨_, _, rfl, .inl ⟨_, hd, hR⟩⟩) turns_keys p g s
theorem S_forI {te : TE} {pth : Sl → Mem → Option Da} (p : Pt K te pth) (g : SG K tg mg) (s : SS K ts mt) : SS K (fun W => tLockW (fun W2 => tFor (iItems te) (tg W2) (ts W2)) W) (fun W => mForK pth itemsD (mg W) (mt W)) :=
  forD (iter := iItems) (Jt := Iti) (fun hd he hR => he _ ⟨_, _, _, rfl, hd, hR⟩) turns_items p g s
/-! ### comprehensions -/
def LcT (J : It) (g : TG) (tt : TT) (te : TE) (vs : List Nat) (σ : L2.St) (H1 : Hp) (Q : VK) : Prop := ∀ D, H1 D = none → ∃ W : Nat → Nat → Hp → Prop, (∃ m, W 0 m (upd H1 D (.lst []))) ∧ ∀ i m H, W i m H →
  (J.stop i H ∧ Q (.ref D) H) ∨ (J.go i H ∧ ∃ Nx : Hp → Prop, (∀ H', Nx H' → ∃ m', m' < m ∧ W (i + 1) m' H') ∧ ∀ x H', J.yld i H x H' → g x (wipe σ vs) H' fun σ2 H2 => wipe σ2 vs = wipe σ vs ∧ tt σ2 H2 fun b H3 =>
    if b = true then te σ2 H3 fun y H4 => ∃ acc, H4 D = some (.lst acc) ∧ acc.length < sizeLine ∧ Nx (upd H4 D (.lst (acc ++ [y]))) else Nx H3)
theorem lc_run {W : WX} {W' : WD} {σ : L2.St} {H0 : Hp} {φ0 : List Addr} {ρ : Sl} {M0 : Mem} {Q : VK} {Q' : TK} {J : It} {I : ItD} {g : TG} {mg : MG} {tt : TT} {mt : MT} {te : TE} {me : ME} {vs : List Nat} (v : SV K vs g mg) (t : ST K (fun _ => tt) (fun _ => mt)) (e : SE K (fun _ => te) (fun _ => me))
    (r : Rs K H0 φ0 χ σ ρ) (m0 : Mm K H0 φ0 χ M0) (f : FE K χ H0 φ0 Q' Q) (T : Turns K χ J I H0 φ0) (st : I.still M0) (hlen : I.items.length ≤ 1000000) (h1 : lcL I.still mg mt me vs ρ I.items [] M0 Q') : LcT J g tt te vs σ H0 Q := by
  have A0 : Adv H0 φ0 H0 φ0 := Adv.refl
  intro D hD
  have nD : D ∉ φ0 := m0.nin hD
  have hχ : ∀ a ∈ D :: χ, a ∈ χ ∨ H0 a = none := hidden hD
  have AD : Adv H0 φ0 (upd H0 D (.lst [])) φ0 := Adv.new hD
  have inD : D ∈ D :: χ := List.mem_cons_self ..
  let Inv : Nat → Nat → Hp → Prop := fun k j H1 => ∃ φ1 M1 vs1 acc, k + j = I.items.length ∧ Adv (upd H0 D (.lst [])) φ0 (upd H1 D (.lst [])) φ1 ∧ D ∉ φ1 ∧ Mm K H1 φ1 (D :: χ) M1 ∧ Rs K H1 φ1 (D :: χ) σ ρ ∧ I.still M1 ∧ H1 D = some (.lst vs1) ∧ RpL K H1 φ1 (D :: χ) vs1 acc ∧ acc.length ≤ k ∧
    lcL I.still mg mt me vs ρ (I.items.drop k) acc M1 Q'
  -- what stays true of the rest of the heap while the new list grows
  have shift : ∀ {H1 H2 : Hp} {φ1 φ2 : List Addr} {vs1 vs2 : List V}, H1 D = some (.lst vs1) → D ∉ φ1 → Adv (upd H0 D (.lst [])) φ0 (upd H1 D (.lst [])) φ1 → Adv H1 φ1 H2 φ2 → Adv (upd H0 D (.lst [])) φ0 (upd (upd H2 D (.lst vs2)) D (.lst [])) φ2 := by
    intro H1 H2 φ1 φ2 vs1 vs2 hd n1 A B
    rw [upd_upd]
    have n2 : D ∉ φ2 := B.nin hd n1
    refine A.trans ⟨fun a o e n => ?_, ?_, fun a e => ?_⟩
    · by_cases q : a = D
      · subst q
        rw [upd_same] at e ⊢
        exact e
      · rw [upd_ne q] at e ⊢
        exact B.keep a o e n
    · obtain ⟨ψ, e, q⟩ := B.pre
      refine ⟨ψ, e, fun a ha => ?_⟩
      have na : a ≠ D := fun z => n2 (by rw [e, ← z]; exact List.mem_append_right _ ha)
      rw [upd_ne na]
      exact q a ha
    · by_cases q : a = D
      · subst q
        rw [upd_same]
        simp
      · rw [upd_ne q] at e ⊢
        exact B.dom a e
  have full : ∀ {H1 : Hp} {φ1 : List Addr}, Adv (upd H0 D (.lst [])) φ0 (upd H1 D (.lst [])) φ1 → H1 D ≠ none → Adv H0 φ0 H1 φ1 := by
    intro H1 φ1 A hd
    refine ⟨fun a o e n => ?_, ?_, fun a e => ?_⟩
    · have na : a ≠ D := ne_of_none e hD
      have := A.keep a o (by rw [upd_ne na]; exact e) n
      rw [upd_ne na] at this
      exact this
    · obtain ⟨ψ, e, q⟩ := A.pre
      refine ⟨ψ, e, fun a ha => ?_⟩
      have z := q a ha
      by_cases na : a = D
      · rw [na]; exact hD
      · rw [upd_ne na] at z; exact z
    · by_cases na : a = D
      · rw [na]; exact hd
      · have := A.dom a (by rw [upd_ne na]; exact e)
        rw [upd_ne na] at this
        exact this
  refine ⟨Inv, ⟨I.items.length, φ0, M0, [], [], by omega, by rw [upd_upd]; exact Adv.refl, nD, m0.hideN hD, (r.adv A0).hideN hD, st, upd_same, .nil, Nat.le_refl _, by rw [List.drop_zero]; exact h1⟩, ?_⟩
  rintro k j H1 ⟨φ1, M1, vs1, acc, hk, A1, n1, m1, r1, st1, hd1, ra, la, q⟩
  have A01 : Adv H0 φ0 H1 φ1 := full A1 (by rw [hd1]; simp)
  obtain ⟨go, stop⟩ := T H1 φ1 M1 (D :: χ) hχ A01.toX m1 st1
  cases e2 : I.items.drop k with
  | nil =>
    have hl : I.items.length ≤ k := by
      have := congrArg List.length e2
      rw [List.length_drop] at this
      simp at this
      omega
    have : k = I.items.length := by omega
    subst this
    rw [e2] at q
    refine .inl ⟨stop, f _ _ _ φ1 _ (A0.trans A01) m1.bare (.lst hd1 n1 (fun c => m0.hid D c hD) ra.bare) q⟩
  | cons d ds =>
    have hl : k < I.items.length := by
      have := congrArg List.length e2
      rw [List.length_drop] at this
      simp at this
      omega
    have ed : I.items[k]? = some d := by
      have := congrArg (fun l => l[0]?) e2
      simpa using this
    have eds : I.items.drop (k + 1) = ds := by
      have := congrArg List.tail e2
      simpa using this
    rw [e2] at q
    obtain ⟨g1, y1⟩ := go k hl
    refine .inr ⟨g1, fun H' => ∃ φ' M' vs' acc', Adv (upd H0 D (.lst [])) φ0 (upd H' D (.lst [])) φ' ∧ D ∉ φ' ∧ Mm K H' φ' (D :: χ) M' ∧ Rs K H' φ' (D :: χ) σ ρ ∧ I.still M' ∧ H' D = some (.lst vs') ∧ RpL K H' φ' (D :: χ) vs' acc' ∧ acc'.length ≤ k + 1 ∧
      lcL I.still mg mt me vs ρ ds acc' M' Q', ?_, ?_⟩
    · rintro H' ⟨φ', M', vs', acc', a1, a2, a3, a4, a5, a6, a7, a8, a9⟩
      exact ⟨j - 1, by omega, φ', M', vs', acc', by omega, a1, a2, a3, a4, a5, a6, a7, a8, by rw [eds]; exact a9⟩
    · intro x H2 y
      obtain ⟨d', hd', A2, m2, rx⟩ := y1 x H2 y
      rw [ed] at hd'
      cases hd'
      refine v.run ((r1.adv A2).wipe vs) m2 rx (fun σ3 H3 φ3 ρ3 M3 A3 r3 m3 e3 h3 => ⟨e3.trans (wipe_wipe vs), ?_⟩) q
      refine t.run (W := W0) r3 m3 FW0 (fun b H4 φ4 M4 A4 m4 h4 => ?_) h3
      have A14 := (A2.trans A3).trans A4
      have hd4 : H4 D = some (.lst vs1) := A14.keep D _ hd1 n1
      have n4 : D ∉ φ4 := A14.nin hd1 n1
      cases b with
      | false =>
        refine iteF ?_
        obtain ⟨s4, q4⟩ := h4
        have sh := shift (vs2 := vs1) hd1 n1 A1 A14
        rw [show upd (upd H4 D (.lst vs1)) D (.lst []) = upd H4 D (.lst []) from upd_upd] at sh
        exact ⟨φ4, M4, vs1, acc, sh, n4, m4, r1.adv A14, s4, hd4, ra.adv A14, by omega, q4⟩
      | true =>
        refine iteT ?_
        refine e.run (W := W0) (r3.adv A4) m4 FW0 (fun u z H5 φ5 M5 A5 m5 r5 h5 => ?_) h4
        obtain ⟨s5, q5⟩ := h5
        have A15 := A14.trans A5
        have hd5 : H5 D = some (.lst vs1) := A15.keep D _ hd1 n1
        have n5 : D ∉ φ5 := A15.nin hd1 n1
        refine ⟨vs1, hd5, ?_, φ5, M5, vs1 ++ [u], acc ++ [z], shift hd1 n1 A1 A15, n5, m5.updH inD, (r1.adv A15).updH inD, s5, upd_same, ((ra.adv A15).app (.cons r5 .nil)).at_ inD, ?_, q5⟩
        · rw [ra.len, sizeLine_eq]
          omega
        · rw [List.length_append]
          simp
          omega
def mLcK (pth : Sl → Mem → Option Da) (it : List (Key × Da) → List Da) (g : MG) (tt : MT) (te : ME) (vs : List Nat) : ME := fun ρ M Q => match pth ρ M with
  | some (.dct kds) => (∀ p ∈ kds, keyOk p.1) ∧ (it kds).length ≤ 1000000 ∧ lcL (fun _ => True) g tt te vs ρ (it kds) [] M Q
  | _ => False
theorem lcD {iter : TE → TI} {Jt : Addr → Obj → List (Key × V) → It} {it : List (Key × Da) → List Da}
    (hi : ∀ {te : TE} {σ : L2.St} {H : Hp} {D : Addr} {o : Obj} {kvs : List (Key × V)} {R : It → Hp → Prop}, H D = some (.frz o (.dK kvs)) → (∀ Q : VK, Q (.ref D) H → te σ H Q) → R (Jt D o kvs) H → iter te σ H R)
    (hT : ∀ {χ φ : List Addr} {H : Hp} {D : Addr} {o : Obj} {kvs : List (Key × V)} {kds : List (Key × Da)}, H D = some (.frz o (.dK kvs)) → D ∉ φ → D ∉ χ → RpK K H φ χ kvs kds → (∀ p ∈ kds, keyOk p.1) → Turns K χ (Jt D o kvs) ⟨it kds, fun _ => True⟩ H φ)
    {tp : TE} {pth : Sl → Mem → Option Da} (p : Pt K tp pth) {g : TG} {mg : MG} {tt : TT} {mt : MT} {te : TE} {me : ME} {vs : List Nat} (v : SV K vs g mg) (t : ST K (fun _ => tt) (fun _ => mt)) (e : SE K (fun _ => te) (fun _ => me)) :
    SE K (fun _ => tLockO (tLc (iter tp) g tt te vs)) (fun _ => mLcK pth it mg mt me vs) := ⟨fun {χ W W' σ H φ ρ M Q Q'} r m w f h => by
  unfold mLcK at h
  split at h
  · rename_i kds e0
    obtain ⟨u, rv, e1, e2⟩ := p.run r m e0
    obtain ⟨a, o, kvs, rfl, ha, hc, na, nx, rk⟩ := rv.dctOf
    obtain ⟨ok, hl, h⟩ := h
    cases o with
    | dK ks =>
      cases hc
      refine .inl ⟨a, .dK kvs, ha, by trivial, fun od => ?_⟩
      have S := into (od := od) ha
      refine hi (D := a) (o := od) (kvs := kvs) upd_same (fun Q q => e2 a kvs _ ha Q q) ?_
      exact lc_run (W := W) (W' := W') v t e (r.same S) (m.same S na) (f.lock ha na) (hT upd_same na nx (rk.same S) ok) trivial hl h
    | frz ob u =>
      cases u with
      | dK ks =>
        cases hc
        refine .inr (hi ha e1 ?_)
        exact lc_run (W := W) (W' := W') v t e r m f (hT ha na nx rk ok) trivial hl h
      | _ => cases hc
    | _ => cases hc
  · exact h.elim⟩
theorem E_lcK {tp : TE} {pth : Sl → Mem → Option Da} (p : Pt K tp pth) {g : TG} {mg : MG} {tt : TT} {mt : MT} {te : TE} {me : ME} {vs : List Nat} (v : SV K vs g mg) (t : ST K (fun _ => tt) (fun _ => mt)) (e : SE K (fun _ => te) (fun _ => me)) :
    SE K (fun _ => tLockO (tLc (iKeys tp) g tt te vs)) (fun _ => mLcK pth keysD mg mt me vs) := lcD (iter := iKeys) (Jt := Itk) (fun hd he hR => he _ ⟨_, _, rfl, .inl ⟨_, hd, hR⟩⟩) turns_keys p v t e
theorem E_lcI {tp : TE} {pth : Sl → Mem → Option Da} (p : Pt K tp pth) {g : TG} {mg : MG} {tt : TT} {mt : MT} {te : TE} {me : ME} {vs : List Nat} (v : SV K vs g mg) (t : ST K (fun _ => tt) (fun _ => mt)) (e : SE K (fun _ => te) (fun _ => me)) :
    SE K (fun _ => tLockO (tLc (iItems tp) g tt te vs)) (fun _ => mLcK pth itemsD mg mt me vs) := lcD (iter := iItems) (Jt := Iti) (fun hd he hR => he _ ⟨_, _, _, rfl, hd, hR⟩) turns_items p v t e
theorem S_forK0 {te : TE} {pth : Sl → Mem → Option Da} {g : TG} {mg : MG} {ts : TS} {mt : MS} (p : Pt K te pth) (g' : SG K (fun _ => g) (fun _ => mg)) (s : SS K (fun _ => ts) (fun _ => mt)) : SS K (fun _ => tLockW (fun _ => tFor (iKeys te) g ts) (fun _ _ _ _ => False)) (fun _ => mForK pth keysD mg mt) :=
  ⟨fun r m w n t b c h => (S_forK p g' s).run (W := fun _ _ _ _ => False) (W' := WD0) r m FW0 n t b c h⟩
theorem S_forI0 {te : TE} {pth : Sl → Mem → Option Da} {g : TG} {mg : MG} {ts : TS} {mt : MS} (p : Pt K te pth) (g' : SG K (fun _ => g) (fun _ => mg)) (s : SS K (fun _ => ts) (fun _ => mt)) : SS K (fun _ => tLockW (fun _ => tFor (iItems te) g ts) (fun _ _ _ _ => False)) (fun _ => mForK pth itemsD mg mt) :=
  ⟨fun r m w n t b c h => (S_forI p g' s).run (W := fun _ _ _ _ => False) (W' := WD0) r m FW0 n t b c h⟩
/-! ### a, b = .. of a tuple or a list -/
def hTL (n : Nat) (gs : MGs) : MG := fun d ρ M Q => match look M d with
  | .tup ds => ds.length = n ∧ gs ds ρ M Q
  | .lst ds => ds.length = n ∧ gs ds ρ M Q
  | _ => False
theorem G_tl {n : Nat} {gs : WX → TGs} {mgs : WD → MGs} (s : SGs K gs mgs) : SG K (fun W => gTL K n (gs W)) (fun W => hTL n (mgs W)) := ⟨fun r m w rv f h => by
  unfold hTL at h
  split at h
  · rename_i ds e
    obtain ⟨a, vs, rfl, hs, rl⟩ := vT m rv e
    exact .inl ⟨a, vs, rfl, hs, by rw [rl.len]; exact h.1, s.run r m w rl f h.2⟩
  · rename_i ds e
    obtain ⟨a, vs, rfl, hs, rl⟩ := vL m rv e
    exact .inr ⟨a, vs, rfl, hs, by rw [rl.len]; exact h.1, s.run r m w rl f h.2⟩
  · exact h.elim⟩
theorem V_tl {vs : List Nat} {n : Nat} {gs : TGs} {mgs : MGs} (s : SVs K vs gs mgs) : SV K vs (gTL K n gs) (hTL n mgs) := ⟨fun r m rv f h => by
  unfold hTL at h
  split at h
  · rename_i ds e
    obtain ⟨a, ws, rfl, hs, rl⟩ := vT m rv e
    exact .inl ⟨a, ws, rfl, hs, by rw [rl.len]; exact h.1, s.run r m rl f h.2⟩
  · rename_i ds e
    obtain ⟨a, ws, rfl, hs, rl⟩ := vL m rv e
    exact .inr ⟨a, ws, rfl, hs, by rw [rl.len]; exact h.1, s.run r m rl f h.2⟩
  · exact h.elim⟩
end
end Z

/-! L13: *d of a dict among items; properties; sorted ints -/
namespace Z
open PySem PySem.Spec PyProof.Rows L2 Evl
section
variable {X : Cx} {pins : List (Addr × Obj)} {σ : L2.St} {H : Hp} {s : Shared}
theorem keys_at : ∀ {us : List Value} {ks : List Key}, us.length = ks.length → (∀ (j : Nat) (v : Value), us[j]? = some v → ∃ k, ks[j]? = some k ∧ RelV (kV k) v) → Vals (ks.map kV) us
  | [], [], _, _ => .nil
  | u :: us, k :: ks, hl, h => by
    obtain ⟨x, e1, e2⟩ := h 0 u rfl
    cases e1
    exact .cons e2 (keys_at (by simpa using hl) fun j v e => h (j + 1) v (by simpa using e))
  | [], _ :: _, hl, _ => by simp at hl
  | _ :: _, [], hl, _ => by simp at hl
theorem star_dct {a : Addr} {kvs : List (Key × V)} {E : Value → Shared → Prop} {Q : List Value → Shared → Prop} (hc : X.calm = true) (I : Inv X pins σ H s) (hd : Rd H a (.dK kvs)) (h16 : kvs.length ≤ sizeLine) (hQ : ∀ us s', Inv X pins σ H s' → Vals (kvs.map fun p => kV p.1) us → Q us s') : PySem.W.StarOf (model X.prog X.w) X.A E (.ref a) Q s := by
  obtain ⟨z, lo, vs, rel, dd⟩ := dk_rd I.hok hd
  obtain ⟨ep, hat⟩ := dd.dictAt
  have hl : vs.length = kvs.length := by
    have e := congrArg List.length rel.keys
    rw [List.length_map, List.length_map] at e
    exact e.symm
  have z : wpAny (model X.prog X.w) X.A (collect (.ref a)) Q E s := by
    refine PySem.W.kdu_collect (A := X.A) (PySem.W.kdl_dict (knd := mixKind X.prog X.w) (kvs := vs) (ep := ep) lo) (I.ok.hd hc) hat (by rw [hl]; exact h16) fun h' tk acc hk hacc => ?_
    refine hQ _ _ (I.kept hk) ?_
    have e0 : kvs.map (fun p => kV p.1) = (vs.map (·.1)).map kV := by rw [← rel.keys, List.map_map]; rfl
    rw [e0]
    refine keys_at (by rw [Array.length_toList, hacc.1, List.length_map]) fun j v e => ?_
    obtain ⟨k, x, e1, e2⟩ := hacc.2 j v (by rw [← Array.getElem?_toList]; exact e)
    refine ⟨k, by rw [List.getElem?_map, e1]; rfl, ?_⟩
    rcases keyIs_shape e2 with ⟨i, t, rfl, rfl⟩ | ⟨x, t, rfl, rfl⟩
    · exact ⟨t, rfl⟩
    · exact ⟨t, rfl⟩
  obtain ⟨o, es, ho, hx, _⟩ := hat
  have hT : s.TypeIs (.ref a) "dict" := ⟨o, ho, hx.1⟩
  unfold PySem.W.StarOf notIterableAtAll
  exact wpAny_bind (wpAny_specialOf hT PySem.F.slot_dict_iter.lookup (wpAny_pure ⟨rfl, z⟩))
end
/-- *e among items: a list, a tuple, a dict (its keys) -/
def tStarA (K : PySem.W.Frag) (te : TE) (t : TA) : TA := fun σ H Q => te σ H fun x H1 => (∃ p xs, x = V.ref p ∧ (SqT K H1 p xs ∨ SqL K H1 p xs) ∧ t σ H1 fun ys H2 => Q (xs ++ ys) H2) ∨
  ∃ p kvs, x = V.ref p ∧ Rd H1 p (.dK kvs) ∧ kvs.length ≤ sizeLine ∧ t σ H1 fun ys H2 => Q (kvs.map (fun p => kV p.1) ++ ys) H2
section
variable {X : Cx} {CX : CXT} {k : Nat} {C f : Str} {ps : List Str} {sp : Sp} {e : Expr} {es : List Expr} {te ta : TE} {t : TA} {p pos : Pos}
theorem pa_starA (hc : X.calm = true) (he : PE X e te) (hr : PA X es t) (hs : starEach (.Starred e p :: es) X.env = (true, eval e X.env) :: starEach es X.env := by rfl) : PA X (.Starred e p :: es) (tStarA X.K te t) := by
  refine ⟨fun pos pins s σ H Q I h => ?_⟩
  refine PySem.W.items_star (thn (he.run pins s σ H _ I h) fun v s1 ⟨y, H1, I1, ry, q⟩ => ?_) hs
  rcases q with ⟨a, xs, ey, hx, q⟩ | ⟨a, kvs, ey, hx, hl, q⟩
  · subst ey
    obtain rfl : v = Value.ref a := ry
    refine StX.star_any I1 hx fun us s2 I2 rv => ?_
    exact thn (hr.run pos pins s2 σ H1 _ I2 q) fun ws s3 ⟨vs, H3, I3, r3, q3⟩ => ⟨xs ++ vs, H3, I3, rv.append r3, q3⟩
  · subst ey
    obtain rfl : v = Value.ref a := ry
    refine star_dct hc I1 hx hl fun us s2 I2 rv => ?_
    exact thn (hr.run pos pins s2 σ H1 _ I2 q) fun ws s3 ⟨vs, H3, I3, r3, q3⟩ => ⟨kvs.map (fun p => kV p.1) ++ vs, H3, I3, rv.append r3, q3⟩
/-! ### properties -/
structure FokP (P : Program) (w : World) (K : PySem.W.Frag) (mg : Str → Option Value) (base : Heap) (CX : CXT) (k : Nat) (C f : Str) (ps : List Str) (sp : Sp) : Prop where
  ex : ∃ fd, PropOf K (He.ga K C) f (He.ma K (He.ga K C) f) (prA K (C, some f)) ∧ FnOk P w K mg base CX k (prA K (C, some f)) fd ps sp ∧ Binds K fd ps []
def tPropP (K : PySem.W.Frag) (C : Str) (sp : Sp) (ta : TE) : TE := tProp (He.ga K C) sp [] E0 ta
theorem pe_propP (he : PE X e ta) (c : Cls X.K (He.ga X.K C)) (F : FokP X.prog X.w X.K X.mg X.base CX0 k C f ps sp) (hr : Room (k + 1) X.A) (hab : attributeBase e f X.env (eval e X.env) = eval e X.env := by rfl) : PE X (.Attribute e f pos) (tPropP X.K C sp ta) := by
  obtain ⟨fd, hp, F1, b⟩ := F.ex
  exact pe_prop he c hp F1 hr b .nil pass0 hab
end
/-! ### sorted: texts, ints, dicts of such keys -/
def rSortDI : List V → Hp → VK → Prop := fun xs H Q => ∃ (a : Addr) (kvs : List (Key × V)) (ks : List Int), xs = [.ref a] ∧ Rd H a (.dK kvs) ∧ kvs.map (·.1) = ks.map Sum.inl ∧ ks.length < 64 ∧
    ∀ (ys : List Int) (p : Addr), ys.Perm ks → ys.Pairwise (· ≤ ·) → H p = none → Q (.ref p) (upd H p (.lst (ys.map V.int)))
def rSortB (K : PySem.W.Frag) : List V → Hp → VK → Prop := fun xs H Q => rSortA K xs H Q ∨ (rSortedI K xs H Q ∨ rSortDI xs H Q)
theorem call_sortB {X : Cx} (hc : X.calm = true) : CallR X (.builtin "sorted") (rSortB X.K) := CallR.or (call_sortA hc) (CallR.or cr_sortedI (call_sortedDI hc))
end Z

/-! T17: the same over data: *d, properties, sorted ints -/
namespace Z
open PySem PySem.Spec PyProof.Rows L2 Evl
section
variable {K : PySem.W.Frag} {χ φ : List Addr} {H : Hp} {M : Mem} {v : V} {d : Da}
theorem RpK.keysR {kvs : List (Key × V)} {kds : List (Key × Da)} (r : RpK K H φ χ kvs kds) (ok : ∀ p ∈ kds, keyOk p.1) : RpL K H φ χ (kvs.map fun p => kV p.1) (keysD kds) := by
  induction kds generalizing kvs with
  | nil => cases r; exact .nil
  | cons p l ih =>
    cases r with
    | cons h r => exact .cons (keyV_rp (ok _ (List.mem_cons_self ..))) (ih r fun q hq => ok q (List.mem_cons_of_mem _ hq))
def mStarA (ma : ME) (ms : MA) : MA := fun ρ M Q => ma ρ M fun x M1 => match look M1 x with
  | .lst ds => ms ρ M1 fun xs M2 => Q (ds ++ xs) M2
  | .tup ds => ms ρ M1 fun xs M2 => Q (ds ++ xs) M2
  | .dct kds => (∀ p ∈ kds, keyOk p.1) ∧ kds.length ≤ 1000000 ∧ ms ρ M1 fun xs M2 => Q (keysD kds ++ xs) M2
  | _ => False
theorem E_starA {te : WX → TE} {me : WD → ME} {ms : WD → MA} {as : WX → TA} (a : SE K te me) (s : SA K as ms) : SA K (fun W => tStarA K (te W) (as W)) (fun W => mStarA (me W) (ms W)) := ⟨fun r m w f h =>
  a.run r m w (fun v d H1 φ1 M1 A1 m1 r1 h1 => by
    split at h1
    · rename_i ds e
      obtain ⟨p, vs, rfl, hs, rl⟩ := vL m1 r1 e
      exact .inl ⟨p, vs, rfl, .inr hs, s.run (r.adv A1) m1 (w.adv A1) (fun ws es H2 φ2 M2 A2 m2 r2 h2 => f _ _ _ _ _ (A1.trans A2) m2 ((rl.adv A2).app r2) h2) h1⟩
    · rename_i ds e
      obtain ⟨p, vs, rfl, hs, rl⟩ := vT m1 r1 e
      exact .inl ⟨p, vs, rfl, .inl hs, s.run (r.adv A1) m1 (w.adv A1) (fun ws es H2 φ2 M2 A2 m2 r2 h2 => f _ _ _ _ _ (A1.trans A2) m2 ((rl.adv A2).app r2) h2) h1⟩
    · rename_i kds e
      obtain ⟨p, kvs, rfl, hs, rk⟩ := vD m1 r1 e
      obtain ⟨ok, hl, h1⟩ := h1
      have rl := rk.keysR ok
      exact .inr ⟨p, kvs, rfl, hs, by rw [rk.len, sizeLine_eq]; omega, s.run (r.adv A1) m1 (w.adv A1) (fun ws es H2 φ2 M2 A2 m2 r2 h2 => f _ _ _ _ _ (A1.trans A2) m2 ((rl.adv A2).app r2) h2) h1⟩
    · exact h1.elim) h⟩
/-- o.f, a property -/
def mProp (c : Str) (f : MP) (ma : ME) : ME := fun ρ M Q => ma ρ M fun x M1 => match look M1 x with
  | .obj c' _ => c' = c ∧ f [x] M1 Q XD0
  | _ => False
theorem E_prop (c : Str) (f : MP) {ta : WX → TE} {ma : WD → ME} (a : SE K ta ma) : SE K (fun W => tPropP K c (up K f) (ta W)) (fun W => mProp c f (ma W)) := ⟨fun {χ W W' σ H φ ρ M Q Q'} r mM w fe h =>
  a.run r mM w (fun x dx H1 φ1 M1 A1 m1 r1 h1 => by
    split at h1
    · rename_i c' fds e
      obtain ⟨rfl, h1⟩ := h1
      obtain ⟨ad, dd, fs, rfl, ha, rf⟩ := vO m1 r1 e
      exact ⟨ad, dd, fs, rfl, ha, φ1, χ, M1, _, Q', XD0, .cons r1 .nil, m1, fe.adv A1, fun _ _ _ _ _ _ _ _ _ _ _ _ _ h => h.elim, h1⟩
    · exact h1.elim) h⟩
def keysI : List (Key × Da) → Option (List Int)
  | [] => some []
  | (.inl z, _) :: r => (keysI r).map (z :: ·)
  | _ => none
theorem keysI_of : ∀ {kvs : List (Key × V)} {kds : List (Key × Da)} {zs : List Int}, RpK K H φ χ kvs kds → keysI kds = some zs → kvs.map (·.1) = zs.map Sum.inl
  | _, _, _, .nil, e => by cases e; rfl
  | _, _, zs, .cons (k := k) (ds := ds) h r, e => by
    cases k with
    | inr i => cases e
    | inl z =>
      have e : (keysI ds).map (z :: ·) = some zs := e
      obtain ⟨ys, e1, rfl⟩ := Option.map_eq_some_iff.1 e
      rw [List.map_cons, List.map_cons, keysI_of r e1]
theorem ints_rp (ns : List Int) : RpL K H φ χ (ns.map V.int) (ns.map Da.int) := by
  induction ns with
  | nil => exact .nil
  | cons n ns ih => exact .cons (.int n) ih
def nSortB : List Da → Mem → TK → Prop := fun ds M Q => match ds with
  | [x] => match look M x with
    | .lst es => match strsD es with
      | some zs => zs.length < 64 ∧ ∀ ys, ys.Perm zs → sortedS ys = true → Q (.lst (ys.map Da.str)) M
      | none => match intsD es with
        | some ns => ∀ ys : List Int, ys.Perm ns → ys.Pairwise (· ≤ ·) → Q (.lst (ys.map Da.int)) M
        | none => False
    | .dct kds => match keysS kds with
      | some zs => zs.length < 64 ∧ (∀ z ∈ zs, z.length ≤ sizeLine) ∧ ∀ ys, ys.Perm zs → sortedS ys = true → Q (.lst (ys.map Da.str)) M
      | none => match keysI kds with
        | some ns => ns.length < 64 ∧ ∀ ys : List Int, ys.Perm ns → ys.Pairwise (· ≤ ·) → Q (.lst (ys.map Da.int)) M
        | none => False
    | _ => False
  | _ => False
theorem C_sortB : SC K (rSortB K) nSortB := by
  intro χ H φ M x dx Q Q' m hx f h
  unfold nSortB at h
  split at h
  · rename_i y
    have old : nSort [y] M Q' → rSortB K x H Q := fun h => .inl (C_sort m hx f h)
    split at h
    · rename_i es e
      split at h
      · rename_i zs e2
        refine old ?_
        unfold nSort
        simp only [e, e2]
        exact h
      · split at h
        · rename_i ns e2
          obtain ⟨v, rfl, h1⟩ := hx.one
          obtain ⟨a, vs, rfl, hs, r⟩ := vL m h1 e
          rw [intsD_of r e2] at hs
          exact .inr (.inl ⟨a, ns, rfl, hs, fun ys p pm so hp => f.lst m (ints_rp ys) hp (h ys pm so)⟩)
        · exact h.elim
    · rename_i kds e
      split at h
      · rename_i zs e2
        refine old ?_
        unfold nSort
        simp only [e, e2]
        exact h
      · split at h
        · rename_i ns e2
          obtain ⟨v, rfl, h1⟩ := hx.one
          obtain ⟨a, kvs, rfl, hr, r⟩ := vD m h1 e
          exact .inr (.inr ⟨a, kvs, ns, rfl, hr, keysI_of r e2, h.1, fun ys p pm so hp => f.lst m (ints_rp ys) hp (h.2 ys pm so)⟩)
        · exact h.elim
    · exact h.elim
  · exact h.elim
theorem N_sortB {as : WX → TA} {ms : WD → MA} (s : SA K as ms) : SN K (fun W => tCB (rSortB K) (as W)) (fun W => mCB nSortB (ms W)) := ⟨fun r m w sh f h =>
  s.run r m w (fun vs ds H1 φ1 M1 A1 m1 r1 h1 => by
    unfold nSortB at h1
    split at h1
    · obtain ⟨v, rfl, h2⟩ := r1.one
      split at h1
      · rename_i es e
        split at h1
        · rename_i zs e2
          obtain ⟨a, vs, rfl, hs, rl⟩ := vL m1 h2 e
          rw [strsD_of e2] at rl
          have hl := strs_len rl
          rw [rl.strs] at hs
          exact .inl (.inl ⟨a, zs, rfl, hs, h1.1, fun ys p pm so hp => SN.lst f A1 m1 hp (strs_rp fun z hz => hl z (pm.mem_iff.1 hz)) (h1.2 ys pm so)⟩)
        · split at h1
          · rename_i ns e2
            obtain ⟨a, vs, rfl, hs, rl⟩ := vL m1 h2 e
            rw [intsD_of rl e2] at hs
            exact .inr (.inl ⟨a, ns, rfl, hs, fun ys p pm so hp => SN.lst f A1 m1 hp (ints_rp ys) (h1 ys pm so)⟩)
          · exact h1.elim
      · rename_i kds e
        split at h1
        · rename_i zs e2
          obtain ⟨a, kvs, rfl, hr, rk⟩ := vD m1 h2 e
          exact .inl (.inr ⟨a, kvs, zs, rfl, hr, keysS_of rk e2, h1.1, fun ys p pm so hp => SN.lst f A1 m1 hp (strs_rp fun z hz => h1.2.1 z (pm.mem_iff.1 hz)) (h1.2.2 ys pm so)⟩)
        · split at h1
          · rename_i ns e2
            obtain ⟨a, kvs, rfl, hr, rk⟩ := vD m1 h2 e
            exact .inr (.inr ⟨a, kvs, ns, rfl, hr, keysI_of rk e2, h1.1, fun ys p pm so hp => SN.lst f A1 m1 hp (ints_rp ys) (h1.2 ys pm so)⟩)
          · exact h1.elim
      · exact h1.elim
    · exact h1.elim) h⟩
end
end Z

/-! T18: comprehensions over dicts as new cells, dicts of dicts, assigned to names (printed by mkT18.py) -/
namespace Z
open PySem PySem.Spec PyProof.Rows L2 Evl
section
variable {K : PySem.W.Frag} {χ φ : List Addr} {H : Hp} {M : Mem}
abbrev FNw (K : PySem.W.Frag) (χ : List Addr) (H : Hp) (φ : List Addr) (Q' : TK) (Q : VK) : Prop := ∀ p d H' φ' M', Adv H φ H' φ' → H p = none → p ∉ φ' → p ∉ χ → Mm K H' φ' (p :: χ) M' → CellAt K H' φ' (p :: χ) p d → Q' d M' → Q (.ref p) H'
theorem lc_runN {σ : L2.St} {H0 : Hp} {φ0 : List Addr} {ρ : Sl} {M0 : Mem} {Q : VK} {Q' : TK} {J : It} {I : ItD} {g : TG} {mg : MG} {tt : TT} {mt : MT} {te : TE} {me : ME} {vs : List Nat} (v : SV K vs g mg) (t : ST K (fun _ => tt) (fun _ => mt)) (e : SE K (fun _ => te) (fun _ => me))
    (r : Rs K H0 φ0 χ σ ρ) (m0 : Mm K H0 φ0 χ M0) (f : FNw K χ H0 φ0 Q' Q) (T : Turns K χ J I H0 φ0) (st : I.still M0) (hlen : I.items.length ≤ 1000000) (h1 : lcL I.still mg mt me vs ρ I.items [] M0 Q') : LcT J g tt te vs σ H0 Q := by
  have A0 : Adv H0 φ0 H0 φ0 := Adv.refl
  intro D hD
  have h0 : H0 D = none := by
    cases e : H0 D with
    | none => rfl
    | some o => exact absurd hD (A0.dom D (by rw [e]; simp))
  have nD : D ∉ φ0 := m0.nin hD
  have hχ : ∀ a ∈ D :: χ, a ∈ χ ∨ H0 a = none := hidden hD
  have AD : Adv H0 φ0 (upd H0 D (.lst [])) φ0 := Adv.new hD
  have inD : D ∈ D :: χ := List.mem_cons_self ..
  let Inv : Nat → Nat → Hp → Prop := fun k j H1 => ∃ φ1 M1 vs1 acc, k + j = I.items.length ∧ Adv (upd H0 D (.lst [])) φ0 (upd H1 D (.lst [])) φ1 ∧ D ∉ φ1 ∧ Mm K H1 φ1 (D :: χ) M1 ∧ Rs K H1 φ1 (D :: χ) σ ρ ∧ I.still M1 ∧ H1 D = some (.lst vs1) ∧ RpL K H1 φ1 (D :: χ) vs1 acc ∧ acc.length ≤ k ∧
    lcL I.still mg mt me vs ρ (I.items.drop k) acc M1 Q'
  refine ⟨Inv, ⟨I.items.length, φ0, M0, [], [], by omega, by rw [upd_upd]; exact Adv.refl, nD, m0.hideN hD, (r.adv A0).hideN hD, st, upd_same, .nil, Nat.le_refl _, by rw [List.drop_zero]; exact h1⟩, ?_⟩
  rintro k j H1 ⟨φ1, M1, vs1, acc, hk, A1, n1, m1, r1, st1, hd1, ra, la, q⟩
  have A01 : Adv H0 φ0 H1 φ1 := ungrow hD A1 (by rw [hd1]; simp)
  obtain ⟨go, stop⟩ := T H1 φ1 M1 (D :: χ) hχ A01.toX m1 st1
  cases e2 : I.items.drop k with
  | nil =>
    have hl : I.items.length ≤ k := by
      have := congrArg List.length e2
      rw [List.length_drop] at this
      simp at this
      omega
    have : k = I.items.length := by omega
    subst this
    rw [e2] at q
    exact .inl ⟨stop, f D (.lst acc) _ φ1 _ (A0.trans A01) h0 n1 (fun c => m0.hid D c hD) m1 ⟨vs1, hd1, ra⟩ q⟩
  | cons d ds =>
    obtain ⟨hl, ed, eds⟩ := drop_at e2
    rw [e2] at q
    obtain ⟨g1, y1⟩ := go k hl
    refine .inr ⟨g1, fun H' => ∃ φ' M' vs' acc', Adv (upd H0 D (.lst [])) φ0 (upd H' D (.lst [])) φ' ∧ D ∉ φ' ∧ Mm K H' φ' (D :: χ) M' ∧ Rs K H' φ' (D :: χ) σ ρ ∧ I.still M' ∧ H' D = some (.lst vs') ∧ RpL K H' φ' (D :: χ) vs' acc' ∧ acc'.length ≤ k + 1 ∧
      lcL I.still mg mt me vs ρ ds acc' M' Q', ?_, ?_⟩
    · rintro H' ⟨φ', M', vs', acc', a1, a2, a3, a4, a5, a6, a7, a8, a9⟩
      exact ⟨j - 1, by omega, φ', M', vs', acc', by omega, a1, a2, a3, a4, a5, a6, a7, a8, by rw [eds]; exact a9⟩
    · intro x H2 y
      obtain ⟨d', hd', A2, m2, rx⟩ := y1 x H2 y
      rw [ed] at hd'
      cases hd'
      refine v.run ((r1.adv A2).wipe vs) m2 rx (fun σ3 H3 φ3 ρ3 M3 A3 r3 m3 e3 h3 => ⟨e3.trans (wipe_wipe vs), ?_⟩) q
      refine t.run (W := W0) r3 m3 FW0 (fun b H4 φ4 M4 A4 m4 h4 => ?_) h3
      have A14 := (A2.trans A3).trans A4
      have hd4 : H4 D = some (.lst vs1) := A14.keep D _ hd1 n1
      have n4 : D ∉ φ4 := A14.nin hd1 n1
      cases b with
      | false =>
        refine iteF ?_
        obtain ⟨s4, q4⟩ := h4
        have sh := grow (χ := χ) (o2 := .lst vs1) hd1 n1 A1 A14
        rw [show upd (upd H4 D (.lst vs1)) D (.lst []) = upd H4 D (.lst []) from upd_upd] at sh
        exact ⟨φ4, M4, vs1, acc, sh, n4, m4, r1.adv A14, s4, hd4, ra.adv A14, by omega, q4⟩
      | true =>
        refine iteT ?_
        refine e.run (W := W0) (r3.adv A4) m4 FW0 (fun u z H5 φ5 M5 A5 m5 r5 h5 => ?_) h4
        obtain ⟨s5, q5⟩ := h5
        have A15 := A14.trans A5
        have hd5 : H5 D = some (.lst vs1) := A15.keep D _ hd1 n1
        have n5 : D ∉ φ5 := A15.nin hd1 n1
        refine ⟨vs1, hd5, ?_, φ5, M5, vs1 ++ [u], acc ++ [z], grow (χ := χ) hd1 n1 A1 A15, n5, m5.updH inD, (r1.adv A15).updH inD, s5, upd_same, ((ra.adv A15).app (.cons r5 .nil)).at_ inD, ?_, q5⟩
        · rw [ra.len, sizeLine_eq]
          omega
        · rw [List.length_append]
          simp
          omega
def DcT (J : It) (g : TG) (tt : TT) (tk tv : TE) (vs : List Nat) (σ : L2.St) (H1 : Hp) (Q : VK) : Prop := ∀ D, H1 D = none → ∃ W : Nat → Nat → Hp → Prop, (∃ m, W 0 m (upd H1 D (.dK []))) ∧ ∀ i m H, W i m H →
  (J.stop i H ∧ Q (.ref D) H) ∨ (J.go i H ∧ ∃ Nx : Hp → Prop, (∀ H', Nx H' → ∃ m', m' < m ∧ W (i + 1) m' H') ∧ ∀ x H', J.yld i H x H' → g x (wipe σ vs) H' fun σ2 H2 => wipe σ2 vs = wipe σ vs ∧ tt σ2 H2 fun b H3 =>
    if b = true then tk σ2 H3 fun y H4 => tv σ2 H4 fun z H5 => ∃ kvs k, y = kV k ∧ H5 D = some (.dK kvs) ∧ kvs.length < sizeLine ∧ Nx (upd H5 D (.dK (putK kvs k z))) else Nx H3)
theorem dc_run {σ : L2.St} {H0 : Hp} {φ0 : List Addr} {ρ : Sl} {M0 : Mem} {Q : VK} {Q' : TK} {J : It} {I : ItD} {g : TG} {mg : MG} {tt : TT} {mt : MT} {tk tv : TE} {mk mv : ME} {vs : List Nat} (v : SV K vs g mg) (t : ST K (fun _ => tt) (fun _ => mt)) (ek : SE K (fun _ => tk) (fun _ => mk)) (ev : SE K (fun _ => tv) (fun _ => mv))
    (r : Rs K H0 φ0 χ σ ρ) (m0 : Mm K H0 φ0 χ M0) (f : FE K χ H0 φ0 Q' Q) (T : Turns K χ J I H0 φ0) (st : I.still M0) (hlen : I.items.length ≤ 1000000) (h1 : dcL I.still mg mt mk mv vs ρ I.items [] M0 Q') : DcT J g tt tk tv vs σ H0 Q := by
  have A0 : Adv H0 φ0 H0 φ0 := Adv.refl
  intro D hD
  have nD : D ∉ φ0 := m0.nin hD
  have hχ : ∀ a ∈ D :: χ, a ∈ χ ∨ H0 a = none := hidden hD
  have AD : Adv H0 φ0 (upd H0 D (.dK [])) φ0 := Adv.new hD
  have inD : D ∈ D :: χ := List.mem_cons_self ..
  let Inv : Nat → Nat → Hp → Prop := fun k j H1 => ∃ φ1 M1 vs1 acc, k + j = I.items.length ∧ Adv (upd H0 D (.dK [])) φ0 (upd H1 D (.dK [])) φ1 ∧ D ∉ φ1 ∧ Mm K H1 φ1 (D :: χ) M1 ∧ Rs K H1 φ1 (D :: χ) σ ρ ∧ I.still M1 ∧ H1 D = some (.dK vs1) ∧ RpK K H1 φ1 (D :: χ) vs1 acc ∧ acc.length ≤ k ∧
    dcL I.still mg mt mk mv vs ρ (I.items.drop k) acc M1 Q'
  refine ⟨Inv, ⟨I.items.length, φ0, M0, [], [], by omega, by rw [upd_upd]; exact Adv.refl, nD, m0.hideN hD, (r.adv A0).hideN hD, st, upd_same, .nil, Nat.le_refl _, by rw [List.drop_zero]; exact h1⟩, ?_⟩
  rintro k j H1 ⟨φ1, M1, vs1, acc, hk, A1, n1, m1, r1, st1, hd1, ra, la, q⟩
  have A01 : Adv H0 φ0 H1 φ1 := ungrow hD A1 (by rw [hd1]; simp)
  obtain ⟨go, stop⟩ := T H1 φ1 M1 (D :: χ) hχ A01.toX m1 st1
  cases e2 : I.items.drop k with
  | nil =>
    have hl : I.items.length ≤ k := by
      have := congrArg List.length e2
      rw [List.length_drop] at this
      simp at this
      omega
    have : k = I.items.length := by omega
    subst this
    rw [e2] at q
    exact .inl ⟨stop, f _ _ _ φ1 _ (A0.trans A01) m1.bare (.dct hd1 rfl n1 (fun c => m0.hid D c hD) ra.bare) q⟩
  | cons d ds =>
    obtain ⟨hl, ed, eds⟩ := drop_at e2
    rw [e2] at q
    obtain ⟨g1, y1⟩ := go k hl
    refine .inr ⟨g1, fun H' => ∃ φ' M' vs' acc', Adv (upd H0 D (.dK [])) φ0 (upd H' D (.dK [])) φ' ∧ D ∉ φ' ∧ Mm K H' φ' (D :: χ) M' ∧ Rs K H' φ' (D :: χ) σ ρ ∧ I.still M' ∧ H' D = some (.dK vs') ∧ RpK K H' φ' (D :: χ) vs' acc' ∧ acc'.length ≤ k + 1 ∧
      dcL I.still mg mt mk mv vs ρ ds acc' M' Q', ?_, ?_⟩
    · rintro H' ⟨φ', M', vs', acc', a1, a2, a3, a4, a5, a6, a7, a8, a9⟩
      exact ⟨j - 1, by omega, φ', M', vs', acc', by omega, a1, a2, a3, a4, a5, a6, a7, a8, by rw [eds]; exact a9⟩
    · intro x H2 y
      obtain ⟨d', hd', A2, m2, rx⟩ := y1 x H2 y
      rw [ed] at hd'
      cases hd'
      refine v.run ((r1.adv A2).wipe vs) m2 rx (fun σ3 H3 φ3 ρ3 M3 A3 r3 m3 e3 h3 => ⟨e3.trans (wipe_wipe vs), ?_⟩) q
      refine t.run (W := W0) r3 m3 FW0 (fun b H4 φ4 M4 A4 m4 h4 => ?_) h3
      have A14 := (A2.trans A3).trans A4
      have hd4 : H4 D = some (.dK vs1) := A14.keep D _ hd1 n1
      have n4 : D ∉ φ4 := A14.nin hd1 n1
      cases b with
      | false =>
        refine iteF ?_
        obtain ⟨s4, q4⟩ := h4
        have sh := grow (χ := χ) (o2 := .dK vs1) hd1 n1 A1 A14
        rw [show upd (upd H4 D (.dK vs1)) D (.dK []) = upd H4 D (.dK []) from upd_upd] at sh
        exact ⟨φ4, M4, vs1, acc, sh, n4, m4, r1.adv A14, s4, hd4, ra.adv A14, by omega, q4⟩
      | true =>
        refine iteT ?_
        refine ek.run (W := W0) (r3.adv A4) m4 FW0 (fun u z H5 φ5 M5 A5 m5 r5 h5 => ?_) h4
        refine ev.run (W := W0) (r3.adv (A4.trans A5)) m5 FW0 (fun u2 z2 H6 φ6 M6 A6 m6 r6 h6 => ?_) h5
        obtain ⟨kk, ekk, s6, q6⟩ := h6
        have A16 := (A14.trans A5).trans A6
        have hd6 : H6 D = some (.dK vs1) := A16.keep D _ hd1 n1
        have n6 : D ∉ φ6 := A16.nin hd1 n1
        refine ⟨vs1, kk, keyD_of r5 ekk, hd6, ?_, φ6, M6, putK vs1 kk u2, putD acc kk z2, grow (χ := χ) hd1 n1 A1 A16, n6, m6.updH inD, (r1.adv A16).updH inD, s6, upd_same, ((ra.adv A16).put r6).at_ inD, ?_, q6⟩
        · rw [ra.len, sizeLine_eq]
          omega
        · have := putD_len1 acc kk z2
          omega
theorem FNw.lock {Q' : TK} {Q : VK} {D : Addr} {kvs : List (Key × V)} {od : Obj} (hd : H D = some (.dK kvs)) (nd : D ∉ φ) (f : FNw K χ H φ Q' Q) : FNw K χ (upd H D (.frz od (.dK kvs))) φ Q' (fun v H' => H' D = some (.frz od (.dK kvs)) ∧ Q v (upd H' D (.dK kvs))) := fun p d H' φ' M' A hp n1 n2 m c q => by
  have O := out_of hd nd A
  have pD : p ≠ D := fun e => by rw [e, upd_same] at hp; cases hp
  rw [upd_ne pD] at hp
  refine ⟨O.at_, f p d _ φ' M' O.adv hp n1 n2 (m.same O.same O.nin) ?_ q⟩
  cases d with
  | lst ds => obtain ⟨vs, e, r⟩ := c; exact ⟨vs, by rw [upd_ne pD]; exact e, r.same O.same⟩
  | dct ds => obtain ⟨vs, e, r⟩ := c; exact ⟨vs, by rw [upd_ne pD]; exact e, r.same O.same⟩
  | obj c ds => obtain ⟨dx, vs, e, r⟩ := c; exact ⟨dx, vs, by rw [upd_ne pD]; exact e, r.same O.same⟩
  | gl x => show upd H' D _ p ≠ none; rw [upd_ne pD]; exact c
  | _ => exact c.elim
theorem N_lcD {iter : TE → TI} {Jt : Addr → Obj → List (Key × V) → It} {it : List (Key × Da) → List Da}
    (hi : ∀ {te : TE} {σ : L2.St} {H : Hp} {D : Addr} {o : Obj} {kvs : List (Key × V)} {R : It → Hp → Prop}, H D = some (.frz o (.dK kvs)) → (∀ Q : VK, Q (.ref D) H → te σ H Q) → R (Jt D o kvs) H → iter te σ H R)
    (hT : ∀ {χ φ : List Addr} {H : Hp} {D : Addr} {o : Obj} {kvs : List (Key × V)} {kds : List (Key × Da)}, H D = some (.frz o (.dK kvs)) → D ∉ φ → D ∉ χ → RpK K H φ χ kvs kds → (∀ p ∈ kds, keyOk p.1) → Turns K χ (Jt D o kvs) ⟨it kds, fun _ => True⟩ H φ)
    {tp : TE} {pth : Sl → Mem → Option Da} (p : Pt K tp pth) {g : TG} {mg : MG} {tt : TT} {mt : MT} {te : TE} {me : ME} {vs : List Nat} (v : SV K vs g mg) (t : ST K (fun _ => tt) (fun _ => mt)) (e : SE K (fun _ => te) (fun _ => me)) :
    SN K (fun _ => tLockO (tLc (iter tp) g tt te vs)) (fun _ => mLcK pth it mg mt me vs) := ⟨fun {χ W W' σ H φ ρ M Q Q'} r m w sh f h => by
  unfold mLcK at h
  split at h
  · rename_i kds e0
    obtain ⟨u, rv, e1, e2⟩ := p.run r m e0
    obtain ⟨a, o, kvs, rfl, ha, hc, na, nx, rk⟩ := rv.dctOf
    obtain ⟨ok, hl, h⟩ := h
    cases o with
    | dK ks =>
      cases hc
      refine .inl ⟨a, .dK kvs, ha, by trivial, fun od => ?_⟩
      have S := into (od := od) ha
      refine hi (D := a) (o := od) (kvs := kvs) upd_same (fun Q q => e2 a kvs _ ha Q q) ?_
      exact lc_runN v t e (r.same S) (m.same S na) (FNw.lock ha na f) (hT upd_same na nx (rk.same S) ok) trivial hl h
    | frz ob u =>
      cases u with
      | dK ks =>
        cases hc
        refine .inr (hi ha e1 ?_)
        exact lc_runN v t e r m f (hT ha na nx rk ok) trivial hl h
      | _ => cases hc
    | _ => cases hc
  · exact h.elim⟩
theorem N_lcK {tp : TE} {pth : Sl → Mem → Option Da} (p : Pt K tp pth) {g : TG} {mg : MG} {tt : TT} {mt : MT} {te : TE} {me : ME} {vs : List Nat} (v : SV K vs g mg) (t : ST K (fun _ => tt) (fun _ => mt)) (e : SE K (fun _ => te) (fun _ => me)) :
    SN K (fun _ => tLockO (tLc (iKeys tp) g tt te vs)) (fun _ => mLcK pth keysD mg mt me vs) := N_lcD (iter := iKeys) (Jt := Itk) (fun hd he hR => he _ ⟨_, _, rfl, .inl ⟨_, hd, hR⟩⟩) turns_keys p v t e
theorem N_lcI {tp : TE} {pth : Sl → Mem → Option Da} (p : Pt K tp pth) {g : TG} {mg : MG} {tt : TT} {mt : MT} {te : TE} {me : ME} {vs : List Nat} (v : SV K vs g mg) (t : ST K (fun _ => tt) (fun _ => mt)) (e : SE K (fun _ => te) (fun _ => me)) :
    SN K (fun _ => tLockO (tLc (iItems tp) g tt te vs)) (fun _ => mLcK pth itemsD mg mt me vs) := N_lcD (iter := iItems) (Jt := Iti) (fun hd he hR => he _ ⟨_, _, _, rfl, hd, hR⟩) turns_items p v t e
/-! ### dicts of dicts -/
def mDcK (pth : Sl → Mem → Option Da) (it : List (Key × Da) → List Da) (g : MG) (tt : MT) (tk tv : ME) (vs : List Nat) : ME := fun ρ M Q => match pth ρ M with
  | some (.dct kds) => (∀ p ∈ kds, keyOk p.1) ∧ (it kds).length ≤ 1000000 ∧ dcL (fun _ => True) g tt tk tv vs ρ (it kds) [] M Q
  | _ => False
theorem dcD {iter : TE → TI} {Jt : Addr → Obj → List (Key × V) → It} {it : List (Key × Da) → List Da}
    (hi : ∀ {te : TE} {σ : L2.St} {H : Hp} {D : Addr} {o : Obj} {kvs : List (Key × V)} {R : It → Hp → Prop}, H D = some (.frz o (.dK kvs)) → (∀ Q : VK, Q (.ref D) H → te σ H Q) → R (Jt D o kvs) H → iter te σ H R)
    (hT : ∀ {χ φ : List Addr} {H : Hp} {D : Addr} {o : Obj} {kvs : List (Key × V)} {kds : List (Key × Da)}, H D = some (.frz o (.dK kvs)) → D ∉ φ → D ∉ χ → RpK K H φ χ kvs kds → (∀ p ∈ kds, keyOk p.1) → Turns K χ (Jt D o kvs) ⟨it kds, fun _ => True⟩ H φ)
    {tp : TE} {pth : Sl → Mem → Option Da} (p : Pt K tp pth) {g : TG} {mg : MG} {tt : TT} {mt : MT} {tk tv : TE} {mk mv : ME} {vs : List Nat} (v : SV K vs g mg) (t : ST K (fun _ => tt) (fun _ => mt)) (ek : SE K (fun _ => tk) (fun _ => mk)) (ev : SE K (fun _ => tv) (fun _ => mv)) :
    SE K (fun _ => tLockO (tDc (iter tp) g tt tk tv vs)) (fun _ => mDcK pth it mg mt mk mv vs) := ⟨fun {χ W W' σ H φ ρ M Q Q'} r m w f h => by
  unfold mDcK at h
  split at h
  · rename_i kds e0
    obtain ⟨u, rv, e1, e2⟩ := p.run r m e0
    obtain ⟨a, o, kvs, rfl, ha, hc, na, nx, rk⟩ := rv.dctOf
    obtain ⟨ok, hl, h⟩ := h
    cases o with
    | dK ks =>
      cases hc
      refine .inl ⟨a, .dK kvs, ha, by trivial, fun od => ?_⟩
      have S := into (od := od) ha
      refine hi (D := a) (o := od) (kvs := kvs) upd_same (fun Q q => e2 a kvs _ ha Q q) ?_
      exact dc_run v t ek ev (r.same S) (m.same S na) (f.lock ha na) (hT upd_same na nx (rk.same S) ok) trivial hl h
    | frz ob u =>
      cases u with
      | dK ks =>
        cases hc
        refine .inr (hi ha e1 ?_)
        exact dc_run v t ek ev r m f (hT ha na nx rk ok) trivial hl h
      | _ => cases hc
    | _ => cases hc
  · exact h.elim⟩
theorem E_dcK {tp : TE} {pth : Sl → Mem → Option Da} (p : Pt K tp pth) {g : TG} {mg : MG} {tt : TT} {mt : MT} {tk tv : TE} {mk mv : ME} {vs : List Nat} (v : SV K vs g mg) (t : ST K (fun _ => tt) (fun _ => mt)) (ek : SE K (fun _ => tk) (fun _ => mk)) (ev : SE K (fun _ => tv) (fun _ => mv)) :
    SE K (fun _ => tLockO (tDc (iKeys tp) g tt tk tv vs)) (fun _ => mDcK pth keysD mg mt mk mv vs) := dcD (iter := iKeys) (Jt := Itk) (fun hd he hR => he _ ⟨_, _, rfl, .inl ⟨_, hd, hR⟩⟩) turns_keys p v t ek ev
theorem E_dcI {tp : TE} {pth : Sl → Mem → Option Da} (p : Pt K tp pth) {g : TG} {mg : MG} {tt : TT} {mt : MT} {tk tv : TE} {mk mv : ME} {vs : List Nat} (v : SV K vs g mg) (t : ST K (fun _ => tt) (fun _ => mt)) (ek : SE K (fun _ => tk) (fun _ => mk)) (ev : SE K (fun _ => tv) (fun _ => mv)) :
    SE K (fun _ => tLockO (tDc (iItems tp) g tt tk tv vs)) (fun _ => mDcK pth itemsD mg mt mk mv vs) := dcD (iter := iItems) (Jt := Iti) (fun hd he hR => he _ ⟨_, _, _, rfl, hd, hR⟩) turns_items p v t ek ev
/-! ### x = a comprehension over a dict -/
theorem S_asgK {t : TE} {me : ME} (e : SE K (fun _ => tLockO t) (fun _ => me)) (i : Nat) {Wf : WX → WX} : SS K (fun W => tLockW (fun _ => tAsg t (gName i)) (Wf W)) (fun _ => mAsg me (hName i)) := ⟨fun {χ W W' σ H φ ρ M D D'} r m w n tq bk ct h => by
  have h2 := e.run (W := W) (W' := W') (Q := fun v H' => D.nx (σ.set i (some v)) H') r m w (fun v d H1 φ1 M1 A1 m1 r1 h1 => n _ _ _ _ _ A1 ((r.adv A1).set r1) m1 h1) h
  rcases h2 with ⟨d, u, hd, mu, h2⟩ | h2
  · exact .inl ⟨d, u, hd, mu, h2⟩
  · exact .inr h2⟩
end
end Z

/-! L14: {**d, k: v} -/
namespace PySem
open Sem (wp)
section
variable {prog : Program} {w : World} {K : Type} [DecidableEq K] {knd : KeyKind prog w K} {A : Around} {E : Value → Shared → Prop} {s : Shared}
theorem wpAny_dictPutZ {d : Addr} {kvs : List (K × Value)} {k : K} {key v : Value} {Q : Unit → Shared → Prop} (hkey : knd.is k key = true) (hm : s.heap.DictOf knd d kvs)
    (hQ : ∀ h', h'.DictOf knd d (stored kvs k v) → Heap.SameBut d s.heap h' → Q () { s with heap := h' })
    (hsz : kvs.length ≤ sizeLine) :
    wpAny (model prog w) A (dictPut d (knd.hash k) key v) Q E s := by
  obtain ⟨o, es, ep, ho, hc, hd, hk, hp, hn⟩ := hm
  have hes : es.size ≤ sizeLine := by have e1 := hp.length; have e2 : es.toList.length = es.size := by simp
                                      omega
  unfold dictPut
  refine wpAny_bind (wpAny_dictFind_of hkey ho hd hk ?_)
  have hidx : (es.findIdx? fun e => knd.is k e.key) = kvs.findIdx? fun kv => decide (kv.1 = k) := by
    rw [← hp.findIdx k]; obtain ⟨l⟩ := es; simp
  cases hi : es.findIdx? fun e => knd.is k e.key with
  | some i =>
    refine (wpAny_updateDict ho hd (hQ _ ⟨_, _, ep, Heap.get?_update_self _ ho (Obj.isFreed_of_dict (Obj.data_mapDict hd _)),
      hc.mapDict _, Obj.data_mapDict hd _, hk.modify _ _, ?_, ?_⟩ (Heap.SameBut.update ..)))
    · rw [stored, if_pos (any_of_findIdx_some (hidx ▸ hi))]
      have hl : (es.toList.findIdx? fun e => knd.is k e.key) = some i := by rw [← hi]; obtain ⟨l⟩ := es; simp
      have := hp.modify hn hl v
      obtain ⟨l⟩ := es
      simpa using this
    · rw [stored, if_pos (any_of_findIdx_some (hidx ▸ hi)), keys_map_store]; exact hn
  | none =>
    have hnot : k ∉ kvs.map (·.1) := not_mem_of_findIdx_none (hidx ▸ hi)
    have hany : ¬ (kvs.any fun kv => decide (kv.1 = k)) = true := by
      rw [List.any_eq_true]; rintro ⟨kv, hkv, he⟩
      exact hnot (List.mem_map.mpr ⟨kv, hkv, of_decide_eq_true he⟩)
    refine (wpAny_updateDictKeys (hz := hes) ho hd (hQ _ ⟨_, _, ep + 1, Heap.get?_update_self _ ho (Obj.isFreed_of_dict (Obj.data_mapDictKeys hd _)),
      hc.mapDictKeys _, Obj.data_mapDictKeys hd _, hk.push hkey _, ?_, ?_⟩ (Heap.SameBut.update ..)))
    · rw [stored, if_neg hany]
      have := hp.append hkey (knd.hash k) v
      obtain ⟨l⟩ := es
      simpa using this
    · rw [stored, if_neg hany, List.map_append, List.nodup_append]
      refine ⟨hn, by simp, ?_⟩
      intro a ha b hb
      simp only [List.map_cons, List.map_nil, List.mem_singleton] at hb
      subst hb
      exact fun e => hnot (e ▸ ha)
theorem wpAny_mergeMappingZ {d o : Addr} {kvs more : List (K × Value)} {Q : Unit → Shared → Prop} (hdo : d ≠ o) (hoS : (o == sysModules) = false)
    (hd : s.heap.DictOf knd d kvs) (ho : s.heap.DictOf knd o more)
    (hQ : ∀ h', h'.DictOf knd d (merged kvs more) → h'.DictOf knd o more → Heap.SameBut d s.heap h' → Q () { s with heap := h' })
    (hsz : kvs.length + more.length ≤ sizeLine) :
    wpAny (model prog w) A (mergeMapping d (.ref o) false) Q E s := by
  obtain ⟨od, esd, epd, hod, hcd, hdd, hkd, hpd, hnd⟩ := id hd
  obtain ⟨oo, eso, epo, hoo, hco, hdo', hko, hpo, hno⟩ := id ho
  have hT : s.TypeIs (.ref o) "dict" := ⟨oo, hoo, hco.1⟩
  have hlen : more.length = eso.size := by rw [← hpo.length]; simp
  unfold mergeMapping
  refine wpAny_bind (wpAny_isInstance (U := "dict") (b := true) hT (by rfl) ?_)
  rw [if_pos rfl]
  refine wpAny_bind (wpAny_specialOf hT PySem.F.slot_dict_iter.lookup ?_)
  refine wpAny_bind (wpAny_pure ?_)
  have loop : ∀ Q2 : Unit → Shared → Prop, (∀ h', h'.DictOf knd d (merged kvs more) → h'.DictOf knd o more → Heap.SameBut d s.heap h' → Q2 () { s with heap := h' }) → wpAny (model prog w) A (do
      let l ← dictEntries o
      let epoch ← dictEpoch o
      forIn (List.range l.size) PUnit.unit fun i (_ : PUnit) => (do
          let l' ← dictEntries o
          match l'[i]? with
            | some e => do
              holding [e.key, e.val] (dictPut d e.hash e.key e.val)
              let ep' ← dictEpoch o
              if (ep' != epoch) = true then do
                  (unsupported "dict.changed-during-merge" : Sem PUnit)
                  pure (ForInStep.yield PUnit.unit)
                else pure (ForInStep.yield PUnit.unit)
            | _ => do
              (unsupported "dict.changed-during-merge" : Sem PUnit)
              pure (ForInStep.yield PUnit.unit) : Sem (ForInStep PUnit))
      pure ()) Q2 E s := by
    intro Q2 hQ2
    refine wpAny_bind (wpAny_dictEntries hoo hdo' ?_)
    refine wpAny_bind (wpAny_dictEpoch hoo hdo' ?_)
    refine wpAny_bind ?_
    rw [List.range_eq_range']
    refine wpAny_forIn_list _
      (fun rest _ s' => ∃ h' i, s' = { s with heap := h' } ∧ rest = List.range' i (eso.size - i) ∧ i ≤ eso.size ∧ h'.DictOf knd d (merged kvs (more.take i)) ∧ h'.get? o = some oo ∧ Heap.SameBut d s.heap h')
      _ ?_ ?_ _ _ ⟨s.heap, 0, rfl, by simp, Nat.zero_le _, by simpa [merged] using hd, hoo, Heap.SameBut.refl _ _⟩
    · rintro x rest b s' ⟨h', i, rfl, hr, hi, hd', hoo', hs'⟩
      have hlt : i < eso.size := by
        rcases Nat.lt_or_ge i eso.size with h | h
        · exact h
        · rw [Nat.sub_eq_zero_of_le h] at hr; simp at hr
      obtain ⟨rfl, hrest⟩ : x = i ∧ rest = List.range' (i + 1) (eso.size - (i + 1)) := by
        have e : eso.size - i = (eso.size - (i + 1)) + 1 := by omega
        rw [e, List.range'_succ] at hr
        injection hr with h1 h2
        exact ⟨h1, h2⟩
      refine wpAny_bind (wpAny_dictEntries hoo' hdo' ?_)
      rw [Array.getElem?_eq_getElem hlt]
      obtain ⟨kv, hkv⟩ : ∃ kv, more[x]? = some kv := ⟨more[x]'(by rw [hlen]; exact hlt), List.getElem?_eq_getElem _⟩
      obtain ⟨k, v⟩ := kv
      obtain ⟨hkey, hval⟩ := hpo.get? (e := eso[x]) (by simp [hlt]) hkv
      obtain ⟨k', hkey', hhash⟩ := hko eso[x] (Array.getElem_mem hlt)
      obtain rfl : k' = k := knd.inj _ _ _ hkey' hkey
      show wpAny _ _ (holding [eso[x].key, eso[x].val] (dictPut d eso[x].hash eso[x].key eso[x].val) >>= _) _ _ _
      rw [hhash, hval]
      have hmx : (merged kvs (more.take x)).length ≤ sizeLine := by
        have e1 := merged_length_le kvs (more.take x)
        have e2 : (more.take x).length ≤ more.length := by rw [List.length_take]; omega
        omega
      refine wpAny_bind (wpAny_holding (wpAny_dictPutZ hkey hd' (fun h'' hd'' hs'' => ?_) hmx))
      have hoo'' : h''.get? o = some oo := (hs''.2 o (Ne.symm hdo)).trans hoo'
      refine wpAny_bind (wpAny_dictEpoch hoo'' hdo' ?_)
      rw [if_neg (by simp)]
      exact wpAny_pure ⟨h'', x + 1, rfl, hrest, hlt, by rw [merged_take_succ kvs more x (k', v) hkv]; exact hd'', hoo'', hs'.trans hs''⟩
    · rintro b s' ⟨h', i, rfl, hr, hi, hd', hoo', hs'⟩
      have hin : i = eso.size := by
        rcases Nat.lt_or_ge i eso.size with h | h
        · have e : eso.size - i = (eso.size - (i + 1)) + 1 := by omega
          rw [e, List.range'_succ] at hr; exact nomatch hr
        · exact Nat.le_antisymm hi h
      refine wpAny_pure (hQ2 h' ?_ ⟨oo, eso, epo, hoo', hco, hdo', hko, hpo, hno⟩ hs')
      rw [hin, ← hlen, List.take_length] at hd'; exact hd'
  have emp : ((some (Value.builtin "dict.__iter__") : Option Value) == some (Value.builtin "dict.__iter__")) = true := by rfl
  show wpAny _ A (if (o == sysModules) = true then _ else _) Q E s
  rw [if_neg (by rw [hoS]; exact Bool.false_ne_true)]
  refine wpAny_bind (wpAny_dictEntries hod hdd ?_)
  by_cases hemp : esd.isEmpty = true
  · show wpAny _ A (if esd.isEmpty = true then _ else _) Q E s
    rw [if_pos hemp]
    refine wpAny_bind (wpAny_dictEntries hoo hdo' ?_)
    refine wpAny_bind ?_
    have key : ∀ e ∈ eso, ∀ b, e.key ≠ Value.ref b := by
      intro e he b eb
      obtain ⟨k, hk, _⟩ := hko e he
      rw [eb] at hk
      have := knd.byValue _ _ hk
      cases this
    have rest : wpAny (model prog w) A _ Q E s := loop Q hQ
    rw [← Array.forIn_toList]
    refine wpAny_forIn_list _ (fun rest _ s' => s' = s ∧ ∀ e ∈ rest, e ∈ eso) _ ?_ ?_ _ _ ⟨rfl, fun e he => by simpa using he⟩
    · rintro e l b s' ⟨rfl, hl⟩
      have hk := key e (hl e (List.mem_cons_self ..))
      split
      · rename_i b' eb
        exact absurd eb (hk b')
      · exact wpAny_pure ⟨rfl, fun x hx => hl x (List.mem_cons_of_mem _ hx)⟩
    · rintro b s' ⟨rfl, _⟩
      exact rest
  · show wpAny _ A (if esd.isEmpty = true then _ else _) Q E s
    rw [if_neg hemp]
    exact loop Q hQ
end
end PySem
namespace Z
open PySem PySem.Spec PyProof.Rows L2 Evl
/-- {**d, k: v}: the new dict stands while its parts are made -/
def tDStar (td tk tv : TE) : TE := fun σ H Q => ∀ p, H p = none → td σ (upd H p (.dK [])) fun x H2 => H2 p = some (.dK []) ∧ ∃ a kvs, x = .ref a ∧ a ≠ p ∧ Rd H2 a (.dK kvs) ∧ kvs.length ≤ 1000000 ∧
  ∀ q, upd H2 p (.dK (mergeK [] kvs)) q = none → tPairs [(tk, tv)] σ (upd (upd H2 p (.dK (mergeK [] kvs))) q (.dK [])) fun ps H3 => H3 q = some (.dK []) ∧ H3 p = some (.dK (mergeK [] kvs)) ∧ ∃ k z, ps = [(kV k, z)] ∧
    Q (.ref p) (upd (upd H3 q (.dK [(k, z)])) p (.dK (mergeK (mergeK [] kvs) [(k, z)])))
section
variable {X : Cx}
theorem pe_dstar {pos : Pos} {de ke ve : Expr} {td tk tv : TE} (he : PE X de td) (hp : PPs X pos [some ke] [ve] [(tk, tv)]) : PE X (.Dict [none, some ke] [de, ve] pos) (tDStar td tk tv) := by
  refine ⟨fun pins s σ H Q I h => ?_⟩
  have hn := I.hok.fresh (Nat.le_refl s.heap.objs.size)
  have I1 := I.laid (a := s.heap.objs.size) (o := .dK []) (h' := s.heap.push { cls := .type "dict", data := .dict #[] }) (t' := s.toks) (fun _ _ q => Heap.get?_push_of_some _ q) (Nat.le_refl _) (dk_empty s.heap I.big)
  rw [arm_eval_Dict]
  refine wpAny_bind (wpAny_standAt ?_)
  show wpAny _ _ (dictDisplay [(none, do let x ← eval de X.env; standAt pos; pure x), (some (eval ke X.env), do let x ← eval ve X.env; standAt pos; pure x)]) _ _ _
  unfold dictDisplay
  dsimp only
  rw [List.forIn_cons]
  refine wpAny_bind (wpAny_bind ?_)
  dsimp only [List.isEmpty]
  rw [if_pos rfl]
  refine wpAny_bind (wpAny_pure ?_)
  dsimp only
  refine wpAny_bind (wpAny_bind (wpAny_alloc ?_))
  refine wpAny_pure ?_
  refine wpAny_bind (wpAny_holding (wpAny_bind (thn (he.run pins _ σ _ _ I1 (h _ hn)) fun v s1 ⟨y, H1, I2, ry, e1, a, kvs, ey, na, rd, hl, q⟩ => wpAny_bind (wpAny_standAt (wpAny_pure ?_)))))
  subst ey
  obtain rfl : v = Value.ref a := ry
  obtain ⟨_, hdp, vs0, r0, dd0⟩ := dk_of I2.hok e1
  cases r0
  obtain ⟨_, hda, vs1, r1, dd1⟩ := dk_rd I2.hok rd
  have l1 : vs1.length = kvs.length := r1.length.symm
  have hp0 : ∃ q, s1.heap.get? s.heap.objs.size = some q := let ⟨q, _, _, hq, _⟩ := dd0; ⟨q, hq⟩
  have hlen : (mergeK [] kvs).length ≤ sizeLine := by
    have h1 := length_mergeK kvs []
    rw [List.length_nil] at h1
    rw [sizeLine_eq]; omega
  refine wpAny_bind (wpAny_onRaise (wpAny_tryCatch (wpAny_onRaise (wpAny_holding (PySem.wpAny_mergeMappingZ (knd := mixKind X.prog X.w) (fun e => na e.symm) hda dd0 dd1 (fun h' dd' _ hs => ?_) (by rw [l1, sizeLine_eq]; simp; omega))))))
  have I3 : L2.Inv X pins σ (upd H1 s.heap.objs.size (.dK (mergeK [] kvs))) { s1 with heap := h' } := d_write I2 (by rw [e1]; exact True.intro) hs (let ⟨q, _, _, hq, _⟩ := dd'; ⟨q, hq⟩) (dk_new hlen hdp (r1.merge .nil) dd')
  refine wpAny_pure ?_
  dsimp only
  rw [List.forIn_cons]
  refine wpAny_bind ?_
  dsimp only
  rw [if_neg (by simp)]
  refine wpAny_pure ?_
  dsimp only
  rw [List.forIn_nil]
  refine wpAny_pure ?_
  dsimp only
  refine wpAny_bind ?_
  rw [if_neg (by simp)]
  have hn2 := I3.hok.fresh (Nat.le_refl h'.objs.size)
  have I4 := I3.laid (a := h'.objs.size) (o := .dK []) (h' := h'.push { cls := .type "dict", data := .dict #[] }) (t' := s1.toks) (fun _ _ q => Heap.get?_push_of_some _ q) (Nat.le_refl _) (dk_empty h' I3.big)
  have npq : h'.objs.size ≠ s.heap.objs.size := fun e => by rw [e, upd_same] at hn2; cases hn2
  refine wpAny_bind (wpAny_holding (wpAny_subDict (knd := mixKind X.prog X.w) (by simp) ?_))
  refine thn (hp.run pins _ σ _ _ I4 (q _ hn2)) fun ws s3 ⟨ps, H3, I5, rel, e3q, e3p, k, z, eps, qq⟩ => ?_
  subst eps
  obtain ⟨rs, c, rk⟩ := carries_of (P := X.prog) (w := X.w) (kvs := [(k, z)]) rel
  obtain ⟨_, hdq, vs2, r2, dd2⟩ := dk_of I5.hok e3q
  cases r2
  refine ⟨rs, c, dd2, fun h2 dd3 hs3 => ?_⟩
  have hq0 : ∃ q, h2.get? h'.objs.size = some q := let ⟨q, _, _, hq, _⟩ := dd3; ⟨q, hq⟩
  have I6 : L2.Inv X pins σ (upd H3 h'.objs.size (.dK [(k, z)])) { s3 with heap := h2, toks := s3.toks + ws.length } := d_write I5 (by rw [e3q]; exact True.intro) hs3 hq0 (dk_new (by rw [sizeLine_eq]; simp) hdq (rk.merge .nil) dd3)
  have e6p : upd H3 h'.objs.size (.dK [(k, z)]) s.heap.objs.size = some (.dK (mergeK [] kvs)) := by rw [upd_ne (Ne.symm npq)]; exact e3p
  obtain ⟨_, _, vs6, r6, dd6⟩ := dk_of I6.hok e6p
  obtain ⟨_, _, vs7, r7, dd7⟩ := dk_of I6.hok (upd_same (H := H3) (a := h'.objs.size) (o := .dK [(k, z)]))
  have l6 : vs6.length = (mergeK [] kvs).length := r6.length.symm
  have l7 : vs7.length = 1 := r7.length.symm
  have lm : (mergeK [] kvs).length ≤ kvs.length := by
    have h1 := length_mergeK kvs []
    rw [List.length_nil] at h1
    omega
  refine wpAny_bind (wpAny_onRaise (wpAny_holding (PySem.wpAny_mergeMappingZ (knd := mixKind X.prog X.w) (Ne.symm npq) hdq dd6 dd7 (fun h3 dd8 _ hs4 => ?_) (by rw [l6, l7, sizeLine_eq]; omega))))
  have hlen2 : (mergeK (mergeK [] kvs) [(k, z)]).length ≤ sizeLine := by
    have h1 := length_mergeK [(k, z)] (mergeK [] kvs)
    simp only [List.length_cons, List.length_nil] at h1
    rw [sizeLine_eq]; omega
  have I7 := d_write (t' := s3.toks + ws.length) I6 (by rw [e6p]; exact True.intro) hs4 (let ⟨q, _, _, hq, _⟩ := dd8; ⟨q, hq⟩) (dk_new hlen2 hdp (r7.merge r6) dd8)
  refine wpAny_pure ?_
  dsimp only
  exact wpAny_pure ⟨.ref s.heap.objs.size, _, I7, rfl, qq⟩
end
end Z

/-! T19: {**d, k: v} over data -/
namespace Z
open PySem PySem.Spec PyProof.Rows L2 Evl
section
variable {K : PySem.W.Frag}
theorem vDx {χ φ : List Addr} {H : Hp} {M : Mem} {v : V} {d : Da} (m : Mm K H φ χ M) (h : Rp K H φ χ v d) {ds : List (Key × Da)} (e : look M d = .dct ds) : ∃ a kvs, v = .ref a ∧ a ∉ χ ∧ Rd H a (.dK kvs) ∧ RpK K H φ χ kvs ds := by
  cases h with
  | dct h c n mm r => cases e; exact ⟨_, _, rfl, mm, rd_of h c, r⟩
  | cell h =>
    obtain ⟨d, e1, _, c⟩ := m.look h
    have e2 : M.getD _ (.gl "") = Da.dct ds := e
    rw [e1] at e2
    subst e2
    obtain ⟨vs, q, r⟩ := c
    exact ⟨_, vs, rfl, m.dis _ (List.mem_of_getElem? h), .inl q, r⟩
  | _ => cases e
def mDStar (md mk mv : ME) : ME := fun ρ M Q => md ρ M fun x M1 => match look M1 x with
  | .dct kds => kds.length ≤ 1000000 ∧ mk ρ M1 fun y M2 => mv ρ M2 fun z M3 => ∃ k, keyD y = some k ∧ Q (.dct (mergeD (mergeD [] kds) [(k, z)])) M3
  | _ => False
theorem E_dstar {td tk tv : WX → TE} {md mk mv : WD → ME} (sd : SE K td md) (sk : SE K tk mk) (sv : SE K tv mv) : SE K (fun W => tDStar (td W) (tk W) (tv W)) (fun W => mDStar (md W) (mk W) (mv W)) := ⟨fun {χ W W' σ H φ ρ M Q Q'} r m w f h p hp => by
  refine sd.run (χ := p :: χ) (r.hideN hp) (m.hideN hp) ((w.adv (Adv.new hp)).hide) (fun v d H1 φ1 M1 A1 m1 r1 h1 => ?_) h
  have np : p ∉ φ := m.nin hp
  have hp1 : H1 p = some (.dK []) := A1.keep p _ upd_same np
  have np1 : p ∉ φ1 := A1.nin upd_same np
  have hpχ : p ∈ p :: χ := List.mem_cons_self ..
  refine ⟨hp1, ?_⟩
  split at h1
  · rename_i kds e
    obtain ⟨hl, h1⟩ := h1
    obtain ⟨a, kvs, rfl, na, rd, rk⟩ := vDx m1 r1 e
    refine ⟨a, kvs, rfl, fun z => na (by rw [z]; exact hpχ), rd, by rw [rk.len]; exact hl, fun q hq => ?_⟩
    -- the new dict filled, another one beside it
    have R1 := ((r.hideN (o := .dK []) hp).adv A1).updH (o := .dK (mergeK [] kvs)) hpχ
    have m2 := m1.updH (o := .dK (mergeK [] kvs)) hpχ
    have nq1 : q ∉ φ1 := m2.nin hq
    have qp : q ≠ p := fun z => by rw [z, upd_same] at hq; cases hq
    have hq1 : H1 q = none := by rw [upd_ne qp] at hq; exact hq
    have hqH : H q = none := by
      cases e : H q with
      | none => rfl
      | some o => exact absurd hq1 (A1.dom q (by rw [upd_ne qp, e]; simp))
    have w2 : FW K (q :: p :: χ) (upd (upd H1 p (.dK (mergeK [] kvs))) q (.dK [])) φ1 W' W := by
      have A0 : Adv H φ (upd (upd H1 p (.dK (mergeK [] kvs))) q (.dK [])) φ1 := ⟨fun a o e n => by
          have nap : a ≠ p := ne_of_none e hp
          have naq : a ≠ q := ne_of_none e hqH
          rw [upd_ne naq, upd_ne nap]
          exact A1.keep a o (by rw [upd_ne nap]; exact e) n, by
          obtain ⟨ψ, e, z⟩ := A1.pre
          refine ⟨ψ, e, fun a ha => ?_⟩
          have := z a ha
          by_cases ea : a = p
          · rw [ea, upd_same] at this; cases this
          · rw [upd_ne ea] at this; exact this, fun a e => upd_some (upd_some (A1.dom a (upd_some e)))⟩
      exact (w.adv A0).hide.hide
    refine sk.run (χ := q :: p :: χ) (R1.hideN hq) (m2.hideN hq) w2 (fun y dy H2 φ2 M2 A2 m3 ry h2 => ?_) h1
    refine sv.run (χ := q :: p :: χ) ((R1.hideN hq).adv A2) m3 (w2.adv A2) (fun z dz H3 φ3 M3 A3 m4 rz h3 => ?_) h2
    obtain ⟨k, ek, h3⟩ := h3
    have A23 := A2.trans A3
    have hq3 : H3 q = some (.dK []) := A23.keep q _ upd_same nq1
    have hp3 : H3 p = some (.dK (mergeK [] kvs)) := A23.keep p _ (by rw [upd_ne (Ne.symm qp), upd_same]) np1
    have nq3 : q ∉ φ3 := A23.nin upd_same nq1
    have np3 : p ∉ φ3 := A23.nin (by rw [upd_ne (Ne.symm qp), upd_same]) np1
    refine ⟨hq3, hp3, k, z, by rw [keyD_of ry ek], ?_⟩
    have inq : q ∈ q :: p :: χ := List.mem_cons_self ..
    have inp : p ∈ q :: p :: χ := List.mem_cons_of_mem _ (List.mem_cons_self ..)
    have m5 := (((m4.updH (o := .dK [(k, z)]) inq).updH (o := .dK (mergeK (mergeK [] kvs) [(k, z)])) inp).bare).bare
    have k1 : RpK K (upd H1 p (.dK (mergeK [] kvs))) φ1 (p :: χ) kvs kds := rk.at_ hpχ
    have k2 := ((k1.hide hq).at_ (o := .dK []) inq).adv A23
    have k3 := mergeD_run (K := K) (.cons (k := k) rz .nil) (mergeD_run k2 .nil)
    have k4 := (((k3.at_ (o := .dK [(k, z)]) inq).at_ (o := .dK (mergeK (mergeK [] kvs) [(k, z)])) inp).bare).bare
    refine f _ _ _ φ3 _ ?_ m5 (.dct upd_same rfl np3 (fun c => m.hid p c hp) k4) h3
    refine ⟨fun a o e n => ?_, ?_, fun a e => ?_⟩
    · have nap : a ≠ p := ne_of_none e hp
      have naq : a ≠ q := ne_of_none e hqH
      rw [upd_ne nap, upd_ne naq]
      refine A23.keep a o ?_ (A1.nin (o := o) (by rw [upd_ne nap]; exact e) n)
      rw [upd_ne naq, upd_ne nap]
      exact A1.keep a o (by rw [upd_ne nap]; exact e) n
    · obtain ⟨ψ1, e1, z1⟩ := A1.pre
      obtain ⟨ψ2, e2, z2⟩ := A23.pre
      refine ⟨ψ1 ++ ψ2, by rw [e2, e1, List.append_assoc], fun a ha => ?_⟩
      rcases List.mem_append.1 ha with ha | ha
      · have := z1 a ha
        by_cases ea : a = p
        · rw [ea, upd_same] at this; cases this
        · rw [upd_ne ea] at this; exact this
      · have := z2 a ha
        by_cases eq : a = q
        · rw [eq]; exact hqH
        · rw [upd_ne eq] at this
          by_cases ea : a = p
          · rw [ea, upd_same] at this; cases this
          · rw [upd_ne ea] at this
            cases e : H a with
            | none => rfl
            | some o => exact absurd this (A1.dom a (by rw [upd_ne ea, e]; simp))
    · exact upd_some (upd_some (A23.dom a (upd_some (upd_some (A1.dom a (upd_some e))))))
  · exact h1.elim⟩
end
end Z
namespace Z
open PySem PySem.Spec PyProof.Rows L2 Evl
def mCont : MS := fun D ρ M => D.ct ρ M
def mBrk : MS := fun D ρ M => D.bk ρ M
theorem S_cont {K : PySem.W.Frag} : SS K (fun _ => tCont) (fun _ => mCont) := ⟨fun {_ _ _ _ _ _ _ _ _ _} r m w n t b c h => c _ _ _ _ _ Adv.refl r m h⟩
theorem S_brk {K : PySem.W.Frag} : SS K (fun _ => tBreak) (fun _ => mBrk) := ⟨fun {_ _ _ _ _ _ _ _ _ _} r m w n t b c h => b _ _ _ _ _ Adv.refl r m h⟩
end Z

/-! T20: calls whose handed cells are read alone: the callee sees them as data -/
namespace Z
open PySem PySem.Spec PyProof.Rows L2 Evl
section
variable {K : PySem.W.Frag} {χ : List Addr} {φ : List Addr} {H H' : Hp} {M : Mem}
/-- no cell has a list of this length -/
def noLen (M : Mem) (n : Nat) : Bool := M.all fun c => match c with
  | .lst es => !decide (es.length = n)
  | .gl _ => false
  | _ => true
def noGl (M : Mem) : Bool := M.all fun c => match c with
  | .gl _ => false
  | _ => true
mutual
/-- data that cannot be cells of M -/
def apD (M : Mem) : Da → Bool
  | .non => true
  | .bl _ => true
  | .int _ => true
  | .str _ => true
  | .tup ds => apL M ds
  | .lst ds => noLen M ds.length && apL M ds
  | _ => false
def apL (M : Mem) : List Da → Bool
  | [] => true
  | d :: ds => apD M d && apL M ds
end
def apF (M : Mem) : List (Str × Da) → Bool
  | [] => true
  | (_, d) :: ds => apD M d && apF M ds
theorem Mm.atM (m : Mm K H φ χ M) {a : Addr} (h : a ∈ φ) : ∃ d ∈ M, CellAt K H φ χ a d := by
  obtain ⟨n, hn⟩ := List.mem_iff_getElem?.1 h
  obtain ⟨d, h1, h2⟩ := m.has hn
  exact ⟨d, List.mem_of_getElem? h1, h2⟩
mutual
theorem apD_run (g : noGl M = true) (m : Mm K H φ χ M) : ∀ {d : Da} {v : V}, apD M d = true → Rp K H [] χ v d → Rp K H φ χ v d
  | .non, _, _, h => by cases h; exact .non
  | .bl _, _, _, h => by cases h; exact .bl _
  | .int _, _, _, h => by cases h; exact .int _
  | .str _, _, _, h => by
    cases h with
    | str l => exact .str l
  | .tup ds, _, p, h => by
    unfold apD at p
    cases h with
    | tup h n1 n2 r =>
      refine .tup h (fun q => ?_) n2 (apL_run g m p r)
      obtain ⟨d, hd, c⟩ := m.atM q
      cases d with
      | lst es => obtain ⟨vs, e, _⟩ := c; rw [h] at e; cases e
      | dct es => obtain ⟨vs, e, _⟩ := c; rw [h] at e; cases e
      | obj _ es => obtain ⟨dx, vs, e, _⟩ := c; rw [h] at e; cases e
      | gl x =>
        have := List.all_eq_true.1 g _ hd
        cases this
      | _ => exact c
  | .lst ds, _, p, h => by
    unfold apD at p
    rw [Bool.and_eq_true] at p
    cases h with
    | lst h n1 n2 r =>
      refine .lst h (fun q => ?_) n2 (apL_run g m p.2 r)
      obtain ⟨d, hd, c⟩ := m.atM q
      cases d with
      | lst es =>
        obtain ⟨vs, e, r2⟩ := c
        rw [h] at e
        cases e
        have := List.all_eq_true.1 p.1 _ hd
        simp only [Bool.not_eq_true', decide_eq_false_iff_not] at this
        exact this (by rw [← r2.len, r.len])
      | dct es => obtain ⟨vs, e, _⟩ := c; rw [h] at e; cases e
      | obj _ es => obtain ⟨dx, vs, e, _⟩ := c; rw [h] at e; cases e
      | gl x =>
        have := List.all_eq_true.1 g _ hd
        cases this
      | _ => exact c
  | .dct _, _, p, _ => by cases p
  | .obj _ _, _, p, _ => by cases p
  | .ty _, _, p, _ => by cases p
  | .gl _, _, p, _ => by cases p
  | .kl _, _, p, _ => by cases p
  | .kt _, _, p, _ => by cases p
  | .cell _, _, p, _ => by cases p
  | .exv _ _ _ _, _, p, _ => by cases p
theorem apL_run (g : noGl M = true) (m : Mm K H φ χ M) : ∀ {ds : List Da} {vs : List V}, apL M ds = true → RpL K H [] χ vs ds → RpL K H φ χ vs ds
  | [], _, _, h => by cases h; exact .nil
  | d :: ds, _, p, h => by
    unfold apL at p
    rw [Bool.and_eq_true] at p
    cases h with
    | cons h r => exact .cons (apD_run g m p.1 h) (apL_run g m p.2 r)
end
theorem apF_run (g : noGl M = true) (m : Mm K H φ χ M) : ∀ {ds : List (Str × Da)} {vs : List (Str × V)}, apF M ds = true → RpF K H [] χ vs ds → RpF K H φ χ vs ds
  | [], _, _, h => by cases h; exact .nil
  | (_, d) :: ds, _, p, h => by
    unfold apF at p
    rw [Bool.and_eq_true] at p
    cases h with
    | cons h r => exact .cons (apD_run g m p.1 h) (apF_run g m p.2 r)
/-- all that stood stands -/
theorem Adv.all (A : Adv H [] H' []) : Adv H φ H' φ := ⟨fun a o h _ => A.keep a o h (by simp), ⟨[], by simp, fun _ h => by cases h⟩, A.dom⟩
theorem Mm.stay (m : Mm K H φ χ M) (A : Adv H [] H' []) : Mm K H' φ χ M where
  nd := m.nd
  len := m.len
  dis := m.dis
  hid := fun a h => A.dom a (m.hid a h)
  at_ := fun n a d h1 h2 => by
    have c := m.at_ n a d h1 h2
    refine c.adv A.all ?_
    have := c.in_
    cases e : H a with
    | none => exact absurd e this
    | some o => exact A.keep a o e (by simp)
theorem Mm.bareE (m : Mm K H φ χ M) : Mm K H [] χ [] := ⟨.nil, rfl, (fun _ h => by cases h), m.hid, fun n a d h => by simp at h⟩
theorem Mm.nilE {φ : List Addr} (m : Mm K H φ χ []) : φ = [] := List.length_eq_zero_iff.1 m.len
def scal : Da → Bool
  | .non => true
  | .bl _ => true
  | .int _ => true
  | .str _ => true
  | _ => false
theorem scal_run {v : V} {d : Da} (p : scal d = true) (h : Rp K H [] χ v d) : Rp K H φ χ v d := by
  cases h with
  | non => exact .non
  | bl _ => exact .bl _
  | int _ => exact .int _
  | str l => exact .str l
  | _ => cases p
variable {as : WX → TA} {ms : WD → MA}
def mCallFS (f : MP) (s : MA) (W : WD) : ME := fun ρ M Q => s ρ M fun ds M1 => noGl M1 = true ∧ ∃ es, mapO (frz 0 4 M1) ds = some es ∧ f es [] (fun d M2 => M2 = [] ∧ scal d = true ∧ Q d M1) (fun c fs M2 => M2 = [] ∧ apF M1 fs = true ∧ W c fs ρ M1)
theorem xd_out (g : noGl M = true) (m : Mm K H φ χ M) {dd : Addr} {vfs : List (Str × V)} (h : H dd = some (.xd vfs)) : dd ∉ φ := fun q => by
  obtain ⟨d, hd, c⟩ := m.atM q
  cases d with
  | lst es => obtain ⟨vs, e, _⟩ := c; rw [h] at e; cases e
  | dct es => obtain ⟨vs, e, _⟩ := c; rw [h] at e; cases e
  | obj _ es => obtain ⟨dx, vs, e, _⟩ := c; rw [h] at e; cases e
  | gl x =>
    have := List.all_eq_true.1 g _ hd
    cases this
  | _ => exact c
theorem E_callFS (f : MP) (s : SA K as ms) : SE K (fun W => tCallS (up K f) (WE W) (as W)) (fun W => mCallFS f (ms W) W) := ⟨fun {χ W W' σ H φ ρ M Q Q'} r m w fe h =>
  s.run r m w (fun vs ds H1 φ1 M1 A1 m1 r1 ⟨g, es, e, h1⟩ => ⟨[], χ, [], es, _, _, mapO_run (fun h e => frz_run (n := 0) m1 4 h e) r1 e, m1.bareE, (fun v d H2 φ2 M2 A2 m2 rv q => by
    obtain ⟨rfl, q2, q3⟩ := q
    obtain rfl := m2.nilE
    exact fe _ _ _ _ _ (A1.trans A2.all) (m1.stay A2) (scal_run q2 rv) q3), (fun c fs vfs dd H2 φ2 M2 A2 m2 hd n1 n2 rf q => by
    obtain ⟨rfl, q2, q3⟩ := q
    obtain rfl := m2.nilE
    have m3 := m1.stay A2
    exact w _ _ _ _ _ _ _ _ _ (A1.trans A2.all) (r.adv (A1.trans A2.all)) m3 hd (xd_out g m3 hd) n2 (apF_run g m3 q2 rf) q3), h1⟩) h⟩
/-- dict(pairs) that is changed later -/
theorem N_dictP {as : WX → TA} {ms : WD → MA} (s : SA K as ms) : SN K (fun W => tCB (rDictP K) (as W)) (fun W => mCB nDictP (ms W)) := ⟨fun r m w sh f h =>
  s.run r m w (fun vs ds H1 φ1 M1 A1 m1 r1 h1 => by
    unfold nDictP at h1
    split at h1
    · obtain ⟨v, rfl, h2⟩ := r1.one
      split at h1
      · rename_i es e
        split at h1
        · rename_i ks e2
          obtain ⟨a, vs, rfl, hs, r⟩ := vL m1 h2 e
          obtain ⟨ps, kvs, rfl, pp, rk⟩ := pairsD_of m1 r e2
          exact ⟨a, ps, kvs, rfl, hs, pp, fun p hp => SN.dct f A1 m1 hp (mergeD_run rk .nil) h1⟩
        · exact h1.elim
      · exact h1.elim
    · exact h1.elim) h⟩
/-! ### `a or b`, `a and b` of plain values -/
def truD : Da → Option Bool
  | .non => some false
  | .bl c => some c
  | .int i => some (i != 0)
  | .str z => some ((z.length : Int) != 0)
  | _ => none
theorem truD_run {v : V} {d : Da} {k : Bool} (h : Rp K H φ χ v d) (e : truD d = some k) : TruV K v H k := by
  cases h with
  | non => cases e; rfl
  | bl c => cases e; rfl
  | int i => cases e; rfl
  | str l => cases e; exact ⟨l, rfl⟩
  | _ => cases e
variable {ta tb : WX → TE} {ma mb : WD → ME}
def mOrT (ma mb : ME) : ME := fun ρ M Q => ma ρ M fun x M1 => match truD x with
  | some c => if c = true then Q x M1 else mb ρ M1 Q
  | none => False
theorem E_orT (a : SE K ta ma) (b : SE K tb mb) : SE K (fun W => tOrT K (ta W) (tb W)) (fun W => mOrT (ma W) (mb W)) := ⟨fun r m w f h =>
  a.run r m w (fun v d H1 φ1 M1 A1 m1 r1 h1 => by
    split at h1
    · rename_i c e
      refine ⟨c, truD_run r1 e, ?_⟩
      cases c with
      | true => exact f _ _ _ _ _ A1 m1 r1 h1
      | false => exact b.run (r.adv A1) m1 (w.adv A1) (f.adv A1) h1
    · exact h1.elim) h⟩
def mAndT (ma mb : ME) : ME := fun ρ M Q => ma ρ M fun x M1 => match truD x with
  | some c => if c = true then mb ρ M1 Q else Q x M1
  | none => False
theorem E_andT (a : SE K ta ma) (b : SE K tb mb) : SE K (fun W => tAndT K (ta W) (tb W)) (fun W => mAndT (ma W) (mb W)) := ⟨fun r m w f h =>
  a.run r m w (fun v d H1 φ1 M1 A1 m1 r1 h1 => by
    split at h1
    · rename_i c e
      refine ⟨c, truD_run r1 e, ?_⟩
      cases c with
      | true => exact b.run (r.adv A1) m1 (w.adv A1) (f.adv A1) h1
      | false => exact f _ _ _ _ _ A1 m1 r1 h1
    · exact h1.elim) h⟩
end
end Z

/-! T21: texts: split, find, startswith, int of a text; zip -/
namespace Z
open PySem PySem.Spec PyProof.Rows L2 Evl
section
variable {K : PySem.W.Frag} {χ φ : List Addr} {H : Hp} {M : Mem} {v : V} {d : Da}
theorem RpL.ofStrs : ∀ {zs : List Str}, (∀ z ∈ zs, z.length ≤ sizeLine) → RpL K H φ χ (zs.map V.str) (zs.map Da.str)
  | [], _ => .nil
  | z :: _, h => .cons (.str (h z (List.mem_cons_self ..))) (RpL.ofStrs fun y hy => h y (List.mem_cons_of_mem _ hy))
def rSplitA : V → List V → Hp → VK → Prop := fun x xs H Q => ∃ a b, x = .str a ∧ xs = [.str b] ∧ (b.length == 0) = false ∧ a.length + 2 ≤ sizeLine ∧ rNewStrs (Txt.split a b) H Q
def nSplit : Da → List Da → Mem → TK → Prop := fun x ds M Q => match x, ds with
  | .str a, [.str b] => (b.length == 0) = false ∧ a.length + 2 ≤ sizeLine ∧ (∀ y ∈ Txt.split a b, y.length ≤ sizeLine) ∧ Q (.lst ((Txt.split a b).map Da.str)) M
  | _, _ => False
theorem M_split : SMr K rSplitA nSplit := by
  intro χ H φ M x dx xs dxs Q Q' m hx hxs f h
  unfold nSplit at h
  split at h
  · obtain ⟨w, rfl, h1⟩ := hxs.one
    obtain ⟨rfl, _⟩ := vStr hx
    obtain ⟨rfl, _⟩ := vStr h1
    exact ⟨_, _, rfl, rfl, h.1, h.2.1, fun p hp => f.lst m (RpL.ofStrs h.2.2.1) hp h.2.2.2⟩
  · exact h.elim
def rFindA : V → List V → Hp → VK → Prop := fun x xs H Q => ∃ a b, x = .str a ∧ xs = [.str b] ∧ Q (.int (Txt.find a b)) H
def nFind : Da → List Da → Mem → TK → Prop := fun x ds M Q => match x, ds with
  | .str a, [.str b] => Q (.int (Txt.find a b)) M
  | _, _ => False
theorem M_find : SMr K rFindA nFind := by
  intro χ H φ M x dx xs dxs Q Q' m hx hxs f h
  unfold nFind at h
  split at h
  · obtain ⟨w, rfl, h1⟩ := hxs.one
    obtain ⟨rfl, _⟩ := vStr hx
    obtain ⟨rfl, _⟩ := vStr h1
    exact ⟨_, _, rfl, rfl, f.pure m (.int _) h⟩
  · exact h.elim
def rStartsA : V → List V → Hp → VK → Prop := fun x xs H Q => ∃ a b, x = .str a ∧ xs = [.str b] ∧ Q (.bl (Txt.startswith a b)) H
def nStarts : Da → List Da → Mem → TK → Prop := fun x ds M Q => match x, ds with
  | .str a, [.str b] => Q (.bl (Txt.startswith a b)) M
  | _, _ => False
theorem M_starts : SMr K rStartsA nStarts := by
  intro χ H φ M x dx xs dxs Q Q' m hx hxs f h
  unfold nStarts at h
  split at h
  · obtain ⟨w, rfl, h1⟩ := hxs.one
    obtain ⟨rfl, _⟩ := vStr hx
    obtain ⟨rfl, _⟩ := vStr h1
    exact ⟨_, _, rfl, rfl, f.pure m (.bl _) h⟩
  · exact h.elim
/-- int of an int, a truth or a text that is a number -/
def rIntT : List V → Hp → VK → Prop := fun xs H Q => rIntA xs H Q ∨ ∃ a n, xs = [.str a] ∧ PySem.intText? a = some n ∧ a.length ≤ 640 ∧ Q (.int n) H
theorem call_intT {X : Cx} : CallR X (.type "int") rIntT := CallR.or call_intA call_int_str
def nIntT : List Da → Mem → TK → Prop := fun ds M Q => match ds with
  | [.int i] => Q (.int i) M
  | [.bl k] => Q (.int (if k then 1 else 0)) M
  | [.str z] => z.length ≤ 640 ∧ ∃ n, PySem.intText? z = some n ∧ Q (.int n) M
  | _ => False
theorem C_intT : SC K rIntT nIntT := by
  intro χ H φ M x dx Q Q' m hx f h
  unfold nIntT at h
  split at h
  · obtain ⟨v, rfl, h1⟩ := hx.one
    obtain rfl := vInt h1
    exact .inl (.inl ⟨_, rfl, f.pure m (.int _) h⟩)
  · obtain ⟨v, rfl, h1⟩ := hx.one
    obtain rfl := vBl h1
    exact .inl (.inr ⟨_, rfl, f.pure m (.int _) h⟩)
  · obtain ⟨v, rfl, h1⟩ := hx.one
    obtain ⟨rfl, _⟩ := vStr h1
    obtain ⟨l, n, e, q⟩ := h
    exact .inr ⟨_, n, rfl, e, l, f.pure m (.int _) q⟩
  · exact h.elim
/-! zip of two lists or two tuples -/
def zipD (ds es : List Da) : List Da := List.zipWith (fun a b => .tup [a, b]) ds es
def mZip (s : MA) : MI := fun ρ M R => s ρ M fun xs M1 => match xs with
  | [x, y] => match look M1 x, look M1 y with
    | .lst ds, .lst es => R ⟨zipD ds es, fun M2 => look M2 x = .lst ds ∧ look M2 y = .lst es⟩ M1
    | .tup ds, .tup es => R ⟨zipD ds es, fun M2 => look M2 x = .tup ds ∧ look M2 y = .tup es⟩ M1
    | _, _ => False
  | _ => False
theorem zipD_at {ds es : List Da} {i : Nat} {a b : Da} (h1 : ds[i]? = some a) (h2 : es[i]? = some b) : (zipD ds es)[i]? = some (.tup [a, b]) := by
  unfold zipD
  rw [List.getElem?_zipWith, h1, h2]
theorem zipD_len (ds es : List Da) : (zipD ds es).length = min ds.length es.length := List.length_zipWith
variable {as : WX → TA} {ms : WD → MA}
theorem I_zip (s : SA K as ms) : SI K (fun W => RZ.iZipA K (as W)) (fun W => mZip (ms W)) := ⟨fun {χ W W' σ H φ ρ M R R'} r m w f h => by
  refine s.run r m w (fun vs xs H1 φ1 M1 A1 m1 r1 h1 => ?_) h
  split at h1
  · rename_i x y
    obtain ⟨v, u, rfl, hv, hu⟩ := r1.two
    split at h1
    · rename_i ds es e1 e2
      obtain ⟨a, vs, rfl, hs, rl⟩ := vL m1 hv e1
      obtain ⟨b, us, rfl, hs', rl'⟩ := vL m1 hu e2
      refine ⟨a, b, vs, us, rfl, .inl ⟨hs, hs', f _ _ _ _ _ A1 m1 ?_ (And.intro e1 e2) h1⟩⟩
      intro H φ M χ1 hχ A m st
      obtain ⟨a2, ws, ea, hs2, rl2⟩ := vL m (Rp.at1 hχ A hv) st.1
      cases ea
      obtain ⟨b2, ws', eb, hs3, rl3⟩ := vL m (Rp.at1 hχ A hu) st.2
      cases eb
      refine ⟨fun i hi => ?_, ⟨ws, ws', hs2, hs3, by
        show ws.length ≤ (zipD ds es).length ∨ ws'.length ≤ (zipD ds es).length
        rw [zipD_len, rl2.len, rl3.len]
        omega⟩⟩
      have hi : i < min ds.length es.length := by rw [← zipD_len]; exact hi
      obtain ⟨y1, hy1, ry1⟩ := rl2.get (i := i) (d := ds[i]) (by simp [show i < ds.length by omega])
      obtain ⟨y2, hy2, ry2⟩ := rl3.get (i := i) (d := es[i]) (by simp [show i < es.length by omega])
      refine ⟨⟨ws, ws', y1, y2, hs2, hs3, hy1, hy2⟩, ?_⟩
      rintro u H' ⟨T, z1, z2, rfl, hT, rfl, hz1, hz2⟩
      have ez1 : z1 = y1 := Option.some.inj ((hz1 ws hs2).symm.trans hy1)
      have ez2 : z2 = y2 := Option.some.inj ((hz2 ws' hs3).symm.trans hy2)
      subst ez1 ez2
      refine ⟨_, zipD_at (List.getElem?_eq_getElem (by omega)) (List.getElem?_eq_getElem (by omega)), Adv.new hT, m.new hT, ?_⟩
      exact .tup upd_same (m.nin hT) (fun c => m.hid T c hT) (.cons (ry1.adv (Adv.new hT)) (.cons (ry2.adv (Adv.new hT)) .nil))
    · rename_i ds es e1 e2
      obtain ⟨a, vs, rfl, hs, rl⟩ := vT m1 hv e1
      obtain ⟨b, us, rfl, hs', rl'⟩ := vT m1 hu e2
      refine ⟨a, b, vs, us, rfl, .inr ⟨hs, hs', f _ _ _ _ _ A1 m1 ?_ (And.intro e1 e2) h1⟩⟩
      intro H φ M χ1 hχ A m st
      obtain ⟨a2, ws, ea, hs2, rl2⟩ := vT m (Rp.at1 hχ A hv) st.1
      cases ea
      obtain ⟨b2, ws', eb, hs3, rl3⟩ := vT m (Rp.at1 hχ A hu) st.2
      cases eb
      refine ⟨fun i hi => ?_, ⟨ws, ws', hs2, hs3, by
        show ws.length ≤ (zipD ds es).length ∨ ws'.length ≤ (zipD ds es).length
        rw [zipD_len, rl2.len, rl3.len]
        omega⟩⟩
      have hi : i < min ds.length es.length := by rw [← zipD_len]; exact hi
      obtain ⟨y1, hy1, ry1⟩ := rl2.get (i := i) (d := ds[i]) (by simp [show i < ds.length by omega])
      obtain ⟨y2, hy2, ry2⟩ := rl3.get (i := i) (d := es[i]) (by simp [show i < es.length by omega])
      refine ⟨⟨ws, ws', y1, y2, hs2, hs3, hy1, hy2⟩, ?_⟩
      rintro u H' ⟨T, z1, z2, rfl, hT, rfl, hz1, hz2⟩
      have ez1 : z1 = y1 := Option.some.inj ((hz1 ws hs2).symm.trans hy1)
      have ez2 : z2 = y2 := Option.some.inj ((hz2 ws' hs3).symm.trans hy2)
      subst ez1 ez2
      refine ⟨_, zipD_at (List.getElem?_eq_getElem (by omega)) (List.getElem?_eq_getElem (by omega)), Adv.new hT, m.new hT, ?_⟩
      exact .tup upd_same (m.nin hT) (fun c => m.hid T c hT) (.cons (ry1.adv (Adv.new hT)) (.cons (ry2.adv (Adv.new hT)) .nil))
    · exact h1.elim
  · exact h1.elim⟩
end
end Z

/-! T22: defs whose exceptions have no context (for a try whose suite raises from None) -/
namespace Z
open PySem PySem.Spec PyProof.Rows L2 Evl
section
variable {X : Cx} {pins : List (Addr × Obj)} {σ : L2.St} {H : Hp} {s : Shared}
theorem skyImp {B h : Heap} {l : List Env} {a L : Addr} {Z Z' : Obj → Prop} (z : ∀ o, Z o → Z' o) (x : L2.Sky B l a Z L h) : L2.Sky B l a Z' L h := by
  rcases x with ⟨s, g, f, oe, vs, e, zo, d, v⟩ | x | x
  · exact .inl ⟨s, g, f, oe, vs, e, z _ zo, d, v⟩
  · exact .inr (.inl (L2H.flyingZ_imp z x))
  · exact .inr (.inr ⟨x.1, x.2.1, x.2.2.1, L2H.tracedZ_imp z x.2.2.2⟩)
theorem passLN {X : Cx} : Passes (L2N.CX X.prog X.w) X E0 := fun _ _ _ _ _ _ _ h => by
  obtain ⟨_, _, _, _, _, _, _, _, _, _, _, _, z⟩ := h
  exact z.elim
theorem passAtLN {X : Cx} (σ : L2.St) : PassesAt (L2N.CX X.prog X.w) X σ E0 := fun pins H s e s' I h => passLN pins σ H s e s' I h
/-- who takes all takes those without a context -/
theorem takesN {W : WX} (tk : L2.Takes X W) : L2N.Takes X W := fun u s' ⟨a, B, sI, pins, σ, H, cls, d, e, I, nb, up, sky, na, os, ag, w⟩ => tk u s' ⟨a, B, sI, pins, σ, H, cls, d, e, I, nb, up, skyImp (fun _ z => z.zc) sky, na, os, ag, w⟩
theorem pe_callGN {W : WX} {k : Nat} {x : Str} {ps : List Str} {sp : Sp} {e : Expr} {es : List Expr} {t : TA} {p pos : Pos} (F : Fok X.prog X.w X.K X.mg X.base (L2N.CX X.prog X.w) k x ps sp) (hr : Room k X.A) (hg : Gl X x) (tk : L2N.Takes X W)
    (ha : PA X (e :: es) t) (hdb : (x == ("__debug__" : Str)) = false := by decide) (he : starEach (e :: es) X.env = (false, eval e X.env) :: starEach es X.env := by rfl) (hpl : (backTo pos (starEach es X.env)).any (·.1) = false := by rfl) :
    PE X (.Call (.Name x p) (e :: es) [] pos) (tCallS sp (WE W) t) :=
  let ⟨_, h1, h2⟩ := F.ex
  pe_callS h1 hr hg F.hm F.kp h2 (fun σ => L2N.passAt tk σ) ha hdb he hpl
theorem takes_lockN {W : WX} {d : Addr} {od : Obj} {u : HO} (tk : L2N.Takes X W) (hn : ∀ o' u', X.H_0 d ≠ some (.frz o' u')) : L2N.Takes X (lkW W d od u) := fun e s' ⟨a, B, sI, pins, σ, H, cls, dd, eu, I, nb, up, sky, na, os, ag, e1, w⟩ =>
  tk e s' ⟨a, B, sI, pins, σ, _, cls, dd, eu, I.unlock e1 hn, nb, up, sky, by rw [upd_ne (fun q => by rw [q, e1] at na; cases na)]; exact na, os, ag, w⟩
theorem ps_lockWN {st : Stmt} {t : WX → TS} {W : WX} (tk : L2N.Takes X W) (h : ∀ W2, L2N.Takes X W2 → PS X st (t W2)) : PS X st (tLockW t W) := by
  refine ⟨fun pins s σ H D I hw => ?_⟩
  rcases hw with ⟨d, u, hd, mu, hw⟩ | hw
  · obtain ⟨od, I1⟩ := I.lock hd mu
    have hn := I.nofrz hd mu
    refine thn ((h _ (takes_lockN tk hn)).run pins s σ _ _ I1 (hw od)) fun f s1 q => ?_
    cases f with
    | next => obtain ⟨σ', H', I2, e, q⟩ := q; exact ⟨σ', _, I2.unlock e hn, q⟩
    | brk => obtain ⟨σ', H', I2, e, q⟩ := q; exact ⟨σ', _, I2.unlock e hn, q⟩
    | cont => obtain ⟨σ', H', I2, e, q⟩ := q; exact ⟨σ', _, I2.unlock e hn, q⟩
    | ret v => obtain ⟨x, σ', H', I2, r, e, q⟩ := q; exact ⟨x, σ', _, I2.unlock e hn, r, q⟩
  · exact (h W tk).run pins s σ H D I hw
/-- try: .. except x: a suite that raises out of it -/
theorem ps_tryH {x : Str} {c : Value} {body suite : List Stmt} {b₀ : Stmt} {np pos pos' : Pos} {tb : WX → TS} {ts : TS} {Wout : WX} (hs : X.stack = X.env :: X.outer) (hf : X.env.frame = some X.env.locals) (hc : Names X x c)
    (hpa : ∀ hd : Option Value, PassesOwnAt (model X.prog X.w) (X.A.mark hd) X.A X.env X.xe) (tk : L2.Takes X Wout)
    (hb : ∀ (W : WX) (pn : List (Addr × Obj)) (xe : Value → Shared → Prop), L2N.Takes (X.tr pn xe) W → PassesOwn (model X.prog X.w) X.A X.env xe → PSs (X.tr pn xe) body (tb W))
    (hsu : ∀ (a : Addr) (oe : Obj) (pn : List (Addr × Obj)), L2.Takes (L2H.suiteX X a ((a, oe) :: pn)) Wout → L2H.HotC (L2H.suiteX X a ((a, oe) :: pn)) → PSs (L2H.suiteX X a ((a, oe) :: pn)) (b₀ :: suite) ts) :
    PS X (.Try body [.ExceptHandler (some (.Name x np)) none (b₀ :: suite) pos'] [] [] pos) (fun D σ H => tb (wMix X.K Wout D [(c, none, fun _ _ _ => ts)]) D σ H) :=
  L2H.ps_try_onlyX (ts := fun _ _ _ => ts) hs hf hc hpa tk (fun W pn xe t1 _ po => hb W pn xe t1 po) (fun a oe _ _ pn _ _ t hot => hsu a oe pn t hot)
end
section
variable {K : PySem.W.Frag}
theorem mixX_run {χ φ : List Addr} {H : Hp} {D : Ends} {D' : En} {W : WX} {W' : WD} {X : ExT} (hX : ExOk K X) {x : Str} {ts : WX → TS} {ms : WD → MS} (s : SS K ts ms) (w : FW K χ H φ W' W) (n : FN K χ H φ D'.nx D.nx) (t : FE K χ H φ D'.rt D.rt) (b : FN K χ H φ D'.bk D.bk) (c : FN K χ H φ D'.ct D.ct) :
    FW K χ H φ (mMix X W' D' [(x, none, fun _ _ => ms W')]) (wMix K W D [(.ref (He.ga K x), none, fun _ _ _ => ts W)]) := by
  intro cl fs vfs dd σ' H' φ' ρ' M' A r' m' hd n1 n2 rf h
  simp only [mMix] at h
  split at h
  · rename_i e
    refine ⟨true, hX _ _ _ e, fun _ a ha => ?_, (fun (q : true = false) => by cases q)⟩
    exact s.run r' m' (w.adv A) (n.adv A) (t.adv A) (b.adv A) (c.adv A) (h.2 a dd)
  · rename_i e
    exact ⟨false, hX _ _ _ e, (fun (q : false = true) => by cases q), fun _ => w _ _ _ _ _ _ _ _ _ A r' m' hd n1 n2 rf h⟩
  · exact h.elim
theorem S_tryX {X : ExT} (hX : ExOk K X) {x : Str} {tb ts : WX → TS} {mb ms : WD → MS} (s : SS K tb mb) (k : SS K ts ms) : SS K (fun W => tTry K tb W [(.ref (He.ga K x), none, fun _ _ _ => ts W)]) (fun W => mTry X [(x, none, fun _ _ => ms W)] mb W) := ⟨fun r m w n t b c h =>
  s.run r m (mixX_run hX k w n t b c) n t b c h⟩
end
/-! isinstance of an instance with a built-in type; lists whose items are the same objects -/
section
variable {K : PySem.W.Frag}
def nIsiB (c : Str) : List Da → Mem → TK → Prop := fun ds M Q => match ds with
  | [x, .ty T] => match look M x with
    | .obj c' _ => c' = c ∧ T ∈ tyTs ∧ Q (.bl false) M
    | _ => nIsi [x, .ty T] M Q
  | _ => False
theorem C_isiB {c : Str} (I : IsO K c) : SC K (rIsi K) (nIsiB c) := by
  intro χ H φ M x dx Q Q' m hx f h
  unfold nIsiB at h
  split at h
  · rename_i d T
    obtain ⟨v, w, rfl, h1, h2⟩ := hx.two
    split at h
    · rename_i c' fds e
      obtain ⟨rfl, hT, h⟩ := h
      cases h2
      obtain ⟨a, dd, fs, rfl, ha, rf⟩ := vO m h1 e
      exact ⟨_, .ty T, _, _, false, rfl, .ty T, I.tyX ha, I.no T hT, f.pure m (.bl _) h⟩
    · exact C_isi m (.cons h1 (.cons h2 .nil)) f h
  · exact h.elim
/-- items that are the same object or scalars -/
def sameD : Da → Bool
  | .cell _ => true
  | d => scal d
def nNeI : MO := fun x y M Q => ∃ ds, lookE M x = .lst ds ∧ lookE M y = .lst ds ∧ ds.all sameD = true ∧ Q (.bl false) M
def nNeX : MO := fun x y M Q => nNeE x y M Q ∨ nNeI x y M Q
theorem same_run {χ φ : List Addr} {H : Hp} {v w : V} {d : Da} (h : sameD d = true) (r1 : Rp K H φ χ v d) (r2 : Rp K H φ χ w d) : EqJ K H 60 v w true := by
  cases d with
  | cell n =>
    cases r1 with
    | cell e1 =>
      cases r2 with
      | cell e2 =>
        rw [e1] at e2
        cases e2
        exact .inl ⟨_, rfl, rfl, rfl⟩
  | non => cases r1; cases r2; exact .inr ⟨.old (.sc (x := .non) (y := .non) rfl), fun a e => by cases e⟩
  | bl b =>
    cases r1; cases r2
    have h := EqR.sc (K := K) (H := H) (E := EqJ K H 59) (x := .bl b) (y := .bl b) rfl
    rw [decide_eq_true rfl] at h
    exact .inr ⟨.old h, fun a e => by cases e⟩
  | int b =>
    cases r1; cases r2
    have h := EqR.sc (K := K) (H := H) (E := EqJ K H 59) (x := .int b) (y := .int b) rfl
    rw [decide_eq_true rfl] at h
    exact .inr ⟨.old h, fun a e => by cases e⟩
  | str b =>
    cases r1; cases r2
    have h := EqR.sc (K := K) (H := H) (E := EqJ K H 59) (x := .str b) (y := .str b) rfl
    rw [decide_eq_true rfl] at h
    exact .inr ⟨.old h, fun a e => by cases e⟩
  | _ => cases h
theorem sames_run {χ φ : List Addr} {H : Hp} : ∀ {vs ws : List V} {ds : List Da}, ds.all sameD = true → RpL K H φ χ vs ds → RpL K H φ χ ws ds → EqZ (EqJ K H 60) vs ws (ds.map fun _ => true)
  | _, _, _, _, .nil, r2 => by cases r2; exact .nil
  | _, _, _, h, .cons h1 r1, r2 => by
    rw [List.all_cons, Bool.and_eq_true] at h
    cases r2 with
    | cons h2 r2 => exact .cons (same_run h.1 h1 h2) (sames_run h.2 r1 r2)
theorem O_neX : SO K (rNeE K) nNeX := by
  intro χ H φ M x y dx dy Q Q' m hx hy f h
  rcases h with h | ⟨ds, e1, e2, hs, q⟩
  · exact O_neE m hx hy f h
  · obtain ⟨a, vs, rfl, ha, r1⟩ := vLE m hx e1
    obtain ⟨b, ws, rfl, hb, r2⟩ := vLE m hy e2
    have z := sames_run hs r1 r2
    have all : (ds.map fun _ => true).all id = true := List.all_eq_true.2 fun c hc => by
      obtain ⟨_, _, rfl⟩ := List.mem_map.1 hc
      rfl
    have l : vs.length = ws.length := by rw [r1.len, r2.len]
    refine ⟨true, ?_, f.pure m (.bl _) q⟩
    have h := EqR.lst (K := K) (H := H) (E := EqJ K H 60) (SqL.of ha) (SqL.of hb) l z
    rw [all] at h
    exact .old h
end
end Z

/-! T23: str(o) and o == y over instances that are cells: they are handed on as data -/
namespace Z
open PySem PySem.Spec PyProof.Rows L2 Evl
section
variable {K : PySem.W.Frag}
def nStrOF (c : Str) (pm : List Nat) (f : MP) (dfs : List Da) : List Da → Mem → TK → Prop := fun ds M Q => match ds with
  | [x] => ∃ fds, frz 0 4 M x = some (.obj c fds) ∧ f (perm pm ([.obj c fds] ++ dfs)) [] (fun d M' => M' = [] ∧ ∃ z : Str, d = .str z ∧ Q (.str z) M) XD0
  | _ => False
theorem C_strOF {c : Str} {pm : List Nat} {f : MP} {dvs : List V} {dfs : List Da} (D : DfL K dvs dfs) : SC K (rStrO K c pm (up K f) dvs) (nStrOF c pm f dfs) := by
  intro χ H φ M x dx Q Q' m hx fe h
  unfold nStrOF at h
  split at h
  · obtain ⟨fds, e, h⟩ := h
    obtain ⟨v, rfl, h1⟩ := hx.one
    have h2 : Rp K H [] χ v (.obj c fds) := frz_run (n := 0) m 4 h1 e
    obtain ⟨a, dd, fs, rfl, ha, rf⟩ := vO m.bareE h2 rfl
    refine ⟨a, dd, fs, rfl, ha, [], χ, [], _, _, _, ((RpL.cons h2 .nil).app (D _ _ _)).perm pm, m.bareE, ?_, FX0, h⟩
    rintro v d H' φ' M' A m' r' ⟨rfl, z, rfl, q⟩
    obtain ⟨rfl, hz⟩ := vStr r'
    obtain rfl := m'.nilE
    exact ⟨z, rfl, fe _ _ _ _ _ A.all (m.stay A) (.str hz) q⟩
  · exact h.elim
def nEqOF (c : Str) (pm : List Nat) (f : MP) (dfs : List Da) : MO := fun x y M Q => ∃ f1 f2, frz 0 4 M x = some (.obj c f1) ∧ frz 0 4 M y = some (.obj c f2) ∧
  f (perm pm ([.obj c f1, .obj c f2] ++ dfs)) [] (fun d M' => M' = [] ∧ ∃ b : Bool, d = .bl b ∧ Q (.bl b) M) XD0
theorem O_eqOF {c : Str} {pm : List Nat} {f : MP} {dvs : List V} {dfs : List Da} (D : DfL K dvs dfs) : SO K (rEqO K c pm (up K f) dvs) (nEqOF c pm f dfs) := by
  intro χ H φ M x y dx dy Q Q' m hx hy fe h
  obtain ⟨f1, f2, e1, e2, h⟩ := h
  have h1 : Rp K H [] χ x (.obj c f1) := frz_run (n := 0) m 4 hx e1
  have h2 : Rp K H [] χ y (.obj c f2) := frz_run (n := 0) m 4 hy e2
  obtain ⟨a, dd, fs, rfl, ha, rf⟩ := vO m.bareE h1 rfl
  obtain ⟨b, de, gs, rfl, hb, rg⟩ := vO m.bareE h2 rfl
  refine ⟨a, b, dd, de, fs, gs, rfl, rfl, ha, hb, [], χ, [], _, _, _, ((RpL.cons h1 (.cons h2 .nil)).app (D _ _ _)).perm pm, m.bareE, ?_, FX0, h⟩
  rintro v d H' φ' M' A m' r' ⟨rfl, i, rfl, q⟩
  obtain rfl := vBl r'
  obtain rfl := m'.nilE
  exact ⟨i, rfl, fe _ _ _ _ _ A.all (m.stay A) (.bl i) q⟩
variable {as : WX → TA} {ms : WD → MA}
/-- f(..) that does not raise, its arguments handed on as data -/
def mCallF (f : MP) (s : MA) : ME := fun ρ M Q => s ρ M fun ds M1 => ∃ es, mapO (frz 0 4 M1) ds = some es ∧ f es [] (fun d M2 => M2 = [] ∧ scal d = true ∧ Q d M1) XD0
theorem E_callF (f : MP) (s : SA K as ms) : SE K (fun W => tCall (up K f) [] E0 (as W)) (fun W => mCallF f (ms W)) := ⟨fun {χ W W' σ H φ ρ M Q Q'} r m w fe h =>
  s.run r m w (fun vs ds H1 φ1 M1 A1 m1 r1 ⟨es, e, h1⟩ => ⟨[], χ, [], es, _, XD0, by rw [List.append_nil]; exact mapO_run (fun h e => frz_run (n := 0) m1 4 h e) r1 e, m1.bareE, (fun v d H2 φ2 M2 A2 m2 rv q => by
    obtain ⟨rfl, q2, q3⟩ := q
    obtain rfl := m2.nilE
    exact fe _ _ _ _ _ (A1.trans A2.all) (m1.stay A2) (scal_run q2 rv) q3), fun _ _ _ _ _ _ _ _ _ _ _ _ _ h => h.elim, h1⟩) h⟩
end
end Z

namespace Z
open PySem PySem.Spec PyProof.Rows L2 Evl
/-! ### readings (gen.py) -/
structure Exm (K : PySem.W.Frag) : Prop where
  e_Duplicate_InvalidText : PySem.W.exmOne K (.ref (He.ga K "Duplicate")) (.ref (He.ga K "InvalidText")) = some false
  e_Duplicate_PartsError : PySem.W.exmOne K (.ref (He.ga K "Duplicate")) (.ref (He.ga K "PartsError")) = some true
  e_InvalidClash_InvalidText : PySem.W.exmOne K (.ref (He.ga K "InvalidClash")) (.ref (He.ga K "InvalidText")) = some false
  e_InvalidClash_PartsError : PySem.W.exmOne K (.ref (He.ga K "InvalidClash")) (.ref (He.ga K "PartsError")) = some true
  e_InvalidModes_InvalidText : PySem.W.exmOne K (.ref (He.ga K "InvalidModes")) (.ref (He.ga K "InvalidText")) = some false
  e_InvalidModes_PartsError : PySem.W.exmOne K (.ref (He.ga K "InvalidModes")) (.ref (He.ga K "PartsError")) = some true
  e_InvalidName_InvalidText : PySem.W.exmOne K (.ref (He.ga K "InvalidName")) (.ref (He.ga K "InvalidText")) = some false
  e_InvalidName_PartsError : PySem.W.exmOne K (.ref (He.ga K "InvalidName")) (.ref (He.ga K "PartsError")) = some true
  e_InvalidStrengths_InvalidText : PySem.W.exmOne K (.ref (He.ga K "InvalidStrengths")) (.ref (He.ga K "InvalidText")) = some false
  e_InvalidStrengths_PartsError : PySem.W.exmOne K (.ref (He.ga K "InvalidStrengths")) (.ref (He.ga K "PartsError")) = some true
  e_InvalidText_InvalidText : PySem.W.exmOne K (.ref (He.ga K "InvalidText")) (.ref (He.ga K "InvalidText")) = some true
  e_InvalidText_PartsError : PySem.W.exmOne K (.ref (He.ga K "InvalidText")) (.ref (He.ga K "PartsError")) = some true
  e_UnknownMode_InvalidText : PySem.W.exmOne K (.ref (He.ga K "UnknownMode")) (.ref (He.ga K "InvalidText")) = some false
  e_UnknownMode_PartsError : PySem.W.exmOne K (.ref (He.ga K "UnknownMode")) (.ref (He.ga K "PartsError")) = some true
def exT : ExT := [((("Duplicate" : Str), ("InvalidText" : Str)), false), ((("Duplicate" : Str), ("PartsError" : Str)), true), ((("InvalidClash" : Str), ("InvalidText" : Str)), false), ((("InvalidClash" : Str), ("PartsError" : Str)), true), ((("InvalidModes" : Str), ("InvalidText" : Str)), false), ((("InvalidModes" : Str), ("PartsError" : Str)), true), ((("InvalidName" : Str), ("InvalidText" : Str)), false), ((("InvalidName" : Str), ("PartsError" : Str)), true), ((("InvalidStrengths" : Str), ("InvalidText" : Str)), false), ((("InvalidStrengths" : Str), ("PartsError" : Str)), true), ((("InvalidText" : Str), ("InvalidText" : Str)), true), ((("InvalidText" : Str), ("PartsError" : Str)), true), ((("UnknownMode" : Str), ("InvalidText" : Str)), false), ((("UnknownMode" : Str), ("PartsError" : Str)), true)]
theorem Exm.da {K : PySem.W.Frag} (X : Exm K) : ExOk K exT := (.cons X.e_Duplicate_InvalidText (.cons X.e_Duplicate_PartsError (.cons X.e_InvalidClash_InvalidText (.cons X.e_InvalidClash_PartsError (.cons X.e_InvalidModes_InvalidText (.cons X.e_InvalidModes_PartsError (.cons X.e_InvalidName_InvalidText (.cons X.e_InvalidName_PartsError (.cons X.e_InvalidStrengths_InvalidText (.cons X.e_InvalidStrengths_PartsError (.cons X.e_InvalidText_InvalidText (.cons X.e_InvalidText_PartsError (.cons X.e_UnknownMode_InvalidText (.cons X.e_UnknownMode_PartsError ExOk.nil))))))))))))))
/-- the own classes -/
structure ClD (K : PySem.W.Frag) : Prop where
  cl_Strengths : Cls K (He.ga K "Strengths")
  is_Strengths : IsO K "Strengths"
  na_Strengths_own_modes : NoAttr K (He.ga K "Strengths") "own_modes"
  na_Strengths_against : NoAttr K (He.ga K "Strengths") "against"
def m_is_name : MS :=
  (mSeq (mIfS ((mOr (mNot (mB (mCB nIsi (mCons (mVar 0) (mCons (mC (.ty "str")) mNil))))) (mOr (mB (mOp nEq (mVar 0) (mC (.str "table")))) (mNot (mB (mChain nLe nLe (mC (.int 1)) (mCB nLen (mCons (mVar 0) mNil)) (mC (.int 8)))))))) (mRet (mC (.bl false))) mNext)
    (mRet (mCB nAll (mCons (mLc (mAny (mVar 0)) (hName 1) mYes (mOp nIn (mVar 1) (mC (.str "abcdefghijklmnopqrstuvwxyz"))) [1]) mNil))))
def f_is_name : MP := dfn 2 1 (fun _ => m_is_name)
abbrev sp_is_name (K : PySem.W.Frag) : Sp := up K f_is_name
def t_is_name (K : PySem.W.Frag) : TS :=
  (tSeq (tIfS ((tOr (tNot (tB (tCB (rIsi K) (tCons (tVar 0) (tCons (tC (.ty "str")) tNil))))) (tOr (tTest (tOp (rEqA K) (tVar 0) (tC (.str "table")))) (tNot (tTest (tChain rLeA rLeA (tC (.int 1)) (tCB (rLenB K) (tCons (tVar 0) tNil)) (tC (.int 8)))))))) (tRet (tC (.bl false))) tNext)
    (tRet (tCB (rAll K) (tCons (tLc (iSeq K (tVar 0)) (gName 1) tYes (tOp (rInB K) (tVar 1) (tC (.str "abcdefghijklmnopqrstuvwxyz"))) [1]) tNil))))
theorem c_is_name {K : PySem.W.Frag} : SS K (fun _ => t_is_name K) (fun _ => m_is_name) := by
  unfold t_is_name m_is_name 
  exact (S_seq (S_if ((E_or (E_not (E_B (E_cb C_isi (E_cons (E_var 0) (E_cons (E_ty _) E_nil))))) (E_or (E_test (E_op O_eq (E_var 0) (E_str (by decide)))) (E_not (E_test (E_chain O_le O_le (E_int 1) (E_cb C_len (E_cons (E_var 0) E_nil)) (E_int 8))))))) (S_ret (E_bl false)) S_next)
    (S_ret (E_cb C_all (E_cons (E_lc (I_seq (E_var 0)) (V_name 1 (by decide)) E_yes (E_op O_in (E_var 1) (E_str (by decide)))) E_nil))))
theorem len_is_name (K : PySem.W.Frag) : ∀ vs H Q E, sp_is_name K vs H Q E → vs.length = (["value"] : List Str).length := fun _ _ _ _ h => up_len h
theorem pure_is_name (K : PySem.W.Frag) (vs : List V) (H : Hp) (Q : VK) (E : XK) (h : sp_is_name K vs H Q E) : t_is_name K { nx := fun _ H' => Q .non H', rt := Q } (start ["value", "sign"] vs) H := up_run (tw := fun _ => t_is_name K) (c_is_name) (N := ["value", "sign"]) rfl h
def m_need_modes (W : WD) : MS :=
  (mSeq (mIfS (mNot (mB (mCB nIsi (mCons (mVar 0) (mCons (mC (.ty "list")) mNil))))) (mRaise "InvalidModes" "value" (mCons (mVar 0) mNil) W) mNext)
    (mSeq (mFor (mEnumA (mCons (mVar 0) mNil)) (hTup 2 (hCons (hName 1) (hCons (hName 2) hNil))) (mSeq (mIfS (mNot (mB (mCall f_is_name (mCons (mVar 2) mNil)))) (mRaise "InvalidName" "value" (mCons (mVar 2) mNil) W) mNext)
    (mIfS (mB (mOp nIn (mVar 2) (mSl nSl (mVar 0) mNoPart (mPart (mVar 1))))) (mRaise "Duplicate" "name" (mCons (mVar 2) mNil) W) mNext)))
    (mIfS (mNot (mB (mChain nLe nLe (mC (.int 1)) (mCB nLen (mCons (mVar 0) mNil)) (mC (.int 8))))) (mRaise "InvalidModes" "value" (mCons (mVar 0) mNil) W) mNext)))
def f_need_modes : MP := dfn 3 1 (fun W => m_need_modes W)
abbrev sp_need_modes (K : PySem.W.Frag) : Sp := up K f_need_modes
def tw_need_modes (K : PySem.W.Frag) (W : WX) : TS :=
  (tSeq (tIfS (tNot (tB (tCB (rIsi K) (tCons (tVar 0) (tCons (tC (.ty "list")) tNil))))) (tRaisevalue (He.ga K "InvalidModes") W (tCons (tVar 0) tNil)) tNext)
    (tSeq (tFor (iEnumA K (tCons (tVar 0) tNil)) (gTup K 2 (gCons (gName 1) (gCons (gName 2) gNil))) (tSeq (tIfS (tNot (tB (tCall (sp_is_name K) [] E0 (tCons (tVar 2) tNil)))) (tRaisevalue (He.ga K "InvalidName") W (tCons (tVar 2) tNil)) tNext)
    (tIfS (tTest (tOp (rInB K) (tVar 2) (tSl (rSlA K) (tVar 0) tNoPart (tPart (tVar 1))))) (tRaisename (He.ga K "Duplicate") W (tCons (tVar 2) tNil)) tNext)))
    (tIfS (tNot (tTest (tChain rLeA rLeA (tC (.int 1)) (tCB (rLenB K) (tCons (tVar 0) tNil)) (tC (.int 8))))) (tRaisevalue (He.ga K "InvalidModes") W (tCons (tVar 0) tNil)) tNext)))
def t_need_modes (K : PySem.W.Frag) (E : XK) : TS := tw_need_modes K (fun cls d _ H => E cls d H)
theorem c_need_modes {K : PySem.W.Frag} : SS K (fun W => tw_need_modes K W) (fun W => m_need_modes W) := by
  unfold tw_need_modes m_need_modes 
  exact (S_seq (S_if (E_not (E_B (E_cb C_isi (E_cons (E_var 0) (E_cons (E_ty _) E_nil))))) (S_raisevalue "InvalidModes" (E_cons (E_var 0) E_nil)) S_next)
    (S_seq (S_for (I_enumA (E_cons (E_var 0) E_nil)) (G_tup (G_cons (G_name 1) (G_cons (G_name 2) G_nil))) (S_seq (S_if (E_not (E_B (E_call f_is_name (E_cons (E_var 2) E_nil)))) (S_raisevalue "InvalidName" (E_cons (E_var 2) E_nil)) S_next)
    (S_if (E_test (E_op O_in (E_var 2) (E_sl O_sl (E_var 0) E_nopart (E_part (E_var 1))))) (S_raisename "Duplicate" (E_cons (E_var 2) E_nil)) S_next)))
    (S_if (E_not (E_test (E_chain O_le O_le (E_int 1) (E_cb C_len (E_cons (E_var 0) E_nil)) (E_int 8)))) (S_raisevalue "InvalidModes" (E_cons (E_var 0) E_nil)) S_next)))
theorem len_need_modes (K : PySem.W.Frag) : ∀ vs H Q E, sp_need_modes K vs H Q E → vs.length = (["modes"] : List Str).length := fun _ _ _ _ h => up_len h
theorem pure_need_modes (K : PySem.W.Frag) (vs : List V) (H : Hp) (Q : VK) (E : XK) (h : sp_need_modes K vs H Q E) : t_need_modes K E { nx := fun _ H' => Q .non H', rt := Q } (start ["modes", "at", "name"] vs) H := up_run (tw := fun W => tw_need_modes K W) (c_need_modes) (N := ["modes", "at", "name"]) rfl h
def m_need_clashes (W : WD) : MS :=
  (mSeq (mIfS (mNot (mB (mCB nIsi (mCons (mVar 1) (mCons (mC (.ty "list")) mNil))))) (mRaise "InvalidStrengths" "value" (mCons (mVar 1) mNil) W) mNext)
    (mFor (mAny (mVar 1)) (hName 2) (mSeq (mIfS ((mOr (mNot (mB (mCB nIsi (mCons (mVar 2) (mCons (mC (.ty "tuple")) mNil))))) (mB (mOp nNe (mCB nLen (mCons (mVar 2) mNil)) (mC (.int 2)))))) (mRaise "InvalidClash" "value" (mCons (mVar 2) mNil) W) mNext)
    (mFor (mAny (mVar 2)) (hName 3) (mIfS (mB (mOp nNin (mVar 3) (mVar 0))) (mRaise "UnknownMode" "name" (mCons (mVar 3) mNil) W) mNext)))))
def f_need_clashes : MP := dfn 4 2 (fun W => m_need_clashes W)
abbrev sp_need_clashes (K : PySem.W.Frag) : Sp := up K f_need_clashes
def tw_need_clashes (K : PySem.W.Frag) (W : WX) : TS :=
  (tSeq (tIfS (tNot (tB (tCB (rIsi K) (tCons (tVar 1) (tCons (tC (.ty "list")) tNil))))) (tRaisevalue (He.ga K "InvalidStrengths") W (tCons (tVar 1) tNil)) tNext)
    (tFor (iSeq K (tVar 1)) (gName 2) (tSeq (tIfS ((tOr (tNot (tB (tCB (rIsi K) (tCons (tVar 2) (tCons (tC (.ty "tuple")) tNil))))) (tTest (tOp (rNeA K) (tCB (rLenB K) (tCons (tVar 2) tNil)) (tC (.int 2)))))) (tRaisevalue (He.ga K "InvalidClash") W (tCons (tVar 2) tNil)) tNext)
    (tFor (iSeq K (tVar 2)) (gName 3) (tIfS (tTest (tOp (rNinB K) (tVar 3) (tVar 0))) (tRaisename (He.ga K "UnknownMode") W (tCons (tVar 3) tNil)) tNext)))))
def t_need_clashes (K : PySem.W.Frag) (E : XK) : TS := tw_need_clashes K (fun cls d _ H => E cls d H)
theorem c_need_clashes {K : PySem.W.Frag} : SS K (fun W => tw_need_clashes K W) (fun W => m_need_clashes W) := by
  unfold tw_need_clashes m_need_clashes 
  exact (S_seq (S_if (E_not (E_B (E_cb C_isi (E_cons (E_var 1) (E_cons (E_ty _) E_nil))))) (S_raisevalue "InvalidStrengths" (E_cons (E_var 1) E_nil)) S_next)
    (S_for (I_seq (E_var 1)) (G_name 2) (S_seq (S_if ((E_or (E_not (E_B (E_cb C_isi (E_cons (E_var 2) (E_cons (E_ty _) E_nil))))) (E_test (E_op O_ne (E_cb C_len (E_cons (E_var 2) E_nil)) (E_int 2))))) (S_raisevalue "InvalidClash" (E_cons (E_var 2) E_nil)) S_next)
    (S_for (I_seq (E_var 2)) (G_name 3) (S_if (E_test (E_op O_nin (E_var 3) (E_var 0))) (S_raisename "UnknownMode" (E_cons (E_var 3) E_nil)) S_next)))))
theorem len_need_clashes (K : PySem.W.Frag) : ∀ vs H Q E, sp_need_clashes K vs H Q E → vs.length = (["modes", "clashes"] : List Str).length := fun _ _ _ _ h => up_len h
theorem pure_need_clashes (K : PySem.W.Frag) (vs : List V) (H : Hp) (Q : VK) (E : XK) (h : sp_need_clashes K vs H Q E) : t_need_clashes K E { nx := fun _ H' => Q .non H', rt := Q } (start ["modes", "clashes", "item", "name"] vs) H := up_run (tw := fun W => tw_need_clashes K W) (c_need_clashes) (N := ["modes", "clashes", "item", "name"]) rfl h
def b_Strengths_init_4 (W : WD) : MS :=
  (mFldS "Strengths" "against" (mVar 0) (mDc (mAny (mVar 1)) (hName 6) mYes (mVar 6) (mCB nTupC (mCons (mLc (mAny (mVar 1)) (hName 5) (mB (mOp nIn (mTup (mCons (mVar 6) (mCons (mVar 5) mNil))) (mVar 3))) (mVar 5) [5]) mNil)) [6]))
def b_Strengths_init_3 (W : WD) : MS :=
  mSeq (mAsg (mLst (mStarA (mVar 2) (mStarA (mLc (mAny (mVar 2)) (hTup 2 (hCons (hName 4) (hCons (hName 5) hNil))) mYes (mTup (mCons (mVar 5) (mCons (mVar 4) mNil))) [4, 5]) mNil))) (hName 3)) (b_Strengths_init_4 W)
def b_Strengths_init_2 (W : WD) : MS :=
  mSeq (mFldS "Strengths" "own_modes" (mVar 0) (mCB nTupC (mCons (mVar 1) mNil))) (b_Strengths_init_3 W)
def b_Strengths_init_1 (W : WD) : MS :=
  mSeq (mDrop (mCallS f_need_clashes (mCons (mVar 1) (mCons (mVar 2) mNil)) W)) (b_Strengths_init_2 W)
def m_Strengths_init (W : WD) : MS :=
  mSeq (mDrop (mCallS f_need_modes (mCons (mVar 1) mNil) W)) (b_Strengths_init_1 W)
def f_Strengths_init : MP := dfn 7 3 (fun W => m_Strengths_init W)
abbrev sp_Strengths_init (K : PySem.W.Frag) : Sp := up K f_Strengths_init
def tw_Strengths_init (K : PySem.W.Frag) (W : WX) : TS :=
  (tSeq (tDrop (tCallS (sp_need_modes K) (WE W) (tCons (tVar 1) tNil)))
    (tSeq (tDrop (tCallS (sp_need_clashes K) (WE W) (tCons (tVar 1) (tCons (tVar 2) tNil))))
    (tSeq (sFld K (tVar 0) (tCB (rTupA K) (tCons (tVar 1) tNil)) "own_modes")
    (tSeq (tAsg (tLst (tStarA K (tVar 2) (tStarA K (tLc (iSeq K (tVar 2)) (gTup K 2 (gCons (gName 4) (gCons (gName 5) gNil))) tYes (tTup (tCons (tVar 5) (tCons (tVar 4) tNil))) [4, 5]) tNil))) (gName 3))
    (sFld K (tVar 0) (tDc (iSeq K (tVar 1)) (gName 6) tYes (tVar 6) (tCB (rTupA K) (tCons (tLc (iSeq K (tVar 1)) (gName 5) (tTest (tOp (rInB K) (tTup (tCons (tVar 6) (tCons (tVar 5) tNil))) (tVar 3))) (tVar 5) [5]) tNil)) [6]) "against")))))
def t_Strengths_init (K : PySem.W.Frag) (E : XK) : TS := tw_Strengths_init K (fun cls d _ H => E cls d H)
theorem c_Strengths_init {K : PySem.W.Frag} (L : ClD K) : SS K (fun W => tw_Strengths_init K W) (fun W => m_Strengths_init W) := by
  unfold tw_Strengths_init m_Strengths_init b_Strengths_init_1 b_Strengths_init_2 b_Strengths_init_3 b_Strengths_init_4
  exact (S_seq (S_drop (E_callS f_need_modes (E_cons (E_var 1) E_nil)))
    (S_seq (S_drop (E_callS f_need_clashes (E_cons (E_var 1) (E_cons (E_var 2) E_nil))))
    (S_seq (S_fldS L.cl_Strengths L.na_Strengths_own_modes (E_var 0) (E_cb C_tup (E_cons (E_var 1) E_nil)))
    (S_seq (S_asg (E_lst (E_starA (E_var 2) (E_starA (E_lc (I_seq (E_var 2)) (V_tup (V_cons (V_name 4 (by decide)) (V_cons (V_name 5 (by decide)) V_nil))) E_yes (E_tup (E_cons (E_var 5) (E_cons (E_var 4) E_nil)))) E_nil))) (G_name 3))
    (S_fldS L.cl_Strengths L.na_Strengths_against (E_var 0) (E_dc (I_seq (E_var 1)) (V_name 6 (by decide)) E_yes (E_var 6) (E_cb C_tup (E_cons (E_lc (I_seq (E_var 1)) (V_name 5 (by decide)) (E_test (E_op O_in (E_tup (E_cons (E_var 6) (E_cons (E_var 5) E_nil))) (E_var 3))) (E_var 5)) E_nil))))))))
theorem len_Strengths_init (K : PySem.W.Frag) : ∀ vs H Q E, sp_Strengths_init K vs H Q E → vs.length = (["self", "modes", "clashes"] : List Str).length := fun _ _ _ _ h => up_len h
theorem pure_Strengths_init (K : PySem.W.Frag) (vs : List V) (H : Hp) (Q : VK) (E : XK) (L : ClD K) (h : sp_Strengths_init K vs H Q E) : t_Strengths_init K E { nx := fun _ H' => Q .non H', rt := Q } (start ["self", "modes", "clashes", "both", "one", "other", "name"] vs) H := up_run (tw := fun W => tw_Strengths_init K W) (c_Strengths_init L) (N := ["self", "modes", "clashes", "both", "one", "other", "name"]) rfl h
def m_Strengths_modes : MS :=
  (mRet (mCell (mCB nList (mCons (mFld "Strengths" "own_modes" (mVar 0)) mNil))))
def f_Strengths_modes : MP := dfn 1 1 (fun _ => m_Strengths_modes)
abbrev sp_Strengths_modes (K : PySem.W.Frag) : Sp := up K f_Strengths_modes
def t_Strengths_modes (K : PySem.W.Frag) : TS :=
  (tRet (tCB (rListA K) (tCons (tFld K (tVar 0) "own_modes") tNil)))
theorem c_Strengths_modes {K : PySem.W.Frag} (L : ClD K) : SS K (fun _ => t_Strengths_modes K) (fun _ => m_Strengths_modes) := by
  unfold t_Strengths_modes m_Strengths_modes 
  exact (S_ret (E_cell (N_list (E_cons (E_fld L.cl_Strengths L.na_Strengths_own_modes (E_var 0)) E_nil))))
theorem len_Strengths_modes (K : PySem.W.Frag) : ∀ vs H Q E, sp_Strengths_modes K vs H Q E → vs.length = (["self"] : List Str).length := fun _ _ _ _ h => up_len h
theorem pure_Strengths_modes (K : PySem.W.Frag) (vs : List V) (H : Hp) (Q : VK) (E : XK) (L : ClD K) (h : sp_Strengths_modes K vs H Q E) : t_Strengths_modes K { nx := fun _ H' => Q .non H', rt := Q } (start ["self"] vs) H := up_run (tw := fun _ => t_Strengths_modes K) (c_Strengths_modes L) (N := ["self"]) rfl h
def m_Strengths_need (W : WD) : MS :=
  (mIfS (mB (mOp nNin (mVar 1) (mFld "Strengths" "own_modes" (mVar 0)))) (mRaise "UnknownMode" "name" (mCons (mVar 1) mNil) W) mNext)
def f_Strengths_need : MP := dfn 2 2 (fun W => m_Strengths_need W)
abbrev sp_Strengths_need (K : PySem.W.Frag) : Sp := up K f_Strengths_need
def tw_Strengths_need (K : PySem.W.Frag) (W : WX) : TS :=
  (tIfS (tTest (tOp (rNinB K) (tVar 1) (tFld K (tVar 0) "own_modes"))) (tRaisename (He.ga K "UnknownMode") W (tCons (tVar 1) tNil)) tNext)
def t_Strengths_need (K : PySem.W.Frag) (E : XK) : TS := tw_Strengths_need K (fun cls d _ H => E cls d H)
theorem c_Strengths_need {K : PySem.W.Frag} (L : ClD K) : SS K (fun W => tw_Strengths_need K W) (fun W => m_Strengths_need W) := by
  unfold tw_Strengths_need m_Strengths_need 
  exact (S_if (E_test (E_op O_nin (E_var 1) (E_fld L.cl_Strengths L.na_Strengths_own_modes (E_var 0)))) (S_raisename "UnknownMode" (E_cons (E_var 1) E_nil)) S_next)
theorem len_Strengths_need (K : PySem.W.Frag) : ∀ vs H Q E, sp_Strengths_need K vs H Q E → vs.length = (["self", "mode"] : List Str).length := fun _ _ _ _ h => up_len h
theorem pure_Strengths_need (K : PySem.W.Frag) (vs : List V) (H : Hp) (Q : VK) (E : XK) (L : ClD K) (h : sp_Strengths_need K vs H Q E) : t_Strengths_need K E { nx := fun _ H' => Q .non H', rt := Q } (start ["self", "mode"] vs) H := up_run (tw := fun W => tw_Strengths_need K W) (c_Strengths_need L) (N := ["self", "mode"]) rfl h
def m_Strengths_clash (W : WD) : MS :=
  (mSeq (mDrop (mMethS "Strengths" "need" [0, 1] 1 0 f_Strengths_need [] (mVar 0) (mCons (mVar 1) mNil) mNil W))
    (mSeq (mDrop (mMethS "Strengths" "need" [0, 1] 1 0 f_Strengths_need [] (mVar 0) (mCons (mVar 2) mNil) mNil W))
    (mRet (mOp nIn (mVar 2) (mOp nIx (mFld "Strengths" "against" (mVar 0)) (mVar 1))))))
def f_Strengths_clash : MP := dfn 3 3 (fun W => m_Strengths_clash W)
abbrev sp_Strengths_clash (K : PySem.W.Frag) : Sp := up K f_Strengths_clash
def tw_Strengths_clash (K : PySem.W.Frag) (W : WX) : TS :=
  (tSeq (tDrop (tMethP K "Strengths" "need" [0, 1] 1 0 (sp_Strengths_need K) [] (WE W) (tVar 0) (tCons (tVar 1) tNil) tNil))
    (tSeq (tDrop (tMethP K "Strengths" "need" [0, 1] 1 0 (sp_Strengths_need K) [] (WE W) (tVar 0) (tCons (tVar 2) tNil) tNil))
    (tRet (tOp (rInB K) (tVar 2) (tOp (rIxB K) (tFld K (tVar 0) "against") (tVar 1))))))
def t_Strengths_clash (K : PySem.W.Frag) (E : XK) : TS := tw_Strengths_clash K (fun cls d _ H => E cls d H)
theorem c_Strengths_clash {K : PySem.W.Frag} (L : ClD K) : SS K (fun W => tw_Strengths_clash K W) (fun W => m_Strengths_clash W) := by
  unfold tw_Strengths_clash m_Strengths_clash 
  exact (S_seq (S_drop (E_methS "Strengths" "need" [0, 1] 1 0 f_Strengths_need DfL.nil (E_var 0) (E_cons (E_var 1) E_nil) E_nil))
    (S_seq (S_drop (E_methS "Strengths" "need" [0, 1] 1 0 f_Strengths_need DfL.nil (E_var 0) (E_cons (E_var 2) E_nil) E_nil))
    (S_ret (E_op O_in (E_var 2) (E_op O_ix (E_fld L.cl_Strengths L.na_Strengths_against (E_var 0)) (E_var 1))))))
theorem len_Strengths_clash (K : PySem.W.Frag) : ∀ vs H Q E, sp_Strengths_clash K vs H Q E → vs.length = (["self", "one", "other"] : List Str).length := fun _ _ _ _ h => up_len h
theorem pure_Strengths_clash (K : PySem.W.Frag) (vs : List V) (H : Hp) (Q : VK) (E : XK) (L : ClD K) (h : sp_Strengths_clash K vs H Q E) : t_Strengths_clash K E { nx := fun _ H' => Q .non H', rt := Q } (start ["self", "one", "other"] vs) H := up_run (tw := fun W => tw_Strengths_clash K W) (c_Strengths_clash L) (N := ["self", "one", "other"]) rfl h
def m_Strengths_clashes : MS :=
  (mSeq (mAsg (mFld "Strengths" "own_modes" (mVar 0)) (hName 1))
    (mRet (mCell (mLc2 (mEnumA (mCons (mVar 1) mNil)) (hTup 2 (hCons (hName 2) (hCons (hName 3) hNil))) mYes (mAny (mSl nSl (mVar 1) (mPart (mVar 2)) mNoPart)) (hName 4) (mB (mOp nIn (mVar 4) (mOp nIx (mFld "Strengths" "against" (mVar 0)) (mVar 3)))) (mTup (mCons (mVar 3) (mCons (mVar 4) mNil))) [2, 3, 4] [4]))))
def f_Strengths_clashes : MP := dfn 5 1 (fun _ => m_Strengths_clashes)
abbrev sp_Strengths_clashes (K : PySem.W.Frag) : Sp := up K f_Strengths_clashes
def t_Strengths_clashes (K : PySem.W.Frag) : TS :=
  (tSeq (tAsg (tFld K (tVar 0) "own_modes") (gName 1))
    (tRet (tLc2 (iEnumA K (tCons (tVar 1) tNil)) (gTup K 2 (gCons (gName 2) (gCons (gName 3) gNil))) tYes (iSeq K (tSl (rSlA K) (tVar 1) (tPart (tVar 2)) tNoPart)) (gName 4) (tTest (tOp (rInB K) (tVar 4) (tOp (rIxB K) (tFld K (tVar 0) "against") (tVar 3)))) (tTup (tCons (tVar 3) (tCons (tVar 4) tNil))) [2, 3, 4] [4])))
theorem c_Strengths_clashes {K : PySem.W.Frag} (L : ClD K) : SS K (fun _ => t_Strengths_clashes K) (fun _ => m_Strengths_clashes) := by
  unfold t_Strengths_clashes m_Strengths_clashes 
  exact (S_seq (S_asg (E_fld L.cl_Strengths L.na_Strengths_own_modes (E_var 0)) (G_name 1))
    (S_ret (E_cell (N_lc2 (I_enumA (E_cons (E_var 1) E_nil)) (V_tup (V_cons (V_name 2 (by decide)) (V_cons (V_name 3 (by decide)) V_nil))) E_yes (I_seq (E_sl O_sl (E_var 1) (E_part (E_var 2)) E_nopart)) (V_name 4 (by decide)) (E_test (E_op O_in (E_var 4) (E_op O_ix (E_fld L.cl_Strengths L.na_Strengths_against (E_var 0)) (E_var 3)))) (E_tup (E_cons (E_var 3) (E_cons (E_var 4) E_nil)))))))
theorem len_Strengths_clashes (K : PySem.W.Frag) : ∀ vs H Q E, sp_Strengths_clashes K vs H Q E → vs.length = (["self"] : List Str).length := fun _ _ _ _ h => up_len h
theorem pure_Strengths_clashes (K : PySem.W.Frag) (vs : List V) (H : Hp) (Q : VK) (E : XK) (L : ClD K) (h : sp_Strengths_clashes K vs H Q E) : t_Strengths_clashes K { nx := fun _ H' => Q .non H', rt := Q } (start ["self", "modes", "at", "one", "other"] vs) H := up_run (tw := fun _ => t_Strengths_clashes K) (c_Strengths_clashes L) (N := ["self", "modes", "at", "one", "other"]) rfl h
def m_Strengths_len : MS :=
  (mRet (mCB nLen (mCons (mFld "Strengths" "own_modes" (mVar 0)) mNil)))
def f_Strengths_len : MP := dfn 1 1 (fun _ => m_Strengths_len)
abbrev sp_Strengths_len (K : PySem.W.Frag) : Sp := up K f_Strengths_len
def t_Strengths_len (K : PySem.W.Frag) : TS :=
  (tRet (tCB (rLenB K) (tCons (tFld K (tVar 0) "own_modes") tNil)))
theorem c_Strengths_len {K : PySem.W.Frag} (L : ClD K) : SS K (fun _ => t_Strengths_len K) (fun _ => m_Strengths_len) := by
  unfold t_Strengths_len m_Strengths_len 
  exact (S_ret (E_cb C_len (E_cons (E_fld L.cl_Strengths L.na_Strengths_own_modes (E_var 0)) E_nil)))
theorem len_Strengths_len (K : PySem.W.Frag) : ∀ vs H Q E, sp_Strengths_len K vs H Q E → vs.length = (["self"] : List Str).length := fun _ _ _ _ h => up_len h
theorem pure_Strengths_len (K : PySem.W.Frag) (vs : List V) (H : Hp) (Q : VK) (E : XK) (L : ClD K) (h : sp_Strengths_len K vs H Q E) : t_Strengths_len K { nx := fun _ H' => Q .non H', rt := Q } (start ["self"] vs) H := up_run (tw := fun _ => t_Strengths_len K) (c_Strengths_len L) (N := ["self"]) rfl h
def m_Strengths_eq : MS :=
  (mSeq (mIfS (mNot (mB (mCB (nIsiO "Strengths") (mCons (mVar 1) (mCons (mC (.gl "Strengths")) mNil))))) (mRet (mC (.bl false))) mNext)
    (mRet ((mAndV (mOp nEq (mFld "Strengths" "own_modes" (mVar 0)) (mFld "Strengths" "own_modes" (mVar 1))) (mOp nEqK (mFld "Strengths" "against" (mVar 0)) (mFld "Strengths" "against" (mVar 1)))))))
def f_Strengths_eq : MP := dfn 2 2 (fun _ => m_Strengths_eq)
abbrev sp_Strengths_eq (K : PySem.W.Frag) : Sp := up K f_Strengths_eq
def t_Strengths_eq (K : PySem.W.Frag) : TS :=
  (tSeq (tIfS (tNot (tB (tCB (rIsi K) (tCons (tVar 1) (tCons (tC (.ref (He.ga K "Strengths"))) tNil))))) (tRet (tC (.bl false))) tNext)
    (tRet ((tAndV (tOp (rEqA K) (tFld K (tVar 0) "own_modes") (tFld K (tVar 1) "own_modes")) (tOp (rEqK K) (tFld K (tVar 0) "against") (tFld K (tVar 1) "against"))))))
theorem c_Strengths_eq {K : PySem.W.Frag} (L : ClD K) : SS K (fun _ => t_Strengths_eq K) (fun _ => m_Strengths_eq) := by
  unfold t_Strengths_eq m_Strengths_eq 
  exact (S_seq (S_if (E_not (E_B (E_cb (C_isiO L.is_Strengths) (E_cons (E_var 1) (E_cons (E_gl _) E_nil))))) (S_ret (E_bl false)) S_next)
    (S_ret ((E_andV (E_op O_eq (E_fld L.cl_Strengths L.na_Strengths_own_modes (E_var 0)) (E_fld L.cl_Strengths L.na_Strengths_own_modes (E_var 1))) (E_op O_eqK (E_fld L.cl_Strengths L.na_Strengths_against (E_var 0)) (E_fld L.cl_Strengths L.na_Strengths_against (E_var 1)))))))
theorem len_Strengths_eq (K : PySem.W.Frag) : ∀ vs H Q E, sp_Strengths_eq K vs H Q E → vs.length = (["self", "other"] : List Str).length := fun _ _ _ _ h => up_len h
theorem pure_Strengths_eq (K : PySem.W.Frag) (vs : List V) (H : Hp) (Q : VK) (E : XK) (L : ClD K) (h : sp_Strengths_eq K vs H Q E) : t_Strengths_eq K { nx := fun _ H' => Q .non H', rt := Q } (start ["self", "other"] vs) H := up_run (tw := fun _ => t_Strengths_eq K) (c_Strengths_eq L) (N := ["self", "other"]) rfl h
def b_Strengths_str_2 : MS :=
  (mRet (mCB nStr (mCons (mIf (mB (mOp nNe (mVar 1) (mC (.str "")))) (mJoin (kCons (mFmt (mVar 2)) (kCons (mC (.str ": ")) (kCons (mFmt (mVar 1)) kNil)))) (mVar 2)) mNil)))
def b_Strengths_str_1 : MS :=
  mSeq (mAsg (mBM "str" nJoin (mC (.str " ")) (mCons (mCB nList (mCons (mFld "Strengths" "own_modes" (mVar 0)) mNil)) mNil)) (hName 2)) b_Strengths_str_2
def m_Strengths_str : MS :=
  mSeq (mAsg (mBM "str" nJoin (mC (.str " ")) (mCons (mLc (mAny (mMeth "Strengths" "clashes" [0] 0 0 f_Strengths_clashes [] (mVar 0) mNil mNil)) (hTup 2 (hCons (hName 3) (hCons (hName 4) hNil))) mYes (mJoin (kCons (mFmt (mVar 3)) (kCons (mFmt (mC (.str "!"))) (kCons (mFmt (mVar 4)) kNil)))) [3, 4]) mNil)) (hName 1)) b_Strengths_str_1
def f_Strengths_str : MP := dfn 5 1 (fun _ => m_Strengths_str)
abbrev sp_Strengths_str (K : PySem.W.Frag) : Sp := up K f_Strengths_str
def t_Strengths_str (K : PySem.W.Frag) : TS :=
  (tSeq (tAsg (tBMW K "str" (rJoinA K) (tC (.str " ")) (tCons (tLc (iSeq K (tMethP K "Strengths" "clashes" [0] 0 0 (sp_Strengths_clashes K) [] (fun _ => E0) (tVar 0) tNil tNil)) (gTup K 2 (gCons (gName 3) (gCons (gName 4) gNil))) tYes (tJoin (jCons (tFmt (tVar 3)) (jCons (tFmt (tC (.str "!"))) (jCons (tFmt (tVar 4)) jNil)))) [3, 4]) tNil)) (gName 1))
    (tSeq (tAsg (tBMW K "str" (rJoinA K) (tC (.str " ")) (tCons (tCB (rListA K) (tCons (tFld K (tVar 0) "own_modes") tNil)) tNil)) (gName 2))
    (tRet (tCB rStrA (tCons (tIf (tTest (tOp (rNeA K) (tVar 1) (tC (.str "")))) (tJoin (jCons (tFmt (tVar 2)) (jCons (tC (.str ": ")) (jCons (tFmt (tVar 1)) jNil)))) (tVar 2)) tNil)))))
theorem c_Strengths_str {K : PySem.W.Frag} (L : ClD K) : SS K (fun _ => t_Strengths_str K) (fun _ => m_Strengths_str) := by
  unfold t_Strengths_str m_Strengths_str b_Strengths_str_1 b_Strengths_str_2
  exact (S_seq (S_asg (E_bm M_join (E_str (by decide)) (E_cons (E_lc (I_seq (E_meth "Strengths" "clashes" [0] 0 0 f_Strengths_clashes DfL.nil (E_var 0) E_nil E_nil)) (V_tup (V_cons (V_name 3 (by decide)) (V_cons (V_name 4 (by decide)) V_nil))) E_yes (E_join (K_cons (E_fmt (E_var 3)) (K_cons (E_fmt (E_str (by decide))) (K_cons (E_fmt (E_var 4)) K_nil))))) E_nil)) (G_name 1))
    (S_seq (S_asg (E_bm M_join (E_str (by decide)) (E_cons (E_cb C_list (E_cons (E_fld L.cl_Strengths L.na_Strengths_own_modes (E_var 0)) E_nil)) E_nil)) (G_name 2))
    (S_ret (E_cb C_str (E_cons (E_if (E_test (E_op O_ne (E_var 1) (E_str (by decide)))) (E_join (K_cons (E_fmt (E_var 2)) (K_cons (E_str (by decide)) (K_cons (E_fmt (E_var 1)) K_nil)))) (E_var 2)) E_nil)))))
theorem len_Strengths_str (K : PySem.W.Frag) : ∀ vs H Q E, sp_Strengths_str K vs H Q E → vs.length = (["self"] : List Str).length := fun _ _ _ _ h => up_len h
theorem pure_Strengths_str (K : PySem.W.Frag) (vs : List V) (H : Hp) (Q : VK) (E : XK) (L : ClD K) (h : sp_Strengths_str K vs H Q E) : t_Strengths_str K { nx := fun _ H' => Q .non H', rt := Q } (start ["self", "pairs", "words", "one", "other"] vs) H := up_run (tw := fun _ => t_Strengths_str K) (c_Strengths_str L) (N := ["self", "pairs", "words", "one", "other"]) rfl h
def b_read_modes_3 (W : WD) : MS :=
  (mRet (mMakeS "Strengths" [0, 1, 2] 2 0 f_Strengths_init [] (mCons (mBM "str" nSplit (mVar 1) (mCons (mC (.str " ")) mNil)) (mCons (mVar 3) mNil)) mNil W))
def b_read_modes_2 (W : WD) : MS :=
  mSeq (mAsg (mIf (mB (mOp nEq (mCB nLen (mCons (mVar 2) mNil)) (mC (.int 1)))) (mLc (mAny (mBM "str" nSplit (mOp nIx (mVar 2) (mC (.int 0))) (mCons (mC (.str " ")) mNil))) (hName 4) mYes (mCB nTupC (mCons (mBM "str" nSplit (mVar 4) (mCons (mC (.str "!")) mNil)) mNil)) [4]) (mLst mNil)) (hName 3)) (b_read_modes_3 W)
def b_read_modes_1 (W : WD) : MS :=
  mSeq (mIfS (mB (mOp nGt (mCB nLen (mCons (mVar 2) mNil)) (mC (.int 1)))) (mRet (mC .non)) mNext) (b_read_modes_2 W)
def m_read_modes (W : WD) : MS :=
  mSeq (mAsg (mBM "str" nSplit (mVar 0) (mCons (mC (.str ": ")) mNil)) (hStar 2 1 (hCons (hName 1) (hCons (hName 2) hNil)))) (b_read_modes_1 W)
def f_read_modes : MP := dfn 5 1 (fun W => m_read_modes W)
abbrev sp_read_modes (K : PySem.W.Frag) : Sp := up K f_read_modes
def tw_read_modes (K : PySem.W.Frag) (W : WX) : TS :=
  (tSeq (tAsg (tBMW K "str" rSplitA (tVar 0) (tCons (tC (.str ": ")) tNil)) (gStar K 2 1 (gCons (gName 1) (gCons (gName 2) gNil))))
    (tSeq (tIfS (tTest (tOp rGtA (tCB (rLenB K) (tCons (tVar 2) tNil)) (tC (.int 1)))) (tRet (tC .non)) tNext)
    (tSeq (tAsg (tIf (tTest (tOp (rEqA K) (tCB (rLenB K) (tCons (tVar 2) tNil)) (tC (.int 1)))) (tLc (iSeq K (tBMW K "str" rSplitA (tOp (rIxB K) (tVar 2) (tC (.int 0))) (tCons (tC (.str " ")) tNil))) (gName 4) tYes (tCB (rTupA K) (tCons (tBMW K "str" rSplitA (tVar 4) (tCons (tC (.str "!")) tNil)) tNil)) [4]) (tLst tNil)) (gName 3))
    (tRet (tMakeP K "Strengths" [0, 1, 2] 2 0 (sp_Strengths_init K) [] (WE W) (tCons (tBMW K "str" rSplitA (tVar 1) (tCons (tC (.str " ")) tNil)) (tCons (tVar 3) tNil)) tNil)))))
def t_read_modes (K : PySem.W.Frag) (E : XK) : TS := tw_read_modes K (fun cls d _ H => E cls d H)
theorem c_read_modes {K : PySem.W.Frag} : SS K (fun W => tw_read_modes K W) (fun W => m_read_modes W) := by
  unfold tw_read_modes m_read_modes b_read_modes_1 b_read_modes_2 b_read_modes_3
  exact (S_seq (S_asg (E_bm M_split (E_var 0) (E_cons (E_str (by decide)) E_nil)) (G_star (G_cons (G_name 1) (G_cons (G_name 2) G_nil))))
    (S_seq (S_if (E_test (E_op O_gt (E_cb C_len (E_cons (E_var 2) E_nil)) (E_int 1))) (S_ret (E_non)) S_next)
    (S_seq (S_asg (E_if (E_test (E_op O_eq (E_cb C_len (E_cons (E_var 2) E_nil)) (E_int 1))) (E_lc (I_seq (E_bm M_split (E_op O_ix (E_var 2) (E_int 0)) (E_cons (E_str (by decide)) E_nil))) (V_name 4 (by decide)) E_yes (E_cb C_tup (E_cons (E_bm M_split (E_var 4) (E_cons (E_str (by decide)) E_nil)) E_nil))) (E_lst E_nil)) (G_name 3))
    (S_ret (E_makeS "Strengths" [0, 1, 2] 2 0 f_Strengths_init DfL.nil (E_cons (E_bm M_split (E_var 1) (E_cons (E_str (by decide)) E_nil)) (E_cons (E_var 3) E_nil)) E_nil)))))
theorem len_read_modes (K : PySem.W.Frag) : ∀ vs H Q E, sp_read_modes K vs H Q E → vs.length = (["text"] : List Str).length := fun _ _ _ _ h => up_len h
theorem pure_read_modes (K : PySem.W.Frag) (vs : List V) (H : Hp) (Q : VK) (E : XK) (h : sp_read_modes K vs H Q E) : t_read_modes K E { nx := fun _ H' => Q .non H', rt := Q } (start ["text", "head", "rest", "pairs", "word"] vs) H := up_run (tw := fun W => tw_read_modes K W) (c_read_modes) (N := ["text", "head", "rest", "pairs", "word"]) rfl h
def b_read_strengths_3 (W : WD) : MS :=
  (mRet (mVar 1))
def b_read_strengths_2 (W : WD) : MS :=
  mSeq (mIfS ((mOr (mB (mOp nIs (mVar 1) (mC .non))) (mB (mOp nNe (mCB (nStrOF "Strengths" [0] f_Strengths_str []) (mCons (mVar 1) mNil)) (mVar 0))))) (mRaise "InvalidText" "value" (mCons (mVar 0) mNil) W) mNext) (b_read_strengths_3 W)
def b_read_strengths_1 (W : WD) : MS :=
  mSeq (mTry exT [("PartsError", none, fun _ _ => (mRaise "InvalidText" "value" (mCons (mVar 0) mNil) W))] (fun W => (mAsg (mCallS f_read_modes (mCons (mVar 0) mNil) W) (hName 1))) W) (b_read_strengths_2 W)
def m_read_strengths (W : WD) : MS :=
  mSeq (mIfS ((mOr (mNot (mB (mCB (nIsiB "Strengths") (mCons (mVar 0) (mCons (mC (.ty "str")) mNil))))) (mB (mOp nGt (mCB nLen (mCons (mVar 0) mNil)) (mC (.int 4000)))))) (mRaise "InvalidText" "value" (mCons (mVar 0) mNil) W) mNext) (b_read_strengths_1 W)
def f_read_strengths : MP := dfn 2 1 (fun W => m_read_strengths W)
abbrev sp_read_strengths (K : PySem.W.Frag) : Sp := up K f_read_strengths
def tw_read_strengths (K : PySem.W.Frag) (W : WX) : TS :=
  (tSeq (tIfS ((tOr (tNot (tB (tCB (rIsi K) (tCons (tVar 0) (tCons (tC (.ty "str")) tNil))))) (tTest (tOp rGtA (tCB (rLenB K) (tCons (tVar 0) tNil)) (tC (.int 4000)))))) (tRaisevalue (He.ga K "InvalidText") W (tCons (tVar 0) tNil)) tNext)
    (tSeq (tTry K (fun W => (tAsg (tCallS (sp_read_modes K) (WE W) (tCons (tVar 0) tNil)) (gName 1))) W [(.ref (He.ga K "PartsError"), none, fun _ _ _ => (tRaisevalue (He.ga K "InvalidText") W (tCons (tVar 0) tNil)))])
    (tSeq (tIfS ((tOr (tTest (tOp rIsA (tVar 1) (tC .non))) (tTest (tOp (rNeA K) (tCB (rStrO K "Strengths" [0] (sp_Strengths_str K) []) (tCons (tVar 1) tNil)) (tVar 0))))) (tRaisevalue (He.ga K "InvalidText") W (tCons (tVar 0) tNil)) tNext)
    (tRet (tVar 1)))))
def t_read_strengths (K : PySem.W.Frag) (E : XK) : TS := tw_read_strengths K (fun cls d _ H => E cls d H)
theorem c_read_strengths {K : PySem.W.Frag} (X : ExOk K exT) (L : ClD K) : SS K (fun W => tw_read_strengths K W) (fun W => m_read_strengths W) := by
  unfold tw_read_strengths m_read_strengths b_read_strengths_1 b_read_strengths_2 b_read_strengths_3
  exact (S_seq (S_if ((E_or (E_not (E_B (E_cb (C_isiB L.is_Strengths) (E_cons (E_var 0) (E_cons (E_ty _) E_nil))))) (E_test (E_op O_gt (E_cb C_len (E_cons (E_var 0) E_nil)) (E_int 4000))))) (S_raisevalue "InvalidText" (E_cons (E_var 0) E_nil)) S_next)
    (S_seq (S_tryX X (S_asg (E_callS f_read_modes (E_cons (E_var 0) E_nil)) (G_name 1)) (S_raisevalue "InvalidText" (E_cons (E_var 0) E_nil)))
    (S_seq (S_if ((E_or (E_test (E_op O_is (E_var 1) (E_non))) (E_test (E_op O_ne (E_cb (C_strOF DfL.nil) (E_cons (E_var 1) E_nil)) (E_var 0))))) (S_raisevalue "InvalidText" (E_cons (E_var 0) E_nil)) S_next)
    (S_ret (E_var 1)))))
theorem len_read_strengths (K : PySem.W.Frag) : ∀ vs H Q E, sp_read_strengths K vs H Q E → vs.length = (["text"] : List Str).length := fun _ _ _ _ h => up_len h
theorem pure_read_strengths (K : PySem.W.Frag) (vs : List V) (H : Hp) (Q : VK) (E : XK) (X : Exm K) (L : ClD K) (h : sp_read_strengths K vs H Q E) : t_read_strengths K E { nx := fun _ H' => Q .non H', rt := Q } (start ["text", "found"] vs) H := up_run (tw := fun W => tw_read_strengths K W) (c_read_strengths X.da L) (N := ["text", "found"]) rfl h
def m_law_cell : MS :=
  (mSeq (mIfS (mB (mOp nLt (mVar 1) (mCB nLen (mCons (mVar 0) mNil)))) (mRet (mOp nIx (mVar 0) (mVar 1))) mNext)
    (mRet (mOp nAdd (mOp nMul (mC (.int 7919)) (mVar 1)) (mC (.int 131)))))
def f_law_cell : MP := dfn 2 2 (fun _ => m_law_cell)
abbrev sp_law_cell (K : PySem.W.Frag) : Sp := up K f_law_cell
def t_law_cell (K : PySem.W.Frag) : TS :=
  (tSeq (tIfS (tTest (tOp rLtA (tVar 1) (tCB (rLenB K) (tCons (tVar 0) tNil)))) (tRet (tOp (rIxB K) (tVar 0) (tVar 1))) tNext)
    (tRet (tOp (rAddA K) (tOp rMulA (tC (.int 7919)) (tVar 1)) (tC (.int 131)))))
theorem c_law_cell {K : PySem.W.Frag} : SS K (fun _ => t_law_cell K) (fun _ => m_law_cell) := by
  unfold t_law_cell m_law_cell 
  exact (S_seq (S_if (E_test (E_op O_lt (E_var 1) (E_cb C_len (E_cons (E_var 0) E_nil)))) (S_ret (E_op O_ix (E_var 0) (E_var 1))) S_next)
    (S_ret (E_op O_add (E_op O_mul (E_int 7919) (E_var 1)) (E_int 131))))
theorem len_law_cell (K : PySem.W.Frag) : ∀ vs H Q E, sp_law_cell K vs H Q E → vs.length = (["script", "k"] : List Str).length := fun _ _ _ _ h => up_len h
theorem pure_law_cell (K : PySem.W.Frag) (vs : List V) (H : Hp) (Q : VK) (E : XK) (h : sp_law_cell K vs H Q E) : t_law_cell K { nx := fun _ H' => Q .non H', rt := Q } (start ["script", "k"] vs) H := up_run (tw := fun _ => t_law_cell K) (c_law_cell) (N := ["script", "k"]) rfl h
def m_law_box : MS :=
  (mRet (mCell (mLst (mCons (mCB nMax (mCons (mC (.int 0)) (mCons (mOp nSub (mVar 0) (mOp nPow (mC (.int 10)) (mC (.int 18)))) mNil))) (mCons (mOp nMod (mVar 0) (mC (.int 2147483629))) (mCons (mC (.int 0)) mNil))))))
def f_law_box : MP := dfn 1 1 (fun _ => m_law_box)
abbrev sp_law_box (K : PySem.W.Frag) : Sp := up K f_law_box
def t_law_box (K : PySem.W.Frag) : TS :=
  (tRet (tLst (tCons (tCB (rMaxA K) (tCons (tC (.int 0)) (tCons (tOp rSubA (tVar 0) (tOp rPowA (tC (.int 10)) (tC (.int 18)))) tNil))) (tCons (tOp rModA (tVar 0) (tC (.int 2147483629))) (tCons (tC (.int 0)) tNil)))))
theorem c_law_box {K : PySem.W.Frag} : SS K (fun _ => t_law_box K) (fun _ => m_law_box) := by
  unfold t_law_box m_law_box 
  exact (S_ret (E_cell (N_lst (E_cons (E_cb C_max (E_cons (E_int 0) (E_cons (E_op O_sub (E_var 0) (E_op O_pow (E_int 10) (E_int 18))) E_nil))) (E_cons (E_op O_mod (E_var 0) (E_int 2147483629)) (E_cons (E_int 0) E_nil))))))
theorem len_law_box (K : PySem.W.Frag) : ∀ vs H Q E, sp_law_box K vs H Q E → vs.length = (["cell"] : List Str).length := fun _ _ _ _ h => up_len h
theorem pure_law_box (K : PySem.W.Frag) (vs : List V) (H : Hp) (Q : VK) (E : XK) (h : sp_law_box K vs H Q E) : t_law_box K { nx := fun _ H' => Q .non H', rt := Q } (start ["cell"] vs) H := up_run (tw := fun _ => t_law_box K) (c_law_box) (N := ["cell"]) rfl h
def m_law_take : MS :=
  (mSeq (mIfS (mB (mOp nGt (mOp nIx (mVar 0) (mC (.int 0))) (mC (.int 0)))) (mSeq (mAsg (mOp nMod (mOp nIx (mVar 0) (mC (.int 0))) (mVar 1)) (hName 2))
    (mSeq (mAsg (mOp nDiv (mOp nIx (mVar 0) (mC (.int 0))) (mVar 1)) (hSub (mVar 0) (mC (.int 0)) nSet))
    (mRet (mVar 2)))) mNext)
    (mSeq (mAsg (mOp nAdd (mOp nIx (mVar 0) (mC (.int 2))) (mC (.int 1))) (hSub (mVar 0) (mC (.int 2)) nSet))
    (mSeq (mAsg (mOp nMod (mOp nPow (mOp nAdd (mOp nAdd (mOp nIx (mVar 0) (mC (.int 1))) (mOp nMul (mC (.int 7919)) (mOp nIx (mVar 0) (mC (.int 2))))) (mC (.int 43))) (mC (.int 5))) (mC (.int 2147483647))) (hName 3))
    (mSeq (mAsg (mOp nMod (mOp nPow (mOp nAdd (mVar 3) (mOp nMul (mC (.int 104729)) (mOp nIx (mVar 0) (mC (.int 2))))) (mC (.int 3))) (mC (.int 2147483587))) (hName 3))
    (mRet (mOp nMod (mOp nDiv (mVar 3) (mC (.int 8))) (mVar 1)))))))
def f_law_take : MP := dfn 4 2 (fun _ => m_law_take)
abbrev sp_law_take (K : PySem.W.Frag) : Sp := up K f_law_take
def t_law_take (K : PySem.W.Frag) : TS :=
  (tSeq (tIfS (tTest (tOp rGtA (tOp (rIxB K) (tVar 0) (tC (.int 0))) (tC (.int 0)))) (tSeq (tAsg (tOp rModA (tOp (rIxB K) (tVar 0) (tC (.int 0))) (tVar 1)) (gName 2))
    (tSeq (tAsg (tOp rDivA (tOp (rIxB K) (tVar 0) (tC (.int 0))) (tVar 1)) (gSub (tVar 0) (tC (.int 0)) rSetB))
    (tRet (tVar 2)))) tNext)
    (tSeq (tAsg (tOp (rAddA K) (tOp (rIxB K) (tVar 0) (tC (.int 2))) (tC (.int 1))) (gSub (tVar 0) (tC (.int 2)) rSetB))
    (tSeq (tAsg (tOp rModA (tOp rPowA (tOp (rAddA K) (tOp (rAddA K) (tOp (rIxB K) (tVar 0) (tC (.int 1))) (tOp rMulA (tC (.int 7919)) (tOp (rIxB K) (tVar 0) (tC (.int 2))))) (tC (.int 43))) (tC (.int 5))) (tC (.int 2147483647))) (gName 3))
    (tSeq (tAsg (tOp rModA (tOp rPowA (tOp (rAddA K) (tVar 3) (tOp rMulA (tC (.int 104729)) (tOp (rIxB K) (tVar 0) (tC (.int 2))))) (tC (.int 3))) (tC (.int 2147483587))) (gName 3))
    (tRet (tOp rModA (tOp rDivA (tVar 3) (tC (.int 8))) (tVar 1)))))))
theorem c_law_take {K : PySem.W.Frag} : SS K (fun _ => t_law_take K) (fun _ => m_law_take) := by
  unfold t_law_take m_law_take 
  exact (S_seq (S_if (E_test (E_op O_gt (E_op O_ix (E_var 0) (E_int 0)) (E_int 0))) (S_seq (S_asg (E_op O_mod (E_op O_ix (E_var 0) (E_int 0)) (E_var 1)) (G_name 2))
    (S_seq (S_asg (E_op O_div (E_op O_ix (E_var 0) (E_int 0)) (E_var 1)) (G_sub O_set (E_var 0) (E_int 0)))
    (S_ret (E_var 2)))) S_next)
    (S_seq (S_asg (E_op O_add (E_op O_ix (E_var 0) (E_int 2)) (E_int 1)) (G_sub O_set (E_var 0) (E_int 2)))
    (S_seq (S_asg (E_op O_mod (E_op O_pow (E_op O_add (E_op O_add (E_op O_ix (E_var 0) (E_int 1)) (E_op O_mul (E_int 7919) (E_op O_ix (E_var 0) (E_int 2)))) (E_int 43)) (E_int 5)) (E_int 2147483647)) (G_name 3))
    (S_seq (S_asg (E_op O_mod (E_op O_pow (E_op O_add (E_var 3) (E_op O_mul (E_int 104729) (E_op O_ix (E_var 0) (E_int 2)))) (E_int 3)) (E_int 2147483587)) (G_name 3))
    (S_ret (E_op O_mod (E_op O_div (E_var 3) (E_int 8)) (E_var 1)))))))
theorem len_law_take (K : PySem.W.Frag) : ∀ vs H Q E, sp_law_take K vs H Q E → vs.length = (["box", "many"] : List Str).length := fun _ _ _ _ h => up_len h
theorem pure_law_take (K : PySem.W.Frag) (vs : List V) (H : Hp) (Q : VK) (E : XK) (h : sp_law_take K vs H Q E) : t_law_take K { nx := fun _ H' => Q .non H', rt := Q } (start ["box", "many", "digit", "number"] vs) H := up_run (tw := fun _ => t_law_take K) (c_law_take) (N := ["box", "many", "digit", "number"]) rfl h
def m_law_mixed : MS :=
  (mSeq (mAsg (mCell (mCB nList (mCons (mVar 1) mNil))) (hName 2))
    (mRet (mLc (mRng1 (mCons (mCB nLen (mCons (mVar 1) mNil)) mNil)) (hName 3) mYes (mBM "list" nPop (mVar 2) (mCons (mCall f_law_take (mCons (mVar 0) (mCons (mCB nLen (mCons (mVar 2) mNil)) mNil))) mNil)) [3])))
def f_law_mixed : MP := dfn 4 2 (fun _ => m_law_mixed)
abbrev sp_law_mixed (K : PySem.W.Frag) : Sp := up K f_law_mixed
def t_law_mixed (K : PySem.W.Frag) : TS :=
  (tSeq (tAsg (tCB (rListA K) (tCons (tVar 1) tNil)) (gName 2))
    (tRet (tLc (iRng1 (tCons (tCB (rLenB K) (tCons (tVar 1) tNil)) tNil)) (gName 3) tYes (tBMW K "list" rPopA (tVar 2) (tCons (tCall (sp_law_take K) [] E0 (tCons (tVar 0) (tCons (tCB (rLenB K) (tCons (tVar 2) tNil)) tNil))) tNil)) [3])))
theorem c_law_mixed {K : PySem.W.Frag} : SS K (fun _ => t_law_mixed K) (fun _ => m_law_mixed) := by
  unfold t_law_mixed m_law_mixed 
  exact (S_seq (S_asg (E_cell (N_list (E_cons (E_var 1) E_nil))) (G_name 2))
    (S_ret (E_lc (I_rng1 (E_cons (E_cb C_len (E_cons (E_var 1) E_nil)) E_nil)) (V_name 3 (by decide)) E_yes (E_bm M_pop (E_var 2) (E_cons (E_call f_law_take (E_cons (E_var 0) (E_cons (E_cb C_len (E_cons (E_var 2) E_nil)) E_nil))) E_nil)))))
theorem len_law_mixed (K : PySem.W.Frag) : ∀ vs H Q E, sp_law_mixed K vs H Q E → vs.length = (["box", "some"] : List Str).length := fun _ _ _ _ h => up_len h
theorem pure_law_mixed (K : PySem.W.Frag) (vs : List V) (H : Hp) (Q : VK) (E : XK) (h : sp_law_mixed K vs H Q E) : t_law_mixed K { nx := fun _ H' => Q .non H', rt := Q } (start ["box", "some", "left", "k"] vs) H := up_run (tw := fun _ => t_law_mixed K) (c_law_mixed) (N := ["box", "some", "left", "k"]) rfl h
def m_law_names : MS :=
  (mSeq (mAsg (mC (.str "abcdefghijklmnopqrstuvwxyz")) (hName 2))
    (mSeq (mIfS (mB (mOp nEq (mCall f_law_take (mCons (mVar 0) (mCons (mC (.int 7)) mNil))) (mC (.int 0)))) (mSeq (mAsg (mLst (mCons (mC (.str "begin")) (mCons (mC (.str "empty")) (mCons (mC (.str "rest")) (mCons (mC (.str "step")) (mCons (mC (.str "end")) (mCons (mC (.str "look")) (mCons (mC (.str "old")) (mCons (mC (.str "new")) (mCons (mC (.str "put")) (mCons (mC (.str "part")) (mCons (mC (.str "move")) (mCons (mC (.str "split")) (mCons (mC (.str "lock")) mNil)))))))))))))) (hName 3))
    (mRet (mSl nSl (mCall f_law_mixed (mCons (mVar 0) (mCons (mVar 3) mNil))) mNoPart (mPart (mVar 1))))) mNext)
    (mSeq (mAsg (mOp nIx (mLst (mCons (mC (.str "")) (mCons (mC (.str "a")) (mCons (mC (.str "tabl")) (mCons (mC (.str "rest")) (mCons (mC (.str "part")) (mCons (mC (.str "zzzzzzz")) mNil))))))) (mCall f_law_take (mCons (mVar 0) (mCons (mC (.int 6)) mNil)))) (hName 4))
    (mSeq (mPar3 5 6 7 (mCons (mCall f_law_take (mCons (mVar 0) (mCons (mC (.int 26)) mNil))) (mCons (mOp nIx (mLst (mCons (mC (.int 1)) (mCons (mC (.int 3)) (mCons (mC (.int 5)) (mCons (mC (.int 7)) (mCons (mC (.int 9)) (mCons (mC (.int 11)) mNil))))))) (mCall f_law_take (mCons (mVar 0) (mCons (mC (.int 6)) mNil)))) (mCons (mCall f_law_take (mCons (mVar 0) (mCons (mC (.int 3)) mNil))) mNil))))
    (mSeq (mAsg (mCell (mLst mNil)) (hName 8))
    (mSeq (mFor (mRng1 (mCons (mVar 1) mNil)) (hName 9) (mSeq (mAsg (mOp nIx (mVar 2) (mOp nMod (mOp nAdd (mVar 5) (mOp nMul (mVar 6) (mVar 9))) (mC (.int 26)))) (hName 10))
    (mSeq (mAsg (mOp nIx (mLst (mCons (mOp nAdd (mVar 4) (mVar 10)) (mCons (mOp nAdd (mVar 10) (mVar 4)) (mCons (mVar 10) mNil)))) (mIf (mB (mOp nGt (mVar 9) (mC (.int 0)))) (mVar 7) (mC (.int 0)))) (hName 11))
    (mDrop (mBM "list" nAppend (mVar 8) (mCons (mIf (mB (mOp nEq (mVar 11) (mC (.str "table")))) (mC (.str "tables")) (mVar 11)) mNil))))))
    (mRet (mVar 8))))))))
def f_law_names : MP := dfn 12 2 (fun _ => m_law_names)
abbrev sp_law_names (K : PySem.W.Frag) : Sp := up K f_law_names
def t_law_names (K : PySem.W.Frag) : TS :=
  (tSeq (tAsg (tC (.str "abcdefghijklmnopqrstuvwxyz")) (gName 2))
    (tSeq (tIfS (tTest (tOp (rEqA K) (tCall (sp_law_take K) [] E0 (tCons (tVar 0) (tCons (tC (.int 7)) tNil))) (tC (.int 0)))) (tSeq (tAsg (tLst (tCons (tC (.str "begin")) (tCons (tC (.str "empty")) (tCons (tC (.str "rest")) (tCons (tC (.str "step")) (tCons (tC (.str "end")) (tCons (tC (.str "look")) (tCons (tC (.str "old")) (tCons (tC (.str "new")) (tCons (tC (.str "put")) (tCons (tC (.str "part")) (tCons (tC (.str "move")) (tCons (tC (.str "split")) (tCons (tC (.str "lock")) tNil)))))))))))))) (gName 3))
    (tRet (tSl (rSlA K) (tCall (sp_law_mixed K) [] E0 (tCons (tVar 0) (tCons (tVar 3) tNil))) tNoPart (tPart (tVar 1))))) tNext)
    (tSeq (tAsg (tOp (rIxB K) (tLst (tCons (tC (.str "")) (tCons (tC (.str "a")) (tCons (tC (.str "tabl")) (tCons (tC (.str "rest")) (tCons (tC (.str "part")) (tCons (tC (.str "zzzzzzz")) tNil))))))) (tCall (sp_law_take K) [] E0 (tCons (tVar 0) (tCons (tC (.int 6)) tNil)))) (gName 4))
    (tSeq (tPar3 5 6 7 (tCons (tCall (sp_law_take K) [] E0 (tCons (tVar 0) (tCons (tC (.int 26)) tNil))) (tCons (tOp (rIxB K) (tLst (tCons (tC (.int 1)) (tCons (tC (.int 3)) (tCons (tC (.int 5)) (tCons (tC (.int 7)) (tCons (tC (.int 9)) (tCons (tC (.int 11)) tNil))))))) (tCall (sp_law_take K) [] E0 (tCons (tVar 0) (tCons (tC (.int 6)) tNil)))) (tCons (tCall (sp_law_take K) [] E0 (tCons (tVar 0) (tCons (tC (.int 3)) tNil))) tNil))))
    (tSeq (tAsg (tLst tNil) (gName 8))
    (tSeq (tFor (iRng1 (tCons (tVar 1) tNil)) (gName 9) (tSeq (tAsg (tOp (rIxB K) (tVar 2) (tOp rModA (tOp (rAddA K) (tVar 5) (tOp rMulA (tVar 6) (tVar 9))) (tC (.int 26)))) (gName 10))
    (tSeq (tAsg (tOp (rIxB K) (tLst (tCons (tOp (rAddA K) (tVar 4) (tVar 10)) (tCons (tOp (rAddA K) (tVar 10) (tVar 4)) (tCons (tVar 10) tNil)))) (tIf (tTest (tOp rGtA (tVar 9) (tC (.int 0)))) (tVar 7) (tC (.int 0)))) (gName 11))
    (tDrop (tBMW K "list" rAppend (tVar 8) (tCons (tIf (tTest (tOp (rEqA K) (tVar 11) (tC (.str "table")))) (tC (.str "tables")) (tVar 11)) tNil))))))
    (tRet (tVar 8))))))))
theorem c_law_names {K : PySem.W.Frag} : SS K (fun _ => t_law_names K) (fun _ => m_law_names) := by
  unfold t_law_names m_law_names 
  exact (S_seq (S_asg (E_str (by decide)) (G_name 2))
    (S_seq (S_if (E_test (E_op O_eq (E_call f_law_take (E_cons (E_var 0) (E_cons (E_int 7) E_nil))) (E_int 0))) (S_seq (S_asg (E_lst (E_cons (E_str (by decide)) (E_cons (E_str (by decide)) (E_cons (E_str (by decide)) (E_cons (E_str (by decide)) (E_cons (E_str (by decide)) (E_cons (E_str (by decide)) (E_cons (E_str (by decide)) (E_cons (E_str (by decide)) (E_cons (E_str (by decide)) (E_cons (E_str (by decide)) (E_cons (E_str (by decide)) (E_cons (E_str (by decide)) (E_cons (E_str (by decide)) E_nil)))))))))))))) (G_name 3))
    (S_ret (E_sl O_sl (E_call f_law_mixed (E_cons (E_var 0) (E_cons (E_var 3) E_nil))) E_nopart (E_part (E_var 1))))) S_next)
    (S_seq (S_asg (E_op O_ix (E_lst (E_cons (E_str (by decide)) (E_cons (E_str (by decide)) (E_cons (E_str (by decide)) (E_cons (E_str (by decide)) (E_cons (E_str (by decide)) (E_cons (E_str (by decide)) E_nil))))))) (E_call f_law_take (E_cons (E_var 0) (E_cons (E_int 6) E_nil)))) (G_name 4))
    (S_seq (S_par3 (E_cons (E_call f_law_take (E_cons (E_var 0) (E_cons (E_int 26) E_nil))) (E_cons (E_op O_ix (E_lst (E_cons (E_int 1) (E_cons (E_int 3) (E_cons (E_int 5) (E_cons (E_int 7) (E_cons (E_int 9) (E_cons (E_int 11) E_nil))))))) (E_call f_law_take (E_cons (E_var 0) (E_cons (E_int 6) E_nil)))) (E_cons (E_call f_law_take (E_cons (E_var 0) (E_cons (E_int 3) E_nil))) E_nil))))
    (S_seq (S_asg (E_cell (N_lst E_nil)) (G_name 8))
    (S_seq (S_for (I_rng1 (E_cons (E_var 1) E_nil)) (G_name 9) (S_seq (S_asg (E_op O_ix (E_var 2) (E_op O_mod (E_op O_add (E_var 5) (E_op O_mul (E_var 6) (E_var 9))) (E_int 26))) (G_name 10))
    (S_seq (S_asg (E_op O_ix (E_lst (E_cons (E_op O_add (E_var 4) (E_var 10)) (E_cons (E_op O_add (E_var 10) (E_var 4)) (E_cons (E_var 10) E_nil)))) (E_if (E_test (E_op O_gt (E_var 9) (E_int 0))) (E_var 7) (E_int 0))) (G_name 11))
    (S_drop (E_bm M_append (E_var 8) (E_cons (E_if (E_test (E_op O_eq (E_var 11) (E_str (by decide)))) (E_str (by decide)) (E_var 11)) E_nil))))))
    (S_ret (E_var 8))))))))
theorem len_law_names (K : PySem.W.Frag) : ∀ vs H Q E, sp_law_names K vs H Q E → vs.length = (["box", "many"] : List Str).length := fun _ _ _ _ h => up_len h
theorem pure_law_names (K : PySem.W.Frag) (vs : List V) (H : Hp) (Q : VK) (E : XK) (h : sp_law_names K vs H Q E) : t_law_names K { nx := fun _ H' => Q .non H', rt := Q } (start ["box", "many", "letters", "words", "stem", "first", "step", "way", "found", "k", "sign", "name"] vs) H := up_run (tw := fun _ => t_law_names K) (c_law_names) (N := ["box", "many", "letters", "words", "stem", "first", "step", "way", "found", "k", "sign", "name"]) rfl h
def l_law_modes_2 : MS :=
  (mIfS (mB (mOp nEq (mCall f_law_take (mCons (mVar 0) (mCons (mVar 4) mNil))) (mC (.int 0)))) (mDrop (mBM "list" nAppend (mVar 3) (mCons (mTup (mCons (mVar 5) (mCons (mVar 6) mNil))) mNil))) mNext)
def l_law_modes_1 : MS :=
  (mFor (mAny (mVar 2)) (hName 6) l_law_modes_2)
def b_law_modes_3 : MS :=
  (mRet (mLst (mCons (mVar 2) (mCons (mVar 3) mNil))))
def b_law_modes_2 : MS :=
  mSeq (mFor (mAny (mVar 2)) (hName 5) l_law_modes_1) b_law_modes_3
def b_law_modes_1 : MS :=
  mSeq (mPar 3 4 (mCons (mCell (mLst mNil)) (mCons (mOp nIx (mLst (mCons (mC (.int 2)) (mCons (mC (.int 3)) (mCons (mC (.int 4)) mNil)))) (mCall f_law_take (mCons (mVar 0) (mCons (mC (.int 3)) mNil)))) mNil))) b_law_modes_2
def m_law_modes : MS :=
  mSeq (mAsg (mCall f_law_names (mCons (mVar 0) (mCons (mOp nAdd (mC (.int 1)) (mCall f_law_take (mCons (mVar 0) (mCons (mVar 1) mNil)))) mNil))) (hName 2)) b_law_modes_1
def f_law_modes : MP := dfn 7 2 (fun _ => m_law_modes)
abbrev sp_law_modes (K : PySem.W.Frag) : Sp := up K f_law_modes
def t_law_modes (K : PySem.W.Frag) : TS :=
  (tSeq (tAsg (tCall (sp_law_names K) [] E0 (tCons (tVar 0) (tCons (tOp (rAddA K) (tC (.int 1)) (tCall (sp_law_take K) [] E0 (tCons (tVar 0) (tCons (tVar 1) tNil)))) tNil))) (gName 2))
    (tSeq (tPar 3 4 (tCons (tLst tNil) (tCons (tOp (rIxB K) (tLst (tCons (tC (.int 2)) (tCons (tC (.int 3)) (tCons (tC (.int 4)) tNil)))) (tCall (sp_law_take K) [] E0 (tCons (tVar 0) (tCons (tC (.int 3)) tNil)))) tNil)))
    (tSeq (tFor (iSeq K (tVar 2)) (gName 5) (tFor (iSeq K (tVar 2)) (gName 6) (tIfS (tTest (tOp (rEqA K) (tCall (sp_law_take K) [] E0 (tCons (tVar 0) (tCons (tVar 4) tNil))) (tC (.int 0)))) (tDrop (tBMW K "list" rAppend (tVar 3) (tCons (tTup (tCons (tVar 5) (tCons (tVar 6) tNil))) tNil))) tNext)))
    (tRet (tLst (tCons (tVar 2) (tCons (tVar 3) tNil)))))))
theorem c_law_modes {K : PySem.W.Frag} : SS K (fun _ => t_law_modes K) (fun _ => m_law_modes) := by
  unfold t_law_modes m_law_modes b_law_modes_1 b_law_modes_2 b_law_modes_3 l_law_modes_1 l_law_modes_2
  exact (S_seq (S_asg (E_call f_law_names (E_cons (E_var 0) (E_cons (E_op O_add (E_int 1) (E_call f_law_take (E_cons (E_var 0) (E_cons (E_var 1) E_nil)))) E_nil))) (G_name 2))
    (S_seq (S_par (E_cons (E_cell (N_lst E_nil)) (E_cons (E_op O_ix (E_lst (E_cons (E_int 2) (E_cons (E_int 3) (E_cons (E_int 4) E_nil)))) (E_call f_law_take (E_cons (E_var 0) (E_cons (E_int 3) E_nil)))) E_nil)))
    (S_seq (S_for (I_seq (E_var 2)) (G_name 5) (S_for (I_seq (E_var 2)) (G_name 6) (S_if (E_test (E_op O_eq (E_call f_law_take (E_cons (E_var 0) (E_cons (E_var 4) E_nil))) (E_int 0))) (S_drop (E_bm M_append (E_var 3) (E_cons (E_tup (E_cons (E_var 5) (E_cons (E_var 6) E_nil))) E_nil))) S_next)))
    (S_ret (E_lst (E_cons (E_var 2) (E_cons (E_var 3) E_nil)))))))
theorem len_law_modes (K : PySem.W.Frag) : ∀ vs H Q E, sp_law_modes K vs H Q E → vs.length = (["box", "most"] : List Str).length := fun _ _ _ _ h => up_len h
theorem pure_law_modes (K : PySem.W.Frag) (vs : List V) (H : Hp) (Q : VK) (E : XK) (h : sp_law_modes K vs H Q E) : t_law_modes K { nx := fun _ H' => Q .non H', rt := Q } (start ["box", "most", "modes", "pairs", "chance", "one", "other"] vs) H := up_run (tw := fun _ => t_law_modes K) (c_law_modes) (N := ["box", "most", "modes", "pairs", "chance", "one", "other"]) rfl h
def m_law_against : MS :=
  (mRet (mLc (mAny (mOp nIx (mVar 0) (mC (.int 0)))) (hName 2) ((mOr (mB (mOp nIn (mTup (mCons (mVar 1) (mCons (mVar 2) mNil))) (mOp nIx (mVar 0) (mC (.int 1))))) (mB (mOp nIn (mTup (mCons (mVar 2) (mCons (mVar 1) mNil))) (mOp nIx (mVar 0) (mC (.int 1))))))) (mVar 2) [2]))
def f_law_against : MP := dfn 3 2 (fun _ => m_law_against)
abbrev sp_law_against (K : PySem.W.Frag) : Sp := up K f_law_against
def t_law_against (K : PySem.W.Frag) : TS :=
  (tRet (tLc (iSeq K (tOp (rIxB K) (tVar 0) (tC (.int 0)))) (gName 2) ((tOr (tTest (tOp (rInB K) (tTup (tCons (tVar 1) (tCons (tVar 2) tNil))) (tOp (rIxB K) (tVar 0) (tC (.int 1))))) (tTest (tOp (rInB K) (tTup (tCons (tVar 2) (tCons (tVar 1) tNil))) (tOp (rIxB K) (tVar 0) (tC (.int 1))))))) (tVar 2) [2]))
theorem c_law_against {K : PySem.W.Frag} : SS K (fun _ => t_law_against K) (fun _ => m_law_against) := by
  unfold t_law_against m_law_against 
  exact (S_ret (E_lc (I_seq (E_op O_ix (E_var 0) (E_int 0))) (V_name 2 (by decide)) ((E_or (E_test (E_op O_in (E_tup (E_cons (E_var 1) (E_cons (E_var 2) E_nil))) (E_op O_ix (E_var 0) (E_int 1)))) (E_test (E_op O_in (E_tup (E_cons (E_var 2) (E_cons (E_var 1) E_nil))) (E_op O_ix (E_var 0) (E_int 1)))))) (E_var 2)))
theorem len_law_against (K : PySem.W.Frag) : ∀ vs H Q E, sp_law_against K vs H Q E → vs.length = (["model", "mode"] : List Str).length := fun _ _ _ _ h => up_len h
theorem pure_law_against (K : PySem.W.Frag) (vs : List V) (H : Hp) (Q : VK) (E : XK) (h : sp_law_against K vs H Q E) : t_law_against K { nx := fun _ H' => Q .non H', rt := Q } (start ["model", "mode", "other"] vs) H := up_run (tw := fun _ => t_law_against K) (c_law_against) (N := ["model", "mode", "other"]) rfl h
def m_law_pairs : MS :=
  (mSeq (mAsg (mOp nIx (mVar 0) (mC (.int 0))) (hName 1))
    (mSeq (mAsg (mLst mNil) (hName 2))
    (mSeq (mFor (mRng1 (mCons (mCB nLen (mCons (mVar 1) mNil)) mNil)) (hName 3) (mAsg (mOp nAdd (mVar 2) (mLc (mAny (mSl nSl (mVar 1) (mPart (mVar 3)) mNoPart)) (hName 4) (mB (mOp nIn (mVar 4) (mCall f_law_against (mCons (mVar 0) (mCons (mOp nIx (mVar 1) (mVar 3)) mNil))))) (mTup (mCons (mOp nIx (mVar 1) (mVar 3)) (mCons (mVar 4) mNil))) [4])) (hName 2)))
    (mRet (mVar 2)))))
def f_law_pairs : MP := dfn 5 1 (fun _ => m_law_pairs)
abbrev sp_law_pairs (K : PySem.W.Frag) : Sp := up K f_law_pairs
def t_law_pairs (K : PySem.W.Frag) : TS :=
  (tSeq (tAsg (tOp (rIxB K) (tVar 0) (tC (.int 0))) (gName 1))
    (tSeq (tAsg (tLst tNil) (gName 2))
    (tSeq (tFor (iRng1 (tCons (tCB (rLenB K) (tCons (tVar 1) tNil)) tNil)) (gName 3) (tAsg (tOp (rAddA K) (tVar 2) (tLc (iSeq K (tSl (rSlA K) (tVar 1) (tPart (tVar 3)) tNoPart)) (gName 4) (tTest (tOp (rInB K) (tVar 4) (tCall (sp_law_against K) [] E0 (tCons (tVar 0) (tCons (tOp (rIxB K) (tVar 1) (tVar 3)) tNil))))) (tTup (tCons (tOp (rIxB K) (tVar 1) (tVar 3)) (tCons (tVar 4) tNil))) [4])) (gName 2)))
    (tRet (tVar 2)))))
theorem c_law_pairs {K : PySem.W.Frag} : SS K (fun _ => t_law_pairs K) (fun _ => m_law_pairs) := by
  unfold t_law_pairs m_law_pairs 
  exact (S_seq (S_asg (E_op O_ix (E_var 0) (E_int 0)) (G_name 1))
    (S_seq (S_asg (E_lst E_nil) (G_name 2))
    (S_seq (S_for (I_rng1 (E_cons (E_cb C_len (E_cons (E_var 1) E_nil)) E_nil)) (G_name 3) (S_asg (E_op O_add (E_var 2) (E_lc (I_seq (E_sl O_sl (E_var 1) (E_part (E_var 3)) E_nopart)) (V_name 4 (by decide)) (E_test (E_op O_in (E_var 4) (E_call f_law_against (E_cons (E_var 0) (E_cons (E_op O_ix (E_var 1) (E_var 3)) E_nil))))) (E_tup (E_cons (E_op O_ix (E_var 1) (E_var 3)) (E_cons (E_var 4) E_nil))))) (G_name 2)))
    (S_ret (E_var 2)))))
theorem len_law_pairs (K : PySem.W.Frag) : ∀ vs H Q E, sp_law_pairs K vs H Q E → vs.length = (["model"] : List Str).length := fun _ _ _ _ h => up_len h
theorem pure_law_pairs (K : PySem.W.Frag) (vs : List V) (H : Hp) (Q : VK) (E : XK) (h : sp_law_pairs K vs H Q E) : t_law_pairs K { nx := fun _ H' => Q .non H', rt := Q } (start ["model", "modes", "found", "k", "other"] vs) H := up_run (tw := fun _ => t_law_pairs K) (c_law_pairs) (N := ["model", "modes", "found", "k", "other"]) rfl h
def b_law_text_1 : MS :=
  (mRet (mOp nAdd (mBM "str" nJoin (mC (.str " ")) (mCons (mOp nIx (mVar 0) (mC (.int 0))) mNil)) (mIf (mB (mOp nNe (mVar 1) (mC (.str "")))) (mOp nAdd (mC (.str ": ")) (mVar 1)) (mC (.str "")))))
def m_law_text : MS :=
  mSeq (mAsg (mBM "str" nJoin (mC (.str " ")) (mCons (mLc (mAny (mCall f_law_pairs (mCons (mVar 0) mNil))) (hTup 2 (hCons (hName 2) (hCons (hName 3) hNil))) mYes (mOp nAdd (mOp nAdd (mVar 2) (mC (.str "!"))) (mVar 3)) [2, 3]) mNil)) (hName 1)) b_law_text_1
def f_law_text : MP := dfn 4 1 (fun _ => m_law_text)
abbrev sp_law_text (K : PySem.W.Frag) : Sp := up K f_law_text
def t_law_text (K : PySem.W.Frag) : TS :=
  (tSeq (tAsg (tBMW K "str" (rJoinA K) (tC (.str " ")) (tCons (tLc (iSeq K (tCall (sp_law_pairs K) [] E0 (tCons (tVar 0) tNil))) (gTup K 2 (gCons (gName 2) (gCons (gName 3) gNil))) tYes (tOp (rAddA K) (tOp (rAddA K) (tVar 2) (tC (.str "!"))) (tVar 3)) [2, 3]) tNil)) (gName 1))
    (tRet (tOp (rAddA K) (tBMW K "str" (rJoinA K) (tC (.str " ")) (tCons (tOp (rIxB K) (tVar 0) (tC (.int 0))) tNil)) (tIf (tTest (tOp (rNeA K) (tVar 1) (tC (.str "")))) (tOp (rAddA K) (tC (.str ": ")) (tVar 1)) (tC (.str ""))))))
theorem c_law_text {K : PySem.W.Frag} : SS K (fun _ => t_law_text K) (fun _ => m_law_text) := by
  unfold t_law_text m_law_text b_law_text_1
  exact (S_seq (S_asg (E_bm M_join (E_str (by decide)) (E_cons (E_lc (I_seq (E_call f_law_pairs (E_cons (E_var 0) E_nil))) (V_tup (V_cons (V_name 2 (by decide)) (V_cons (V_name 3 (by decide)) V_nil))) E_yes (E_op O_add (E_op O_add (E_var 2) (E_str (by decide))) (E_var 3))) E_nil)) (G_name 1))
    (S_ret (E_op O_add (E_bm M_join (E_str (by decide)) (E_cons (E_op O_ix (E_var 0) (E_int 0)) E_nil)) (E_if (E_test (E_op O_ne (E_var 1) (E_str (by decide)))) (E_op O_add (E_str (by decide)) (E_var 1)) (E_str (by decide))))))
theorem len_law_text (K : PySem.W.Frag) : ∀ vs H Q E, sp_law_text K vs H Q E → vs.length = (["model"] : List Str).length := fun _ _ _ _ h => up_len h
theorem pure_law_text (K : PySem.W.Frag) (vs : List V) (H : Hp) (Q : VK) (E : XK) (h : sp_law_text K vs H Q E) : t_law_text K { nx := fun _ H' => Q .non H', rt := Q } (start ["model", "pairs", "one", "other"] vs) H := up_run (tw := fun _ => t_law_text K) (c_law_text) (N := ["model", "pairs", "one", "other"]) rfl h
def m_law_is_name : MS :=
  (mSeq (mIfS ((mOr (mB (mOp nEq (mVar 0) (mC (.str "table")))) (mOr (mB (mOp nLt (mCB nLen (mCons (mVar 0) mNil)) (mC (.int 1)))) (mB (mOp nGt (mCB nLen (mCons (mVar 0) mNil)) (mC (.int 8))))))) (mRet (mC (.bl false))) mNext)
    (mRet (mOp nEq (mLc (mAny (mVar 0)) (hName 1) (mB (mOp nNin (mVar 1) (mC (.str "abcdefghijklmnopqrstuvwxyz")))) (mVar 1) [1]) (mLst mNil))))
def f_law_is_name : MP := dfn 2 1 (fun _ => m_law_is_name)
abbrev sp_law_is_name (K : PySem.W.Frag) : Sp := up K f_law_is_name
def t_law_is_name (K : PySem.W.Frag) : TS :=
  (tSeq (tIfS ((tOr (tTest (tOp (rEqA K) (tVar 0) (tC (.str "table")))) (tOr (tTest (tOp rLtA (tCB (rLenB K) (tCons (tVar 0) tNil)) (tC (.int 1)))) (tTest (tOp rGtA (tCB (rLenB K) (tCons (tVar 0) tNil)) (tC (.int 8))))))) (tRet (tC (.bl false))) tNext)
    (tRet (tOp (rEqA K) (tLc (iSeq K (tVar 0)) (gName 1) (tTest (tOp (rNinB K) (tVar 1) (tC (.str "abcdefghijklmnopqrstuvwxyz")))) (tVar 1) [1]) (tLst tNil))))
theorem c_law_is_name {K : PySem.W.Frag} : SS K (fun _ => t_law_is_name K) (fun _ => m_law_is_name) := by
  unfold t_law_is_name m_law_is_name 
  exact (S_seq (S_if ((E_or (E_test (E_op O_eq (E_var 0) (E_str (by decide)))) (E_or (E_test (E_op O_lt (E_cb C_len (E_cons (E_var 0) E_nil)) (E_int 1))) (E_test (E_op O_gt (E_cb C_len (E_cons (E_var 0) E_nil)) (E_int 8)))))) (S_ret (E_bl false)) S_next)
    (S_ret (E_op O_eq (E_lc (I_seq (E_var 0)) (V_name 1 (by decide)) (E_test (E_op O_nin (E_var 1) (E_str (by decide)))) (E_var 1)) (E_lst E_nil))))
theorem len_law_is_name (K : PySem.W.Frag) : ∀ vs H Q E, sp_law_is_name K vs H Q E → vs.length = (["value"] : List Str).length := fun _ _ _ _ h => up_len h
theorem pure_law_is_name (K : PySem.W.Frag) (vs : List V) (H : Hp) (Q : VK) (E : XK) (h : sp_law_is_name K vs H Q E) : t_law_is_name K { nx := fun _ H' => Q .non H', rt := Q } (start ["value", "sign"] vs) H := up_run (tw := fun _ => t_law_is_name K) (c_law_is_name) (N := ["value", "sign"]) rfl h
def b_law_read_L1_2 : MS :=
  (mDrop (mBM "list" nAppend (mVar 4) (mCons (mTup (mCons (mOp nIx (mVar 6) (mC (.int 0))) (mCons (mOp nIx (mVar 6) (mC (.int 1))) mNil))) mNil)))
def b_law_read_L1_1 : MS :=
  mSeq (mIfS ((mOr (mB (mOp nNe (mCB nLen (mCons (mVar 6) mNil)) (mC (.int 2)))) (mOr (mB (mOp nNin (mOp nIx (mVar 6) (mC (.int 0))) (mVar 2))) (mB (mOp nNin (mOp nIx (mVar 6) (mC (.int 1))) (mVar 2)))))) (mRet (mC .non)) mNext) b_law_read_L1_2
def l_law_read_1 : MS :=
  mSeq (mAsg (mBM "str" nSplit (mVar 5) (mCons (mC (.str "!")) mNil)) (hName 6)) b_law_read_L1_1
def b_law_read_6 : MS :=
  (mRet (mIf (mB (mOp nEq (mCallF f_law_text (mCons (mLst (mCons (mVar 2) (mCons (mVar 4) mNil))) mNil)) (mVar 0))) (mLst (mCons (mVar 2) (mCons (mVar 4) mNil))) (mC .non)))
def b_law_read_5 : MS :=
  mSeq (mFor (mAny (mIf (mB (mOp nEq (mCB nLen (mCons (mVar 1) mNil)) (mC (.int 2)))) (mBM "str" nSplit (mOp nIx (mVar 1) (mC (.int 1))) (mCons (mC (.str " ")) mNil)) (mLst mNil))) (hName 5) l_law_read_1) b_law_read_6
def b_law_read_4 : MS :=
  mSeq (mAsg (mCell (mLst mNil)) (hName 4)) b_law_read_5
def b_law_read_3 : MS :=
  mSeq (mIfS ((mOr (mB (mOp nGt (mCB nLen (mCons (mVar 1) mNil)) (mC (.int 2)))) (mOr (mB (mOp nNe (mVar 3) (mLst mNil))) (mB (mOp nGt (mCB nLen (mCons (mVar 2) mNil)) (mC (.int 8))))))) (mRet (mC .non)) mNext) b_law_read_4
def b_law_read_2 : MS :=
  mSeq (mAsg (mLc (mRng1 (mCons (mCB nLen (mCons (mVar 2) mNil)) mNil)) (hName 7) ((mOr (mNot (mB (mCall f_law_is_name (mCons (mOp nIx (mVar 2) (mVar 7)) mNil)))) (mB (mOp nIn (mOp nIx (mVar 2) (mVar 7)) (mSl nSl (mVar 2) mNoPart (mPart (mVar 7))))))) (mVar 7) [7]) (hName 3)) b_law_read_3
def b_law_read_1 : MS :=
  mSeq (mAsg (mBM "str" nSplit (mOp nIx (mVar 1) (mC (.int 0))) (mCons (mC (.str " ")) mNil)) (hName 2)) b_law_read_2
def m_law_read : MS :=
  mSeq (mAsg (mBM "str" nSplit (mVar 0) (mCons (mC (.str ": ")) mNil)) (hName 1)) b_law_read_1
def f_law_read : MP := dfn 8 1 (fun _ => m_law_read)
abbrev sp_law_read (K : PySem.W.Frag) : Sp := up K f_law_read
def t_law_read (K : PySem.W.Frag) : TS :=
  (tSeq (tAsg (tBMW K "str" rSplitA (tVar 0) (tCons (tC (.str ": ")) tNil)) (gName 1))
    (tSeq (tAsg (tBMW K "str" rSplitA (tOp (rIxB K) (tVar 1) (tC (.int 0))) (tCons (tC (.str " ")) tNil)) (gName 2))
    (tSeq (tAsg (tLc (iRng1 (tCons (tCB (rLenB K) (tCons (tVar 2) tNil)) tNil)) (gName 7) ((tOr (tNot (tB (tCall (sp_law_is_name K) [] E0 (tCons (tOp (rIxB K) (tVar 2) (tVar 7)) tNil)))) (tTest (tOp (rInB K) (tOp (rIxB K) (tVar 2) (tVar 7)) (tSl (rSlA K) (tVar 2) tNoPart (tPart (tVar 7))))))) (tVar 7) [7]) (gName 3))
    (tSeq (tIfS ((tOr (tTest (tOp rGtA (tCB (rLenB K) (tCons (tVar 1) tNil)) (tC (.int 2)))) (tOr (tTest (tOp (rNeA K) (tVar 3) (tLst tNil))) (tTest (tOp rGtA (tCB (rLenB K) (tCons (tVar 2) tNil)) (tC (.int 8))))))) (tRet (tC .non)) tNext)
    (tSeq (tAsg (tLst tNil) (gName 4))
    (tSeq (tFor (iSeq K (tIf (tTest (tOp (rEqA K) (tCB (rLenB K) (tCons (tVar 1) tNil)) (tC (.int 2)))) (tBMW K "str" rSplitA (tOp (rIxB K) (tVar 1) (tC (.int 1))) (tCons (tC (.str " ")) tNil)) (tLst tNil))) (gName 5) (tSeq (tAsg (tBMW K "str" rSplitA (tVar 5) (tCons (tC (.str "!")) tNil)) (gName 6))
    (tSeq (tIfS ((tOr (tTest (tOp (rNeA K) (tCB (rLenB K) (tCons (tVar 6) tNil)) (tC (.int 2)))) (tOr (tTest (tOp (rNinB K) (tOp (rIxB K) (tVar 6) (tC (.int 0))) (tVar 2))) (tTest (tOp (rNinB K) (tOp (rIxB K) (tVar 6) (tC (.int 1))) (tVar 2)))))) (tRet (tC .non)) tNext)
    (tDrop (tBMW K "list" rAppend (tVar 4) (tCons (tTup (tCons (tOp (rIxB K) (tVar 6) (tC (.int 0))) (tCons (tOp (rIxB K) (tVar 6) (tC (.int 1))) tNil))) tNil))))))
    (tRet (tIf (tTest (tOp (rEqA K) (tCall (sp_law_text K) [] E0 (tCons (tLst (tCons (tVar 2) (tCons (tVar 4) tNil))) tNil)) (tVar 0))) (tLst (tCons (tVar 2) (tCons (tVar 4) tNil))) (tC .non)))))))))
theorem c_law_read {K : PySem.W.Frag} : SS K (fun _ => t_law_read K) (fun _ => m_law_read) := by
  unfold t_law_read m_law_read b_law_read_1 b_law_read_2 b_law_read_3 b_law_read_4 b_law_read_5 b_law_read_6 l_law_read_1 b_law_read_L1_1 b_law_read_L1_2
  exact (S_seq (S_asg (E_bm M_split (E_var 0) (E_cons (E_str (by decide)) E_nil)) (G_name 1))
    (S_seq (S_asg (E_bm M_split (E_op O_ix (E_var 1) (E_int 0)) (E_cons (E_str (by decide)) E_nil)) (G_name 2))
    (S_seq (S_asg (E_lc (I_rng1 (E_cons (E_cb C_len (E_cons (E_var 2) E_nil)) E_nil)) (V_name 7 (by decide)) ((E_or (E_not (E_B (E_call f_law_is_name (E_cons (E_op O_ix (E_var 2) (E_var 7)) E_nil)))) (E_test (E_op O_in (E_op O_ix (E_var 2) (E_var 7)) (E_sl O_sl (E_var 2) E_nopart (E_part (E_var 7))))))) (E_var 7)) (G_name 3))
    (S_seq (S_if ((E_or (E_test (E_op O_gt (E_cb C_len (E_cons (E_var 1) E_nil)) (E_int 2))) (E_or (E_test (E_op O_ne (E_var 3) (E_lst E_nil))) (E_test (E_op O_gt (E_cb C_len (E_cons (E_var 2) E_nil)) (E_int 8)))))) (S_ret (E_non)) S_next)
    (S_seq (S_asg (E_cell (N_lst E_nil)) (G_name 4))
    (S_seq (S_for (I_seq (E_if (E_test (E_op O_eq (E_cb C_len (E_cons (E_var 1) E_nil)) (E_int 2))) (E_bm M_split (E_op O_ix (E_var 1) (E_int 1)) (E_cons (E_str (by decide)) E_nil)) (E_lst E_nil))) (G_name 5) (S_seq (S_asg (E_bm M_split (E_var 5) (E_cons (E_str (by decide)) E_nil)) (G_name 6))
    (S_seq (S_if ((E_or (E_test (E_op O_ne (E_cb C_len (E_cons (E_var 6) E_nil)) (E_int 2))) (E_or (E_test (E_op O_nin (E_op O_ix (E_var 6) (E_int 0)) (E_var 2))) (E_test (E_op O_nin (E_op O_ix (E_var 6) (E_int 1)) (E_var 2)))))) (S_ret (E_non)) S_next)
    (S_drop (E_bm M_append (E_var 4) (E_cons (E_tup (E_cons (E_op O_ix (E_var 6) (E_int 0)) (E_cons (E_op O_ix (E_var 6) (E_int 1)) E_nil))) E_nil))))))
    (S_ret (E_if (E_test (E_op O_eq (E_callF f_law_text (E_cons (E_lst (E_cons (E_var 2) (E_cons (E_var 4) E_nil))) E_nil)) (E_var 0))) (E_lst (E_cons (E_var 2) (E_cons (E_var 4) E_nil))) (E_non)))))))))
theorem len_law_read (K : PySem.W.Frag) : ∀ vs H Q E, sp_law_read K vs H Q E → vs.length = (["text"] : List Str).length := fun _ _ _ _ h => up_len h
theorem pure_law_read (K : PySem.W.Frag) (vs : List V) (H : Hp) (Q : VK) (E : XK) (h : sp_law_read K vs H Q E) : t_law_read K { nx := fun _ H' => Q .non H', rt := Q } (start ["text", "halves", "modes", "names", "pairs", "word", "parts", "k"] vs) H := up_run (tw := fun _ => t_law_read K) (c_law_read) (N := ["text", "halves", "modes", "names", "pairs", "word", "parts", "k"]) rfl h
def m_law_told : MS :=
  (mTry exT (("InvalidText", some 1, fun a dd => (mRet (mLst (mCons (mC (.str "text")) (mCons (mXf a dd "InvalidText" "value" 1) mNil))))) :: ([])) (fun W => (mRet (mLst (mCons (mC (.str "read")) (mCons (mCallS f_read_strengths (mCons (mVar 0) mNil) W) mNil))))) WD0)
def f_law_told : MP := dfn 2 1 (fun _ => m_law_told)
abbrev sp_law_told (K : PySem.W.Frag) : Sp := up K f_law_told
def t_law_told (K : PySem.W.Frag) : TS :=
  (tTry K (fun W => (tRet (tLst (tCons (tC (.str "read")) (tCons (tCallS (sp_read_strengths K) (WE W) (tCons (tVar 0) tNil)) tNil))))) (fun _ _ _ _ => False) ((.ref (He.ga K "InvalidText"), some 1, fun a cls d => (tRet (tLst (tCons (tC (.str "text")) (tCons (tXf a cls d (He.ga K "InvalidText") "value" (tVar 1)) tNil))))) :: ([])))
theorem c_law_told {K : PySem.W.Frag} (X : ExOk K exT) : SS K (fun _ => t_law_told K) (fun _ => m_law_told) := by
  unfold t_law_told m_law_told 
  exact (S_try0 X (S_ret (E_lst (E_cons (E_str (by decide)) (E_cons (E_callS f_read_strengths (E_cons (E_var 0) E_nil)) E_nil)))) (.as_ (fun a dd => (S_ret (E_lst (E_cons (E_str (by decide)) (E_cons (E_xf a dd _ _ 1) E_nil))))) .nil))
theorem len_law_told (K : PySem.W.Frag) : ∀ vs H Q E, sp_law_told K vs H Q E → vs.length = (["value"] : List Str).length := fun _ _ _ _ h => up_len h
theorem pure_law_told (K : PySem.W.Frag) (vs : List V) (H : Hp) (Q : VK) (E : XK) (X : Exm K) (h : sp_law_told K vs H Q E) : t_law_told K { nx := fun _ H' => Q .non H', rt := Q } (start ["value", "e"] vs) H := up_run (tw := fun _ => t_law_told K) (c_law_told X.da) (N := ["value", "e"]) rfl h
def b_law_bent_3 : MS :=
  (mRet (mOp nIx (mLst (mCons (mOp nAdd (mOp nAdd (mVar 4) (mVar 3)) (mSl nSl (mVar 1) (mPart (mVar 2)) mNoPart)) (mCons (mOp nAdd (mVar 4) (mVar 5)) (mCons (mOp nAdd (mOp nAdd (mVar 4) (mVar 3)) (mVar 5)) mNil)))) (mCall f_law_take (mCons (mVar 0) (mCons (mC (.int 3)) mNil)))))
def b_law_bent_2 : MS :=
  mSeq (mPar 4 5 (mCons (mSl nSl (mVar 1) mNoPart (mPart (mVar 2))) (mCons (mSl nSl (mVar 1) (mPart (mOp nAdd (mVar 2) (mC (.int 1)))) mNoPart) mNil))) b_law_bent_3
def b_law_bent_1 : MS :=
  mSeq (mAsg (mOp nIx (mLst (mCons (mC (.str " ")) (mCons (mC (.str "a")) (mCons (mC (.str "!")) (mCons (mC (.str ":")) (mCons (mC (.str ": ")) (mCons (mC (.str "0")) (mCons (mC (.str "table")) (mCons (mC (.str " pqa")) (mCons (mC (.str "!pqa")) (mCons (mC (.str "b!b")) (mCons (mC (.str "\n")) mNil)))))))))))) (mCall f_law_take (mCons (mVar 0) (mCons (mC (.int 11)) mNil)))) (hName 3)) b_law_bent_2
def m_law_bent : MS :=
  mSeq (mAsg (mCall f_law_take (mCons (mVar 0) (mCons (mOp nAdd (mCB nLen (mCons (mVar 1) mNil)) (mC (.int 1))) mNil))) (hName 2)) b_law_bent_1
def f_law_bent : MP := dfn 6 2 (fun _ => m_law_bent)
abbrev sp_law_bent (K : PySem.W.Frag) : Sp := up K f_law_bent
def t_law_bent (K : PySem.W.Frag) : TS :=
  (tSeq (tAsg (tCall (sp_law_take K) [] E0 (tCons (tVar 0) (tCons (tOp (rAddA K) (tCB (rLenB K) (tCons (tVar 1) tNil)) (tC (.int 1))) tNil))) (gName 2))
    (tSeq (tAsg (tOp (rIxB K) (tLst (tCons (tC (.str " ")) (tCons (tC (.str "a")) (tCons (tC (.str "!")) (tCons (tC (.str ":")) (tCons (tC (.str ": ")) (tCons (tC (.str "0")) (tCons (tC (.str "table")) (tCons (tC (.str " pqa")) (tCons (tC (.str "!pqa")) (tCons (tC (.str "b!b")) (tCons (tC (.str "\n")) tNil)))))))))))) (tCall (sp_law_take K) [] E0 (tCons (tVar 0) (tCons (tC (.int 11)) tNil)))) (gName 3))
    (tSeq (tPar 4 5 (tCons (tSl (rSlA K) (tVar 1) tNoPart (tPart (tVar 2))) (tCons (tSl (rSlA K) (tVar 1) (tPart (tOp (rAddA K) (tVar 2) (tC (.int 1)))) tNoPart) tNil)))
    (tRet (tOp (rIxB K) (tLst (tCons (tOp (rAddA K) (tOp (rAddA K) (tVar 4) (tVar 3)) (tSl (rSlA K) (tVar 1) (tPart (tVar 2)) tNoPart)) (tCons (tOp (rAddA K) (tVar 4) (tVar 5)) (tCons (tOp (rAddA K) (tOp (rAddA K) (tVar 4) (tVar 3)) (tVar 5)) tNil)))) (tCall (sp_law_take K) [] E0 (tCons (tVar 0) (tCons (tC (.int 3)) tNil))))))))
theorem c_law_bent {K : PySem.W.Frag} : SS K (fun _ => t_law_bent K) (fun _ => m_law_bent) := by
  unfold t_law_bent m_law_bent b_law_bent_1 b_law_bent_2 b_law_bent_3
  exact (S_seq (S_asg (E_call f_law_take (E_cons (E_var 0) (E_cons (E_op O_add (E_cb C_len (E_cons (E_var 1) E_nil)) (E_int 1)) E_nil))) (G_name 2))
    (S_seq (S_asg (E_op O_ix (E_lst (E_cons (E_str (by decide)) (E_cons (E_str (by decide)) (E_cons (E_str (by decide)) (E_cons (E_str (by decide)) (E_cons (E_str (by decide)) (E_cons (E_str (by decide)) (E_cons (E_str (by decide)) (E_cons (E_str (by decide)) (E_cons (E_str (by decide)) (E_cons (E_str (by decide)) (E_cons (E_str (by decide)) E_nil)))))))))))) (E_call f_law_take (E_cons (E_var 0) (E_cons (E_int 11) E_nil)))) (G_name 3))
    (S_seq (S_par (E_cons (E_sl O_sl (E_var 1) E_nopart (E_part (E_var 2))) (E_cons (E_sl O_sl (E_var 1) (E_part (E_op O_add (E_var 2) (E_int 1))) E_nopart) E_nil)))
    (S_ret (E_op O_ix (E_lst (E_cons (E_op O_add (E_op O_add (E_var 4) (E_var 3)) (E_sl O_sl (E_var 1) (E_part (E_var 2)) E_nopart)) (E_cons (E_op O_add (E_var 4) (E_var 5)) (E_cons (E_op O_add (E_op O_add (E_var 4) (E_var 3)) (E_var 5)) E_nil)))) (E_call f_law_take (E_cons (E_var 0) (E_cons (E_int 3) E_nil))))))))
theorem len_law_bent (K : PySem.W.Frag) : ∀ vs H Q E, sp_law_bent K vs H Q E → vs.length = (["box", "text"] : List Str).length := fun _ _ _ _ h => up_len h
theorem pure_law_bent (K : PySem.W.Frag) (vs : List V) (H : Hp) (Q : VK) (E : XK) (h : sp_law_bent K vs H Q E) : t_law_bent K { nx := fun _ H' => Q .non H', rt := Q } (start ["box", "text", "at", "more", "head", "tail"] vs) H := up_run (tw := fun _ => t_law_bent K) (c_law_bent) (N := ["box", "text", "at", "more", "head", "tail"]) rfl h
def b_law_L2_5 : MS :=
  (mIfS ((mAnd (mB (mOp nIsnt (mVar 8) (mC .non))) (mNot (mB (mOp (nEqOF "Strengths" [0, 1] f_Strengths_eq []) (mOp nIx (mVar 9) (mC (.int 1))) (mMake "Strengths" [0, 1, 2] 2 0 f_Strengths_init [] (mCons (mOp nIx (mVar 8) (mC (.int 0))) (mCons (mOp nIx (mVar 8) (mC (.int 1))) mNil)) mNil)))))) (mRet (mC (.bl false))) mNext)
def b_law_L2_4 : MS :=
  mSeq (mIfS ((mAnd (mB (mOp nIsnt (mVar 8) (mC .non))) (mB (mOp nNe (mCB (nStrOF "Strengths" [0] f_Strengths_str []) (mCons (mOp nIx (mVar 9) (mC (.int 1))) mNil)) (mVar 7))))) (mRet (mC (.bl false))) mNext) b_law_L2_5
def b_law_L2_3 : MS :=
  mSeq (mIfS ((mOr ((mAnd (mB (mOp nIs (mVar 8) (mC .non))) (mB (mOp nNe (mVar 9) (mLst (mCons (mC (.str "text")) (mCons (mVar 7) mNil))))))) ((mAnd (mB (mOp nIsnt (mVar 8) (mC .non))) (mB (mOp nNe (mOp nIx (mVar 9) (mC (.int 0))) (mC (.str "read")))))))) (mRet (mC (.bl false))) mNext) b_law_L2_4
def b_law_L2_2 : MS :=
  mSeq (mAsg (mCall f_law_told (mCons (mVar 7) mNil)) (hName 9)) b_law_L2_3
def b_law_L2_1 : MS :=
  mSeq (mAsg (mCall f_law_read (mCons (mVar 7) mNil)) (hName 8)) b_law_L2_2
def l_law_2 : MS :=
  mSeq (mAsg (mCall f_law_bent (mCons (mVar 2) (mCons (mIf (mB (mOp nLt (mVar 6) (mC (.int 4)))) (mVar 5) (mCall f_law_bent (mCons (mVar 2) (mCons (mVar 5) mNil)))) mNil))) (hName 7)) b_law_L2_1
def b_law_L1_6 : MS :=
  (mIfS (mB (mOp nNeX (mCall f_law_told (mCons (mVar 10) mNil)) (mLst (mCons (mC (.str "text")) (mCons (mVar 10) mNil))))) (mRet (mC (.bl false))) mNext)
def b_law_L1_5 : MS :=
  mSeq (mAsg (mOp nIx (mLst (mCons (mC .non) (mCons (mC (.int 5)) (mCons (mC (.bl true)) (mCons (mLst (mCons (mVar 5) mNil)) (mCons (mC (.str "")) (mCons (mC (.str " ")) (mCons (mVar 4) (mCons (mDNew) (mCons (mC (.str ": a!a")) (mCons (mC (.str "a a")) mNil))))))))))) (mCall f_law_take (mCons (mVar 2) (mCons (mC (.int 10)) mNil)))) (hName 10)) b_law_L1_6
def b_law_L1_4 : MS :=
  mSeq (mFor (mRng1 (mCons (mC (.int 5)) mNil)) (hName 6) l_law_2) b_law_L1_5
def b_law_L1_3 : MS :=
  mSeq (mIfS ((mOr (mB (mOp nNe (mCB (nStrOF "Strengths" [0] f_Strengths_str []) (mCons (mVar 4) mNil)) (mVar 5))) (mNot (mB (mOp (nEqOF "Strengths" [0, 1] f_Strengths_eq []) (mCall f_read_strengths (mCons (mVar 5) mNil)) (mVar 4)))))) (mRet (mC (.bl false))) mNext) b_law_L1_4
def b_law_L1_2 : MS :=
  mSeq (mPar 4 5 (mCons (mMake "Strengths" [0, 1, 2] 2 0 f_Strengths_init [] (mCons (mOp nIx (mVar 3) (mC (.int 0))) (mCons (mOp nIx (mVar 3) (mC (.int 1))) mNil)) mNil) (mCons (mCall f_law_text (mCons (mVar 3) mNil)) mNil))) b_law_L1_3
def b_law_L1_1 : MS :=
  mSeq (mAsg (mCall f_law_modes (mCons (mVar 2) (mCons (mC (.int 8)) mNil))) (hName 3)) b_law_L1_2
def l_law_1 : MS :=
  mSeq (mAsg (mCall f_law_box (mCons (mCall f_law_cell (mCons (mVar 0) (mCons (mVar 1) mNil))) mNil)) (hName 2)) b_law_L1_1
def b_law_1 : MS :=
  (mRet (mC (.bl true)))
def m_law : MS :=
  mSeq (mFor (mRng1 (mCons (mCB nMax (mCons (mC (.int 2)) (mCons (mCB nMin (mCons (mC (.int 10)) (mCons (mCB nLen (mCons (mVar 0) mNil)) mNil))) mNil))) mNil)) (hName 1) l_law_1) b_law_1
def f_law : MP := dfn 11 1 (fun _ => m_law)
abbrev sp_law (K : PySem.W.Frag) : Sp := up K f_law
def t_law (K : PySem.W.Frag) : TS :=
  (tSeq (tFor (iRng1 (tCons (tCB (rMaxA K) (tCons (tC (.int 2)) (tCons (tCB (rMinA K) (tCons (tC (.int 10)) (tCons (tCB (rLenB K) (tCons (tVar 0) tNil)) tNil))) tNil))) tNil)) (gName 1) (tSeq (tAsg (tCall (sp_law_box K) [] E0 (tCons (tCall (sp_law_cell K) [] E0 (tCons (tVar 0) (tCons (tVar 1) tNil))) tNil)) (gName 2))
    (tSeq (tAsg (tCall (sp_law_modes K) [] E0 (tCons (tVar 2) (tCons (tC (.int 8)) tNil))) (gName 3))
    (tSeq (tPar 4 5 (tCons (tMakeP K "Strengths" [0, 1, 2] 2 0 (sp_Strengths_init K) [] (fun _ => E0) (tCons (tOp (rIxB K) (tVar 3) (tC (.int 0))) (tCons (tOp (rIxB K) (tVar 3) (tC (.int 1))) tNil)) tNil) (tCons (tCall (sp_law_text K) [] E0 (tCons (tVar 3) tNil)) tNil)))
    (tSeq (tIfS ((tOr (tTest (tOp (rNeA K) (tCB (rStrO K "Strengths" [0] (sp_Strengths_str K) []) (tCons (tVar 4) tNil)) (tVar 5))) (tNot (tTest (tOp (rEqO K "Strengths" [0, 1] (sp_Strengths_eq K) []) (tCall (sp_read_strengths K) [] E0 (tCons (tVar 5) tNil)) (tVar 4)))))) (tRet (tC (.bl false))) tNext)
    (tSeq (tFor (iRng1 (tCons (tC (.int 5)) tNil)) (gName 6) (tSeq (tAsg (tCall (sp_law_bent K) [] E0 (tCons (tVar 2) (tCons (tIf (tTest (tOp rLtA (tVar 6) (tC (.int 4)))) (tVar 5) (tCall (sp_law_bent K) [] E0 (tCons (tVar 2) (tCons (tVar 5) tNil)))) tNil))) (gName 7))
    (tSeq (tAsg (tCall (sp_law_read K) [] E0 (tCons (tVar 7) tNil)) (gName 8))
    (tSeq (tAsg (tCall (sp_law_told K) [] E0 (tCons (tVar 7) tNil)) (gName 9))
    (tSeq (tIfS ((tOr ((tAnd (tTest (tOp rIsA (tVar 8) (tC .non))) (tTest (tOp (rNeA K) (tVar 9) (tLst (tCons (tC (.str "text")) (tCons (tVar 7) tNil))))))) ((tAnd (tTest (tOp rNotA (tVar 8) (tC .non))) (tTest (tOp (rNeA K) (tOp (rIxB K) (tVar 9) (tC (.int 0))) (tC (.str "read")))))))) (tRet (tC (.bl false))) tNext)
    (tSeq (tIfS ((tAnd (tTest (tOp rNotA (tVar 8) (tC .non))) (tTest (tOp (rNeA K) (tCB (rStrO K "Strengths" [0] (sp_Strengths_str K) []) (tCons (tOp (rIxB K) (tVar 9) (tC (.int 1))) tNil)) (tVar 7))))) (tRet (tC (.bl false))) tNext)
    (tIfS ((tAnd (tTest (tOp rNotA (tVar 8) (tC .non))) (tNot (tTest (tOp (rEqO K "Strengths" [0, 1] (sp_Strengths_eq K) []) (tOp (rIxB K) (tVar 9) (tC (.int 1))) (tMakeP K "Strengths" [0, 1, 2] 2 0 (sp_Strengths_init K) [] (fun _ => E0) (tCons (tOp (rIxB K) (tVar 8) (tC (.int 0))) (tCons (tOp (rIxB K) (tVar 8) (tC (.int 1))) tNil)) tNil)))))) (tRet (tC (.bl false))) tNext)))))))
    (tSeq (tAsg (tOp (rIxB K) (tLst (tCons (tC .non) (tCons (tC (.int 5)) (tCons (tC (.bl true)) (tCons (tLst (tCons (tVar 5) tNil)) (tCons (tC (.str "")) (tCons (tC (.str " ")) (tCons (tVar 4) (tCons (tDNewK) (tCons (tC (.str ": a!a")) (tCons (tC (.str "a a")) tNil))))))))))) (tCall (sp_law_take K) [] E0 (tCons (tVar 2) (tCons (tC (.int 10)) tNil)))) (gName 10))
    (tIfS (tTest (tOp (rNeE K) (tCall (sp_law_told K) [] E0 (tCons (tVar 10) tNil)) (tLst (tCons (tC (.str "text")) (tCons (tVar 10) tNil))))) (tRet (tC (.bl false))) tNext))))))))
    (tRet (tC (.bl true))))
theorem c_law {K : PySem.W.Frag} : SS K (fun _ => t_law K) (fun _ => m_law) := by
  unfold t_law m_law b_law_1 l_law_1 b_law_L1_1 b_law_L1_2 b_law_L1_3 b_law_L1_4 b_law_L1_5 b_law_L1_6 l_law_2 b_law_L2_1 b_law_L2_2 b_law_L2_3 b_law_L2_4 b_law_L2_5
  exact (S_seq (S_for (I_rng1 (E_cons (E_cb C_max (E_cons (E_int 2) (E_cons (E_cb C_min (E_cons (E_int 10) (E_cons (E_cb C_len (E_cons (E_var 0) E_nil)) E_nil))) E_nil))) E_nil)) (G_name 1) (S_seq (S_asg (E_call f_law_box (E_cons (E_call f_law_cell (E_cons (E_var 0) (E_cons (E_var 1) E_nil))) E_nil)) (G_name 2))
    (S_seq (S_asg (E_call f_law_modes (E_cons (E_var 2) (E_cons (E_int 8) E_nil))) (G_name 3))
    (S_seq (S_par (E_cons (E_make "Strengths" [0, 1, 2] 2 0 f_Strengths_init DfL.nil (E_cons (E_op O_ix (E_var 3) (E_int 0)) (E_cons (E_op O_ix (E_var 3) (E_int 1)) E_nil)) E_nil) (E_cons (E_call f_law_text (E_cons (E_var 3) E_nil)) E_nil)))
    (S_seq (S_if ((E_or (E_test (E_op O_ne (E_cb (C_strOF DfL.nil) (E_cons (E_var 4) E_nil)) (E_var 5))) (E_not (E_test (E_op (O_eqOF DfL.nil) (E_call f_read_strengths (E_cons (E_var 5) E_nil)) (E_var 4)))))) (S_ret (E_bl false)) S_next)
    (S_seq (S_for (I_rng1 (E_cons (E_int 5) E_nil)) (G_name 6) (S_seq (S_asg (E_call f_law_bent (E_cons (E_var 2) (E_cons (E_if (E_test (E_op O_lt (E_var 6) (E_int 4))) (E_var 5) (E_call f_law_bent (E_cons (E_var 2) (E_cons (E_var 5) E_nil)))) E_nil))) (G_name 7))
    (S_seq (S_asg (E_call f_law_read (E_cons (E_var 7) E_nil)) (G_name 8))
    (S_seq (S_asg (E_call f_law_told (E_cons (E_var 7) E_nil)) (G_name 9))
    (S_seq (S_if ((E_or ((E_and (E_test (E_op O_is (E_var 8) (E_non))) (E_test (E_op O_ne (E_var 9) (E_lst (E_cons (E_str (by decide)) (E_cons (E_var 7) E_nil))))))) ((E_and (E_test (E_op O_isnt (E_var 8) (E_non))) (E_test (E_op O_ne (E_op O_ix (E_var 9) (E_int 0)) (E_str (by decide)))))))) (S_ret (E_bl false)) S_next)
    (S_seq (S_if ((E_and (E_test (E_op O_isnt (E_var 8) (E_non))) (E_test (E_op O_ne (E_cb (C_strOF DfL.nil) (E_cons (E_op O_ix (E_var 9) (E_int 1)) E_nil)) (E_var 7))))) (S_ret (E_bl false)) S_next)
    (S_if ((E_and (E_test (E_op O_isnt (E_var 8) (E_non))) (E_not (E_test (E_op (O_eqOF DfL.nil) (E_op O_ix (E_var 9) (E_int 1)) (E_make "Strengths" [0, 1, 2] 2 0 f_Strengths_init DfL.nil (E_cons (E_op O_ix (E_var 8) (E_int 0)) (E_cons (E_op O_ix (E_var 8) (E_int 1)) E_nil)) E_nil)))))) (S_ret (E_bl false)) S_next)))))))
    (S_seq (S_asg (E_op O_ix (E_lst (E_cons (E_non) (E_cons (E_int 5) (E_cons (E_bl true) (E_cons (E_lst (E_cons (E_var 5) E_nil)) (E_cons (E_str (by decide)) (E_cons (E_str (by decide)) (E_cons (E_var 4) (E_cons (E_dnew) (E_cons (E_str (by decide)) (E_cons (E_str (by decide)) E_nil))))))))))) (E_call f_law_take (E_cons (E_var 2) (E_cons (E_int 10) E_nil)))) (G_name 10))
    (S_if (E_test (E_op O_neX (E_call f_law_told (E_cons (E_var 10) E_nil)) (E_lst (E_cons (E_str (by decide)) (E_cons (E_var 10) E_nil))))) (S_ret (E_bl false)) S_next))))))))
    (S_ret (E_bl true)))
theorem len_law (K : PySem.W.Frag) : ∀ vs H Q E, sp_law K vs H Q E → vs.length = (["script"] : List Str).length := fun _ _ _ _ h => up_len h
theorem pure_law (K : PySem.W.Frag) (vs : List V) (H : Hp) (Q : VK) (E : XK) (h : sp_law K vs H Q E) : t_law K { nx := fun _ H' => Q .non H', rt := Q } (start ["script", "k", "box", "model", "strengths", "text", "turn", "bent", "due", "told", "odd"] vs) H := up_run (tw := fun _ => t_law K) (c_law) (N := ["script", "k", "box", "model", "strengths", "text", "turn", "bent", "due", "told", "odd"]) rfl h
theorem fl_Strengths_own_modes (a0 a1 : Da) : List.lookup ("own_modes" : Str) ([("own_modes", a0), ("against", a1)] : List (Str × Da)) = some a0 := by rfl
theorem pf_Strengths_own_modes ( d : Da) : putFD ("own_modes" : Str) d ([] : List (Str × Da)) = ([("own_modes", d)] : List (Str × Da)) := by rfl
theorem fl_Strengths_against (a0 a1 : Da) : List.lookup ("against" : Str) ([("own_modes", a0), ("against", a1)] : List (Str × Da)) = some a1 := by rfl
theorem pf_Strengths_against (a0 d : Da) : putFD ("against" : Str) d ([("own_modes", a0)] : List (Str × Da)) = ([("own_modes", a0), ("against", d)] : List (Str × Da)) := by rfl
theorem fn_Strengths_init (a0 a1 : Da) : List.lookup ("__init__" : Str) ([("own_modes", a0), ("against", a1)] : List (Str × Da)) = none := by rfl
theorem fn_Strengths_modes (a0 a1 : Da) : List.lookup ("modes" : Str) ([("own_modes", a0), ("against", a1)] : List (Str × Da)) = none := by rfl
theorem fn_Strengths_need (a0 a1 : Da) : List.lookup ("need" : Str) ([("own_modes", a0), ("against", a1)] : List (Str × Da)) = none := by rfl
theorem fn_Strengths_clash (a0 a1 : Da) : List.lookup ("clash" : Str) ([("own_modes", a0), ("against", a1)] : List (Str × Da)) = none := by rfl
theorem fn_Strengths_weaker (a0 a1 : Da) : List.lookup ("weaker" : Str) ([("own_modes", a0), ("against", a1)] : List (Str × Da)) = none := by rfl
theorem fn_Strengths_below (a0 a1 : Da) : List.lookup ("below" : Str) ([("own_modes", a0), ("against", a1)] : List (Str × Da)) = none := by rfl
theorem fn_Strengths_clashes (a0 a1 : Da) : List.lookup ("clashes" : Str) ([("own_modes", a0), ("against", a1)] : List (Str × Da)) = none := by rfl
theorem fn_Strengths_weakest (a0 a1 : Da) : List.lookup ("weakest" : Str) ([("own_modes", a0), ("against", a1)] : List (Str × Da)) = none := by rfl
theorem fn_Strengths_strongest (a0 a1 : Da) : List.lookup ("strongest" : Str) ([("own_modes", a0), ("against", a1)] : List (Str × Da)) = none := by rfl
theorem fn_Strengths_steps_down (a0 a1 : Da) : List.lookup ("steps_down" : Str) ([("own_modes", a0), ("against", a1)] : List (Str × Da)) = none := by rfl
theorem fn_Strengths_len (a0 a1 : Da) : List.lookup ("__len__" : Str) ([("own_modes", a0), ("against", a1)] : List (Str × Da)) = none := by rfl
theorem fn_Strengths_eq (a0 a1 : Da) : List.lookup ("__eq__" : Str) ([("own_modes", a0), ("against", a1)] : List (Str × Da)) = none := by rfl
theorem fn_Strengths_str (a0 a1 : Da) : List.lookup ("__str__" : Str) ([("own_modes", a0), ("against", a1)] : List (Str × Da)) = none := by rfl

end Z

namespace Z
open PySem PySem.Spec PyProof.Rows L2 Evl
theorem get2a {α : Type} (R : List α) (x y : α) : (R ++ [x, y])[R.length]? = some x := by simp
theorem get2b {α : Type} (R : List α) (x y : α) : (R ++ [x, y])[R.length + 1]? = some y := by simp
theorem set2a {α : Type} (R : List α) (x y z : α) : (R ++ [x, y]).set R.length z = R ++ [z, y] := by simp
theorem set2b {α : Type} (R : List α) (x y z : α) : (R ++ [x, y]).set (R.length + 1) z = R ++ [x, z] := by simp
end Z

/-! simp sets over data: walk_at "m" reckons a reading, walk_at "m0" opens a def -/
section
open PySem PySem.Spec PyProof.Rows L2 Evl Z
end
open Z in
local macro_rules | `(tactic| walk_at "m") => `(tactic| try simp only [Z.mSeq, Z.mIfS, Z.mRet, Z.mRetN, Z.mNext, Z.mDrop, Z.mAsg, Z.hName, Z.mVar, Z.mC, Z.mOp, Z.mOpR, Z.mOpL, Z.mNeg, Z.mNotV, Z.mAndV, Z.mOrV, Z.mChain, Z.mIf, Z.mB, Z.mNot, Z.mAnd, Z.mOr, Z.mYes, Z.mNil, Z.mCons, Z.mTup, Z.mLst, Z.mDNew,
  Z.mDisp, Z.mPairs, Z.keyD, Z.mSl, Z.mNoPart, Z.mPart, Z.mCB, Z.mBM, Z.mBM0, Z.mCall, Z.mCallS, Z.mCallP, Z.mCallPS, Z.mCell, Z.mPar, Z.mPar3, Z.mAny, Z.mEnum, Z.mStar, Z.nCount, Z.nIndex, Z.mRng1, Z.mRng2, Z.mLc, Z.wipeD, Z.mFor, Z.hTup, Z.hCons, Z.hNil, Z.hStar, Z.hSub, Z.mXf, Z.mFld, Z.mFldS, Z.mMeth, Z.mMethS, Z.mMake, Z.mMakeS, Z.nLenO, Z.nEqO, Z.nInO, Z.nNinO, Z.nIsiO, Z.nEqK, Z.mDc, Z.mLc2, Z.mEnumA, Z.fl_Strengths_own_modes, Z.pf_Strengths_own_modes, Z.fl_Strengths_against, Z.pf_Strengths_against, Z.fn_Strengths_init, Z.fn_Strengths_modes, Z.fn_Strengths_need, Z.fn_Strengths_clash, Z.fn_Strengths_weaker, Z.fn_Strengths_below, Z.fn_Strengths_clashes, Z.fn_Strengths_weakest, Z.fn_Strengths_strongest, Z.fn_Strengths_steps_down, Z.fn_Strengths_len, Z.fn_Strengths_eq, Z.fn_Strengths_str, Z.mStarA, Z.nIsiB, Z.mCallF, Z.nSplit, Z.nFind, Z.nStarts, Z.nIntT, Z.mZip, Z.zipD, Z.mFmt, Z.mJoin, Z.kCons, Z.kNil, Z.nEqX, Z.mRev, Z.get2a, Z.get2b, Z.set2a, Z.set2b, Z.unbD, Z.bndD, Z.lookup_one, Z.mRaise, Z.mTry,
  Z.nAdd, Z.nSub, Z.nMul, Z.nDiv, Z.nMod, Z.nPow, Z.nEq, Z.nNe, Z.nLt, Z.nLe, Z.nGt, Z.nGe, Z.nIs, Z.nIsnt, Z.nIn, Z.nNin, Z.nInR, Z.nIx, Z.nSl, Z.nIsi, Z.nLen, Z.nMax, Z.nMin, Z.nAll, Z.nAny, Z.nList, Z.nTupC, Z.nInt, Z.nStr, Z.nJoin, Z.nAppend, Z.nExtend, Z.nInsert, Z.nPop, Z.nGet, Z.nInK, Z.nNinK, Z.nIxK, Z.nSet,
  Z.pd, Z.pdL, Z.plD, Z.plL, Z.dpD, Z.dpL, Z.eqD_non_non, Z.eqD_non_bl, Z.eqD_non_int, Z.eqD_non_str, Z.eqD_non_tup, Z.eqD_non_lst, Z.eqD_non_dct, Z.eqD_non_obj, Z.eqD_bl_non, Z.eqD_bl_bl, Z.eqD_bl_int, Z.eqD_bl_str, Z.eqD_bl_tup, Z.eqD_bl_lst, Z.eqD_bl_dct, Z.eqD_bl_obj, Z.eqD_int_non, Z.eqD_int_bl, Z.eqD_int_int, Z.eqD_int_str, Z.eqD_int_tup, Z.eqD_int_lst, Z.eqD_int_dct, Z.eqD_int_obj, Z.eqD_str_non, Z.eqD_str_bl, Z.eqD_str_int, Z.eqD_str_str, Z.eqD_str_tup, Z.eqD_str_lst, Z.eqD_str_dct, Z.eqD_str_obj, Z.eqD_tup_non, Z.eqD_tup_bl, Z.eqD_tup_int, Z.eqD_tup_str, Z.eqD_tup_tup, Z.eqD_tup_lst, Z.eqD_tup_dct, Z.eqD_tup_obj, Z.eqD_lst_non, Z.eqD_lst_bl, Z.eqD_lst_int, Z.eqD_lst_str, Z.eqD_lst_tup, Z.eqD_lst_lst, Z.eqD_lst_dct, Z.eqD_lst_obj, Z.eqD_dct_non, Z.eqD_dct_bl, Z.eqD_dct_int, Z.eqD_dct_str, Z.eqD_dct_tup, Z.eqD_dct_lst, Z.eqD_dct_dct, Z.eqD_dct_obj, Z.eqD_obj_non, Z.eqD_obj_bl, Z.eqD_obj_int, Z.eqD_obj_str, Z.eqD_obj_tup, Z.eqD_obj_lst, Z.eqD_obj_dct, Z.eqD_obj_obj, Z.eqL_nn, Z.eqL_nc, Z.eqL_cn, Z.eqL_cc, decide_true, decide_false, Nat.max_self, Nat.zero_max, Nat.max_zero, decide_eq_true_eq, Bool.or_false, Bool.and_true, Bool.true_and, Bool.and_false, Bool.false_and, Z.tyB, Z.tyTs, List.mem_cons, List.not_mem_nil, or_false, false_or, or_true, true_or, Bool.or_true, Bool.true_or, Bool.false_or, Bool.not_eq_true', decide_eq_false_iff_not, String.reduceBEq, String.reduceEq, beq_self_eq_true, Z.natc_0, Z.natc_1, Z.natc_2, Z.natc_3, Z.natc_4, Z.natc_5, Z.natc_6, Z.natc_7, Z.natc_8, Z.natc_9, Z.natc_10, Z.natc_11, Z.natc_12, Z.natc_13, Z.natc_14, Z.natc_15, Z.natc_16, List.map_cons, List.map_nil, Z.chS, Z.get_last, Z.set_last, List.getD_eq_getElem?_getD, Option.getD_some, Option.getD_none, Z.ixN_0, Z.ixN_1, Z.ixN_2, Z.atI_0, Z.atI_1, Z.atI_2, Z.atI_3, Z.atI_4, Z.atI_m1, Z.look_non, Z.look_bl, Z.look_int, Z.look_str, Z.look_tup, Z.look_lst, Z.look_dct, Z.look_obj, Z.look_ty, Z.look_gl, Z.look_exv, Z.lookE_non, Z.lookE_bl, Z.lookE_int, Z.lookE_str, Z.lookE_tup, Z.lookE_lst, Z.lookE_dct, Z.lookE_obj, Z.lookE_ty, Z.lookE_gl, Z.lookE_exv, Z.look_cell, Z.lookE_cell, Z.look_kl, Z.look_kt, Z.tyDa_non, Z.tyDa_bl, Z.tyDa_int, Z.tyDa_str, Z.tyDa_tup, Z.tyDa_lst, Z.tyDa_dct, Z.tyDa_kt, Z.tyDa_cell, Z.nonD_non, Z.nonD_bl, Z.nonD_int, Z.nonD_str, Z.nonD_tup, Z.nonD_lst, Z.nonD_dct, Z.nonD_obj, Z.nonD_ty, Z.nonD_gl, Z.nonD_exv, Z.seqD, Z.itD, Z.cellL, Z.okM_list, Z.okM_str, Z.okM_dict, Z.okS_str, Z.okLs, Z.okDc, Z.perm,
  List.getElem?_cons_zero, List.getElem?_cons_succ, List.set_cons_zero, List.set_cons_succ, List.getD_cons_zero, List.getD_cons_succ, List.length_cons, List.length_nil, List.cons_append, List.nil_append, List.append_nil, List.filterMap_cons, List.filterMap_nil,
  if_true, if_false, Bool.false_eq_true, and_true, true_and, Nat.reduceAdd, Nat.reduceLeDiff, Int.reduceEq, Int.reduceLT, Int.reduceLE, Int.reduceAdd, Int.reduceSub, Int.reduceMul, Int.reduceNeg, Int.reduceMod, Int.reduceDiv, Nat.reduceEqDiff, Nat.reduceSub, not_true_eq_false, not_false_eq_true, Option.some.injEq, reduceCtorEq, List.cons.injEq, exists_eq_left, exists_eq_left', Bool.not_true, Bool.not_false])
open Z in
local macro_rules | `(tactic| walk_at "m1") => `(tactic| simp only [Z.dfn, Z.startD, List.map_cons, List.map_nil, List.length_cons, List.length_nil, Nat.reduceAdd, Nat.reduceSub, List.replicate_succ, List.replicate_zero, List.cons_append, List.nil_append, List.append_nil, true_and, and_true])
open Z in
local macro_rules | `(tactic| walk_at "m0") => `(tactic| (walk_at "m1"; refine fun _ _ => ?_))

open Z in
local macro_rules | `(tactic| walk_at "in") => `(tactic| simp only [Z.anyEq, List.any_cons, List.any_nil, Z.eqD, Z.eqL, Bool.or_false, Bool.and_true, Bool.true_and, Bool.and_false, Bool.false_and, Bool.or_eq_true, Bool.and_eq_true, decide_eq_true_eq, Bool.or_eq_false_iff, decide_eq_false_iff_not, not_or])

open Z in
local macro_rules | `(tactic| walk_at "g") => `(tactic| simp only [Z.hTup, Z.hTL, Z.hCons, Z.hNil, Z.hName, Z.look_tup, Z.look_lst, List.set_cons_zero, List.set_cons_succ, List.length_cons, List.length_nil, Nat.reduceAdd, true_and, and_true])


namespace Z
open PySem PySem.Spec PyProof.Rows L2 Evl
theorem cell_ok {ns : List Int} {k : Int} {M : Mem} {Q : TK} {E : XD} (h0 : 0 ≤ k) (h1 : k < 1000) (q : ∀ n : Int, Q (.int n) M) : f_law_cell [.kl (ns.map Da.int), .int k] M Q E := by
  unfold f_law_cell m_law_cell
  walk_at "m0"
  walk_at "m"
  rw [List.length_map]
  by_cases c : k < (ns.length : Int)
  · rw [if_pos (by simpa using c)]
    obtain ⟨d, hd, e⟩ := atI_mem (xs := ns.map Da.int) h0 (by rw [List.length_map]; exact c)
    obtain ⟨n, _, rfl⟩ := List.mem_map.1 hd
    rw [e]
    exact leave_same (q n)
  · rw [if_neg (by simpa using c)]
    exact ⟨wide_mul (a := 13) (b := 10) (by decide) (by omega) (by decide) (by decide) (by decide), leave_same (q _)⟩
theorem box_ok {n : Int} {M : Mem} {Q : TK} {E : XD} (q : ∀ b, BoxD 0 b → Q (.cell M.length) (M ++ [b])) : f_law_box [.int n] M Q E := by
  unfold f_law_box m_law_box
  walk_at "m0"
  walk_at "m"
  refine ⟨⟨by decide, by decide, by decide⟩, leave_same (q _ ⟨_, _, _, rfl, Int.emod_nonneg _ (by decide), Int.lt_trans (Int.emod_lt_of_pos _ (by decide)) (by decide), Int.le_refl _, Int.le_refl _⟩)⟩
theorem take_ok {m : Int} {n : Nat} {b : Da} {R : Mem} {Q : TK} {E : XD} (B : BoxD n b) (hn : n < 4294967296) (hm : 0 < m) (hl : m.natAbs.log2 < 9000)
    (k : ∀ (d : Int) (b' : Da), BoxD (n + 1) b' → 0 ≤ d → d < m → Q (.int d) (b' :: R)) : f_law_take [.cell 0, .int m] (b :: R) Q E := by
  obtain ⟨a, b, c, rfl, hb0, hb1, hc0, hc1⟩ := B
  unfold f_law_take m_law_take
  walk_at "m0"
  walk_at "m"
  refine ite2 (fun ca => ?_) (fun ca => ?_)
  · refine ⟨hm, ⟨hm, hl⟩, leave_same (k _ _ ⟨_, _, _, rfl, hb0, hb1, hc0, ?_⟩ (Int.emod_nonneg _ (by omega)) (Int.emod_lt_of_pos _ hm))⟩
    omega
  · have q0 : 0 ≤ (b + 7919 * (c + 1) + 43) ^ (5 : Int).toNat % 2147483647 := Int.emod_nonneg _ (by decide)
    have q1 : (b + 7919 * (c + 1) + 43) ^ (5 : Int).toNat % 2147483647 < 2147483647 := Int.emod_lt_of_pos _ (by decide)
    refine ⟨wide_mul (a := 13) (b := 34) (by decide) (by omega) (by decide) (by decide) (by decide), ⟨by decide, by decide, by omega⟩, wide_mul (a := 17) (b := 34) (by decide) (by omega) (by decide) (by decide) (by decide), ?_⟩
    generalize (b + 7919 * (c + 1) + 43) ^ (5 : Int).toNat % 2147483647 = u at q0 q1 ⊢
    exact ⟨⟨by decide, by decide, by omega⟩, ⟨by decide, by decide⟩, hm, leave_same (k _ _ ⟨_, _, _, rfl, hb0, hb1, by omega, by omega⟩ (Int.emod_nonneg _ (by omega)) (Int.emod_lt_of_pos _ hm))⟩
end Z

/-! the law's draws: mixed lists, names (behind the law's readings) -/
namespace Z
open PySem PySem.Spec PyProof.Rows L2 Evl
theorem mixed_ok {n : Nat} {b : Da} {R : Mem} {Q : TK} {E : XD} {xs : List Da} (B : BoxD n b) (hn : n ≤ 1000000000) (hx : xs.length ≤ 1000) (px : cloL (R.length + 1) xs = true)
    (k : ∀ (ys : List Da) (b' : Da), BoxD (n + xs.length) b' → ys.Perm xs → Q (.lst ys) (b' :: R)) : f_law_mixed [.cell 0, .lst xs] (b :: R) Q E := by
  unfold f_law_mixed m_law_mixed
  walk_at "m1"
  intro cM cD
  walk_at "m"
  refine ⟨by omega, by omega, by rw [rngD_len]; omega, ?_⟩
  have go : ∀ (is left acc : List Da) (b : Da) (c : Nat), is.length = left.length → c + left.length ≤ xs.length → BoxD (n + c) b → (acc ++ left).Perm xs →
      lcL (fun _ => True) (hName 3) mYes (mBM "list" nPop (mVar 2) (mCons (mCall f_law_take (mCons (mVar 0) (mCons (mCB nLen (mCons (mVar 2) mNil)) mNil))) mNil)) [3] [some (Da.cell 0), some (Da.lst xs), some (Da.cell (List.length R + 1)), none] is acc (b :: (R ++ [Da.lst left])) (leave (List.length R + 1) Q) := by
    intro is
    induction is with
    | nil =>
      intro left acc b c h1 h2 B pm
      have hl : left = [] := List.length_eq_zero_iff.1 h1.symm
      subst hl
      rw [List.append_nil] at pm
      show leave _ Q (.lst acc) _
      refine leave_box B cM (frz_clo ?_) (k acc b (B.mono (by simp at h2; omega)) pm)
      unfold cloD
      rw [cloL_all] at px ⊢
      exact fun d hd => px d (pm.mem_iff.1 hd)
    | cons i is ih =>
      intro left acc b c h1 h2 B pm
      have hl : 0 < left.length := by rw [← h1]; simp
      unfold lcL
      walk_at "m"
      refine ⟨⟨left, rfl⟩, take_ok B (by omega) (by omega) (log_nat (by omega)) fun d b' B' d0 d1 => ?_⟩
      have hd : d.toNat < left.length := by omega
      walk_at "m"
      refine ⟨by omega, by omega, d.toNat, left[d.toNat], seqI d0 d1, by simp [hd], ?_⟩
      refine ih (left.eraseIdx d.toNat) (acc ++ [left[d.toNat]]) b' (c + 1) ?_ ?_ B' ?_
      · rw [List.length_eraseIdx_of_lt hd]
        rw [List.length_cons] at h1
        omega
      · rw [List.length_eraseIdx_of_lt hd]
        omega
      · refine List.Perm.trans ?_ pm
        rw [List.append_assoc]
        exact List.Perm.append_left acc (perm_erase hd)
  exact go _ xs [] b 0 (by rw [rngD_len]; omega) (by omega) B (by simp)
theorem mem13 : ∀ z ∈ (["begin", "empty", "rest", "step", "end", "look", "old", "new", "put", "part", "move", "split", "lock"] : List Str), nmS z = true := by decide +kernel
theorem nd13 : (["begin", "empty", "rest", "step", "end", "look", "old", "new", "put", "part", "move", "split", "lock"] : List Str).Nodup := by decide +kernel
theorem cutL_take {α : Type} (xs : List α) {m : Int} (h : 0 ≤ m) : cutL xs none (some m) = xs.take m.toNat := by
  have e1 : HT.sIx xs.length 0 none = 0 := rfl
  have e2 : HT.sIx xs.length xs.length (some m) = min m.toNat xs.length := by
    unfold HT.sIx
    show (if m < 0 then _ else _) = _
    rw [if_neg (by omega)]
  unfold cutL
  rw [e1, e2, List.drop_zero, Nat.sub_zero]
  rcases Nat.le_total m.toNat xs.length with q | q
  · rw [Nat.min_eq_left q]
  · rw [Nat.min_eq_right q, List.take_length, List.take_of_length_le q]
def strO : Da → Option Str
  | .str z => some z
  | _ => none
theorem strs_of_perm {ys : List Da} {zs : List Str} (p : ys.Perm (zs.map Da.str)) : ∃ ws : List Str, ys = ws.map Da.str ∧ ws.Perm zs := by
  refine ⟨ys.filterMap strO, ?_, ?_⟩
  · have h : ∀ d ∈ ys, ∃ z, d = Da.str z := fun d hd => by
      obtain ⟨z, _, e⟩ := List.mem_map.1 (p.mem_iff.1 hd)
      exact ⟨z, e.symm⟩
    clear p
    induction ys with
    | nil => rfl
    | cons y ys ih =>
      obtain ⟨z, rfl⟩ := h y (List.mem_cons_self ..)
      have e := ih fun d hd => h d (List.mem_cons_of_mem _ hd)
      show _ = Da.str z :: (ys.filterMap strO).map Da.str
      rw [← e]
  · have q := p.filterMap strO
    rw [List.filterMap_map] at q
    have e : zs.filterMap (strO ∘ Da.str) = zs := by
      induction zs with
      | nil => rfl
      | cons z zs ih =>
        clear q p
        induction (z :: zs) with
        | nil => rfl
        | cons a l ih2 => rw [List.filterMap_cons]; show a :: _ = _; rw [ih2]
    rw [e] at q
    exact q
theorem nms_len {z : Str} (h : nmS z = true) : z.length ≤ 8 := by
  simp only [nmS, Bool.and_eq_true, decide_eq_true_eq] at h
  exact h.2.2.1
theorem names_okG {P : Str → Prop} (h13 : ∀ z ∈ (["begin", "empty", "rest", "step", "end", "look", "old", "new", "put", "part", "move", "split", "lock"] : List Str), P z) (hf : ∀ stem ∈ stems, ∀ c ∈ letters, ∀ w ∈ [0, 1, 2], P (formS stem c w)) {n : Nat} {b : Da} {R : Mem} {Q : TK} {E : XD} {m : Int} (B : BoxD n b) (hn : n ≤ 1000000) (hm0 : 0 ≤ m) (hm1 : m ≤ 13)
    (k : ∀ (zs : List Str) (b' : Da), BoxD (n + 20) b' → (zs.length : Int) = m → zs.Nodup → (∀ z ∈ zs, P z) → Q (.lst (zs.map Da.str)) (b' :: R)) : f_law_names [.cell 0, .int m] (b :: R) Q E := by
  unfold f_law_names m_law_names
  walk_at "m1"
  intro cM cD
  walk_at "m"
  refine take_ok B (by omega) (by decide) (by decide +kernel) fun d0 b1 B1 e0 e1 => ?_
  walk_at "m"
  refine ite2 (fun c => ?_) (fun c => ?_)
  · refine mixed_ok (xs := (["begin", "empty", "rest", "step", "end", "look", "old", "new", "put", "part", "move", "split", "lock"] : List Str).map Da.str) B1 (by omega) (by decide) (by rfl) fun ys b2 B2 pm => ?_
    obtain ⟨ws, rfl, pw⟩ := strs_of_perm pm
    walk_at "m"
    rw [cutL_take _ hm0, ← List.map_take]
    have hl : ws.length = 13 := pw.length_eq
    refine leave_same (k _ b2 (B2.mono (by simp)) (by rw [List.length_take]; omega) ?_ fun z hz => h13 z (pw.mem_iff.1 (List.mem_of_mem_take hz)))
    exact (pw.nodup_iff.2 nd13).sublist (List.take_sublist _ _)
  · refine take_ok B1 (by omega) (by decide) (by decide +kernel) fun d1 b2 B2 f0 f1 => ?_
    obtain ⟨stem, hs0, e⟩ := atI_mem (xs := stems.map Da.str) f0 f1
    obtain ⟨stem, hs, rfl⟩ := List.mem_map.1 hs0
    have e : atI [Da.str "", Da.str "a", Da.str "tabl", Da.str "rest", Da.str "part", Da.str "zzzzzzz"] d1 = some (Da.str stem) := e
    walk_at "m"
    rw [e]
    refine take_ok B2 (by omega) (by decide) (by decide +kernel) fun d2 b3 B3 g0 g1 => ?_
    refine take_ok B3 (by omega) (by decide) (by decide +kernel) fun d3 b4 B4 h0 h1 => ?_
    obtain ⟨st, hst0, e⟩ := atI_mem (xs := ([1, 3, 5, 7, 9, 11] : List Int).map Da.int) h0 h1
    obtain ⟨st, hst, rfl⟩ := List.mem_map.1 hst0
    have e : atI [Da.int 1, Da.int 3, Da.int 5, Da.int 7, Da.int 9, Da.int 11] d3 = some (Da.int st) := e
    walk_at "m"
    rw [e]
    refine take_ok B4 (by omega) (by decide) (by decide +kernel) fun way b5 B5 i0 i1 => ?_
    refine ⟨by omega, by omega, ?_⟩
    have hS : st.toNat ∈ [1, 3, 5, 7, 9, 11] ∧ (st.toNat : Int) = st := by
      simp only [List.mem_cons, List.not_mem_nil, or_false] at hst
      rcases hst with rfl | rfl | rfl | rfl | rfl | rfl <;> exact ⟨by decide, rfl⟩
    have hsb : 0 ≤ st ∧ st ≤ 11 := by
      simp only [List.mem_cons, List.not_mem_nil, or_false] at hst
      rcases hst with rfl | rfl | rfl | rfl | rfl | rfl <;> exact ⟨by decide, by decide⟩
    refine forL_ind (fun k ρ M => ∃ s9 s10 s11 : Option Da, ρ = [some (Da.cell 0), some (Da.int m), some (Da.str "abcdefghijklmnopqrstuvwxyz"), none, some (Da.str stem), some (Da.int d2), some (Da.int st), some (Da.int way), some (Da.cell (R.length + 1)), s9, s10, s11] ∧
      M = b5 :: (R ++ [.lst (((List.range k).map fun k => nameK stem d2.toNat st.toNat way.toNat k).map Da.str)])) ⟨_, _, _, rfl, rfl⟩ ?_ ?_
    · rintro k d _ _ ek ⟨s9, s10, s11, rfl, rfl⟩ C hC
      obtain ⟨hk, rfl⟩ := rngD_at ek
      have hi : (d2 + st * (0 + (k : Int))) % 26 = (((d2.toNat + st.toNat * k) % 26 : Nat) : Int) := by
        have h2 : (d2.toNat : Int) = d2 := by omega
        rw [Int.natCast_emod, Int.natCast_add, Int.natCast_mul, h2, hS.2, Int.zero_add]
        rfl
      have ec : atI ("abcdefghijklmnopqrstuvwxyz" : Str).cps.toList ((d2 + st * (0 + (k : Int))) % 26) = some (lett ((d2.toNat + st.toNat * k) % 26)) := by
        have hl : (d2.toNat + st.toNat * k) % 26 < letters.length := Nat.mod_lt _ (by decide)
        rw [hi, atI_nat']
        show letters[_]? = _
        unfold lett
        rw [List.getElem?_eq_getElem hl, List.getD_eq_getElem?_getD, List.getElem?_eq_getElem hl]
        rfl
      have ml : CMulW st (0 + (k : Int)) := wide_mul (a := 4) (b := 4) (by omega) (by omega) (by decide) (by decide) (by decide)
      walk_at "m"
      rw [ec]
      walk_at "m"
      have hL : (List.map Da.str (List.map (fun k => nameK stem d2.toNat st.toNat way.toNat k) (List.range k))).length < sizeLine := by
        rw [List.length_map, List.length_map, List.length_range, sizeLine_eq]
        omega
      have hsl : stem.length ≤ 8 := by
        simp only [stems, List.mem_cons, List.not_mem_nil, or_false] at hs
        rcases hs with rfl | rfl | rfl | rfl | rfl | rfl <;> decide
      have h1 : ({ cps := #[lett ((d2.toNat + st.toNat * k) % 26)] } : Str).length = 1 := rfl
      have fin : ∀ nm : Str, fixS nm = nameK stem d2.toNat st.toNat way.toNat k → ∀ s10 : Option Da, if nm = ("table" : Str) then
          (List.map Da.str (List.map (fun k => nameK stem d2.toNat st.toNat way.toNat k) (List.range k))).length < sizeLine ∧
            C [some (Da.cell 0), some (Da.int m), some (Da.str "abcdefghijklmnopqrstuvwxyz"), none, some (Da.str stem), some (Da.int d2), some (Da.int st), some (Da.int way), some (Da.cell (List.length R + 1)), some (Da.int (0 + (k : Int))), s10, some (Da.str nm)]
              (b5 :: (R ++ [Da.lst (List.map Da.str (List.map (fun k => nameK stem d2.toNat st.toNat way.toNat k) (List.range k)) ++ [Da.str "tables"])]))
          else (List.map Da.str (List.map (fun k => nameK stem d2.toNat st.toNat way.toNat k) (List.range k))).length < sizeLine ∧
            C [some (Da.cell 0), some (Da.int m), some (Da.str "abcdefghijklmnopqrstuvwxyz"), none, some (Da.str stem), some (Da.int d2), some (Da.int st), some (Da.int way), some (Da.cell (List.length R + 1)), some (Da.int (0 + (k : Int))), s10, some (Da.str nm)]
              (b5 :: (R ++ [Da.lst (List.map Da.str (List.map (fun k => nameK stem d2.toNat st.toNat way.toNat k) (List.range k)) ++ [Da.str nm])])) := by
        intro nm e s10
        have end_ : List.map Da.str (List.map (fun k => nameK stem d2.toNat st.toNat way.toNat k) (List.range (k + 1))) = List.map Da.str (List.map (fun k => nameK stem d2.toNat st.toNat way.toNat k) (List.range k)) ++ [Da.str (fixS nm)] := by
          rw [List.range_succ, List.map_append, List.map_append, e]
          rfl
        by_cases q : nm = ("table" : Str)
        · rw [if_pos q]
          refine ⟨hL, hC _ _ _ _ .same trivial ⟨_, _, _, rfl, ?_⟩⟩
          rw [end_, fixS, if_pos q]
        · rw [if_neg q]
          refine ⟨hL, hC _ _ _ _ .same trivial ⟨_, _, _, rfl, ?_⟩⟩
          rw [end_, fixS, if_neg q]
      refine ⟨ml, by rw [h1, sizeLine_eq]; omega, by rw [h1, sizeLine_eq]; omega, ite2 (fun ck => ?_) (fun ck => ?_)⟩
      · have k0 : k ≠ 0 := by omega
        have hw : way = 0 ∨ way = 1 ∨ way = 2 := by omega
        have e : ∀ w : Nat, nameK stem d2.toNat st.toNat w k = formS stem (lett ((d2.toNat + st.toNat * k) % 26)) w := fun w => by
          unfold nameK
          rw [if_neg k0]
        rcases hw with rfl | rfl | rfl
        · walk_at "m"
          exact ⟨⟨_, rfl⟩, fin _ (e 0).symm _⟩
        · walk_at "m"
          exact ⟨⟨_, rfl⟩, fin _ (e 1).symm _⟩
        · walk_at "m"
          exact ⟨⟨_, rfl⟩, fin _ (e 2).symm _⟩
      · have k0 : k = 0 := by omega
        refine ⟨⟨_, rfl⟩, fin _ ?_ _⟩
        unfold nameK
        rw [if_pos k0]
        rfl
    · rintro _ _ ⟨s9, s10, s11, rfl, rfl⟩
      rw [rngD_len]
      walk_at "m"
      refine leave_box B5 cM (d' := .lst (((List.range m.toNat).map fun k => nameK stem d2.toNat st.toNat way.toNat k).map Da.str)) ?_ (k _ b5 (B5.mono (by omega)) ?_ ?_ ?_)
      · exact frz_cell (by simp) (Nat.le_refl _) (clo_strs _ _)
      · rw [List.length_map, List.length_range]
        omega
      · refine names_nodup hs (by omega) hS.1 (by omega) _ (by omega)
      · intro z hz
        obtain ⟨j, _, rfl⟩ := List.mem_map.1 hz
        exact hf stem hs _ (lett_mem _ (List.mem_range.mpr (Nat.mod_lt _ (by decide)))) _ (by split <;> first | decide | (simp; omega))
theorem names_ok {n : Nat} {b : Da} {R : Mem} {Q : TK} {E : XD} {m : Int} (B : BoxD n b) (hn : n ≤ 1000000) (hm0 : 0 ≤ m) (hm1 : m ≤ 13)
    (k : ∀ (zs : List Str) (b' : Da), BoxD (n + 20) b' → (zs.length : Int) = m → zs.Nodup → (∀ z ∈ zs, nmS z = true) → Q (.lst (zs.map Da.str)) (b' :: R)) : f_law_names [.cell 0, .int m] (b :: R) Q E := names_okG (P := fun z => nmS z = true) mem13 form_ok B hn hm0 hm1 k
end Z

namespace Z
open PySem PySem.Spec PyProof.Rows L2 Evl
def nmD : Da → Bool
  | .str z => nmS z
  | _ => false
theorem inS_ch (c : Nat) (z : Str) : inS ⟨#[c]⟩ z = decide (c ∈ z.cps.toList) := rfl
theorem filter_true {α : Type} (xs : List α) : xs.filter (fun _ => true) = xs := List.filter_eq_self.mpr fun _ _ => rfl
theorem len_cps (z : Str) : z.cps.toList.length = z.length := Array.length_toList
/-- a test over the signs of a text -/
theorem signs_all {z : Str} (P : Nat → Bool) : ((z.cps.toList.map chS).map fun d => match d with | .str s => (match s.cps.toList with | [c] => Da.bl (P c) | _ => .non) | _ => .non) = (z.cps.toList.map P).map Da.bl := by
  simp [List.map_map, Function.comp_def, chS]
theorem is_name_ok {d : Da} {M : Mem} {Q : TK} {E : XD} (h : pdd d = true) (q : Q (.bl (nmD d)) M) : f_is_name [d] M Q E := by
  unfold f_is_name m_is_name
  walk_at "m0"
  cases d with
  | str z =>
    walk_at "m"
    refine ite2 (fun c => leave_same ?_) (fun c => ?_)
    · have e : nmD (.str z) = false := by simp [nmD, nmS, c]
      rw [e] at q
      exact q
    · refine ite2 (fun c1 => ?_) (fun c1 => leave_same ?_)
      · refine ite2 (fun c2 => leave_same ?_) (fun c2 => ?_)
        · have e : nmD (.str z) = false := by
            have : ¬ z.length ≤ 8 := by omega
            simp [nmD, nmS, this]
          rw [e] at q
          exact q
        · refine ⟨by rw [List.length_map, len_cps]; omega, ?_⟩
          refine lcL_pure (fun _ => true) (fun d => match d with | .str s => (match s.cps.toList with | [c] => Da.bl (decide (c ∈ letters)) | _ => .non) | _ => .non) (fun d hd R r => r) (fun d hd _ R r => ?_) trivial ?_
          · obtain ⟨c, _, rfl⟩ := List.mem_map.1 hd
            walk_at "m"
            exact r
          · rw [filter_true, signs_all]
            walk_at "m"
            rw [blsD_map]
            refine leave_same ?_
            have e : nmD (.str z) = (z.cps.toList.map fun c => decide (c ∈ letters)).all id := by
              have h1 : 1 ≤ z.length := by omega
              have h2 : z.length ≤ 8 := by omega
              simp [nmD, nmS, c, h1, h2, List.all_map, Function.comp_def]
            rw [← e]
            exact q
      · have e : nmD (.str z) = false := by
          have : ¬ 1 ≤ z.length := by omega
          simp [nmD, nmS, this]
        rw [e] at q
        exact q
  | ty _ => cases h
  | gl _ => cases h
  | obj _ _ => cases h
  | kl _ => cases h
  | kt _ => cases h
  | cell _ => cases h
  | exv _ _ _ _ => cases h
  | _ =>
    walk_at "m"
    exact leave_same q
end Z

namespace Z
open PySem PySem.Spec PyProof.Rows L2 Evl
/-- modes as they have to be -/
structure Mo (ms : List Str) : Prop where
  n1 : 1 ≤ ms.length
  n8 : ms.length ≤ 8
  nd : ms.Nodup
  nm : ∀ z ∈ ms, nmS z = true
/-- a list, as a tree or as a cell below the memory's end -/
def Lk (M : Mem) (W : Da) (ds : List Da) : Prop := ∀ x : Mem, look (M ++ x) W = .lst ds ∧ tyDa (M ++ x) W = some "list"
theorem Lk.tree (M : Mem) (ds : List Da) : Lk M (.lst ds) ds := fun _ => ⟨rfl, rfl⟩
theorem Lk.cell {M : Mem} {i : Nat} {ds : List Da} (h : M[i]? = some (.lst ds)) : Lk M (.cell i) ds := fun x => by
  have l := (List.getElem?_eq_some_iff.1 h).1
  have e : (M ++ x).getD i (.gl "") = .lst ds := by rw [List.getD_eq_getElem?_getD, List.getElem?_append_left l, h]; rfl
  constructor
  · show (M ++ x).getD i (.gl "") = _
    exact e
  · show (match (M ++ x).getD i (.gl "") with | .lst _ => some "list" | .dct _ => some "dict" | _ => none) = _
    rw [e]
theorem Lk.more {M : Mem} {W : Da} {ds : List Da} (h : Lk M W ds) (y : Mem) : Lk (M ++ y) W ds := fun x => by
  rw [List.append_assoc]
  exact h (y ++ x)
theorem Lk.at_ {M : Mem} {W : Da} {ds : List Da} (h : Lk M W ds) : look M W = .lst ds ∧ tyDa M W = some "list" := by
  have := h []
  rwa [List.append_nil] at this
theorem need_modes_ok {W : Da} {ms : List Str} {M : Mem} {Q : TK} {E : XD} (hW : Lk M W (ms.map Da.str)) (h : Mo ms) (q : Q .non M) : f_need_modes [W] M Q E := by
  unfold f_need_modes m_need_modes
  walk_at "m0"
  walk_at "m"
  rw [hW.at_.2]
  walk_at "m"
  rw [hW.at_.1]
  walk_at "m"
  refine forL_ind (fun k ρ M' => M' = M ∧ ∃ s1 s2, ρ = [some W, s1, s2]) ⟨rfl, _, _, rfl⟩ ?_ ?_
  · rintro k d _ _ ek ⟨rfl, s1, s2, rfl⟩ C hC
    obtain ⟨x, ex, rfl⟩ := enuD_get ek
    rw [List.getElem?_map] at ex
    obtain ⟨z, ez, rfl⟩ := Option.map_eq_some_iff.1 ex
    have hz : z ∈ ms := List.mem_of_getElem? ez
    walk_at "m"
    refine is_name_ok rfl ?_
    rw [show nmD (.str z) = true from h.nm z hz]
    walk_at "m"
    rw [hW.at_.1]
    walk_at "m"
    rw [cutL_takeD, ← List.map_take]
    have hn : ¬ z ∈ ms.take k := by
      intro hm
      obtain ⟨j, hj, e⟩ := List.getElem_of_mem hm
      rw [List.length_take] at hj
      rw [List.getElem_take] at e
      have l := (List.getElem?_eq_some_iff.1 ez).1
      have : j = k := (List.getElem?_inj (by omega) h.nd).1 (by rw [ez, List.getElem?_eq_getElem (by omega), e])
      omega
    refine ⟨pdS _, ite2 (fun c => ?_) (fun _ => hC _ _ _ _ .same hW.at_.1 ⟨rfl, _, _, rfl⟩)⟩
    have c : anyEq (.str z) ((ms.take k).map Da.str) = true := c
    rw [anyEq_strs] at c
    exact absurd (of_decide_eq_true c) hn
  · rintro _ _ ⟨rfl, s1, s2, rfl⟩
    walk_at "m"
    rw [hW.at_.1]
    walk_at "m"
    rw [List.length_map]
    have h1 := h.n1
    have h8 := h.n8
    refine ite2 (fun c => ?_) (fun c => absurd c (by omega))
    refine ite2 (fun c => absurd c (by omega)) (fun c => leave_same q)
theorem in_no {z : Str} {ms : List Str} (h : z ∈ ms) : ¬ anyEq (.str z) (ms.map Da.str) = false := by
  rw [anyEq_strs, decide_eq_true h]
  simp
def Pr (ms : List Str) (ps : List (Str × Str)) : Prop := ∀ p ∈ ps, p.1 ∈ ms ∧ p.2 ∈ ms
theorem need_clashes_ok {W P : Da} {ms : List Str} {ps : List (Str × Str)} {M : Mem} {Q : TK} {E : XD} (hW : Lk M W (ms.map Da.str)) (hP : Lk M P (ps.map prD)) (h : Pr ms ps) (q : Q .non M) : f_need_clashes [W, P] M Q E := by
  unfold f_need_clashes m_need_clashes
  walk_at "m0"
  walk_at "m"
  rw [hP.at_.2]
  walk_at "m"
  rw [hP.at_.1]
  walk_at "m"
  refine forL_ind (fun k ρ M' => M' = M ∧ ∃ s1 s2, ρ = [some W, some P, s1, s2]) ⟨rfl, _, _, rfl⟩ ?_ ?_
  · rintro k d _ _ ek ⟨rfl, s1, s2, rfl⟩ C hC
    obtain ⟨p, hp, rfl⟩ := List.mem_map.1 (List.mem_of_getElem? ek)
    obtain ⟨h1, h2⟩ := h p hp
    unfold prD
    walk_at "m"
    refine forL_step fun C2 hC2 => ?_
    walk_at "m"
    rw [hW.at_.1]
    walk_at "m"
    refine ⟨pdS _, ite2 (fun c => absurd c (in_no h1)) (fun _ => hC2 _ _ trivial (forL_step fun C3 hC3 => ?_))⟩
    walk_at "m"
    rw [hW.at_.1]
    walk_at "m"
    refine ⟨pdS _, ite2 (fun c => absurd c (in_no h2)) (fun _ => hC3 _ _ trivial (forL_end ?_))⟩
    refine hC _ _ _ _ .same ?_ ⟨rfl, _, _, rfl⟩
    rw [hP.at_.1]
  · rintro _ _ ⟨rfl, s1, s2, rfl⟩
    exact leave_same q
/-- what a mode clashes with -/
def agB (ps : List (Str × Str)) (a o : Str) : Bool := decide ((a, o) ∈ ps) || decide ((o, a) ∈ ps)
def agL (ms : List Str) (ps : List (Str × Str)) (a : Str) : List Str := ms.filter (agB ps a)
def agD (ms : List Str) (ps : List (Str × Str)) : List (Key × Da) := ms.map fun n => ((Sum.inr n : Key), Da.tup ((agL ms ps n).map Da.str))
def stgO (ms : List Str) (ps : List (Str × Str)) : Da := .obj "Strengths" [("own_modes", .tup (ms.map Da.str)), ("against", .dct (agD ms ps))]
theorem ag_val {ms : List Str} {ps : List (Str × Str)} {a : Str} (h : a ∈ ms) : valD (agD ms ps) (Sum.inr a) = some (.tup ((agL ms ps a).map Da.str)) := by
  have go : ∀ l : List Str, a ∈ l → valD (l.map fun n => ((Sum.inr n : Key), Da.tup ((agL ms ps n).map Da.str))) (Sum.inr a) = some (.tup ((agL ms ps a).map Da.str)) := by
    intro l
    induction l with
    | nil => intro h; cases h
    | cons x l ih =>
      intro h
      rw [List.map_cons, valD_cons]
      by_cases e : x = a
      · subst e
        rw [if_pos rfl]
      · rw [if_neg (fun q => e (Sum.inr.inj q))]
        exact ih ((List.mem_cons.1 h).resolve_left fun q => e q.symm)
  exact go ms h
theorem putD_new {kds : List (Key × Da)} {k : Key} {d : Da} (h : ∀ p ∈ kds, p.1 ≠ k) : putD kds k d = kds ++ [(k, d)] := by
  unfold putD
  rw [if_neg]
  intro q
  obtain ⟨p, hp, e⟩ := List.any_eq_true.1 q
  exact h p hp (by simpa using e)
/-- a dict's comprehension over different texts -/
theorem dcS {still : Mem → Prop} {i : Nat} {tt : MT} {tk tv : ME} {vs : List Nat} {ρ : Sl} {M : Mem} {Q : TK} (zs : List Str) (f : Str → Da) (nd : zs.Nodup)
    (ht : ∀ z ∈ zs, ∀ R : Bool → Mem → Prop, R true M → tt ((wipeD ρ vs).set i (some (.str z))) M R) (hk : ∀ z ∈ zs, ∀ R : TK, R (.str z) M → tk ((wipeD ρ vs).set i (some (.str z))) M R) (hf : ∀ z ∈ zs, ∀ R : TK, R (f z) M → tv ((wipeD ρ vs).set i (some (.str z))) M R)
    (hS : still M) (q : Q (.dct (zs.map fun z => ((Sum.inr z : Key), f z))) M) : dcL still (hName i) tt tk tv vs ρ (zs.map Da.str) [] M Q := by
  have go : ∀ (ys xs : List Str), xs ++ ys = zs → dcL still (hName i) tt tk tv vs ρ (ys.map Da.str) (xs.map fun z => ((Sum.inr z : Key), f z)) M Q := by
    intro ys
    induction ys with
    | nil =>
      intro xs e
      rw [List.append_nil] at e
      subst e
      exact q
    | cons y ys ih =>
      intro xs e
      have hy : y ∈ zs := by rw [← e]; simp
      rw [List.map_cons]
      unfold dcL
      refine ht y hy _ (iteT (hk y hy _ (hf y hy _ ⟨Sum.inr y, rfl, hS, ?_⟩)))
      have e2 : putD (xs.map fun z => ((Sum.inr z : Key), f z)) (Sum.inr y) (f y) = (xs ++ [y]).map fun z => ((Sum.inr z : Key), f z) := by
        rw [putD_new]
        · simp
        · intro p hp e3
          obtain ⟨x, hx, rfl⟩ := List.mem_map.1 hp
          have e3 : x = y := Sum.inr.inj e3
          subst e3
          rw [← e] at nd
          have := (List.nodup_append.1 nd).2.2 x hx x (by simp)
          exact this rfl
      rw [e2]
      exact ih (xs ++ [y]) (by rw [List.append_assoc]; exact e)
  exact go zs [] rfl
theorem init_ok {W P : Da} {ms : List Str} {ps : List (Str × Str)} {M : Mem} {Q : TK} {E : XD} (hW : Lk M W (ms.map Da.str)) (hP : Lk M P (ps.map prD)) (h : Mo ms) (hp : Pr ms ps) (hl : ps.length ≤ 100000) (q : Q .non (M ++ [stgO ms ps])) : f_Strengths_init [.cell M.length, W, P] (M ++ [.obj "Strengths" []]) Q E := by
  unfold f_Strengths_init m_Strengths_init
  walk_at "m0"
  walk_at "m"
  refine need_modes_ok (hW.more _) h ?_
  unfold b_Strengths_init_1
  walk_at "m"
  refine need_clashes_ok (hW.more _) (hP.more _) hp ?_
  unfold b_Strengths_init_2
  walk_at "m"
  rw [(hW _).1]
  walk_at "m"
  refine ⟨by decide, ?_⟩
  unfold b_Strengths_init_3
  refine seq_hide fun N hN => ?_
  walk_at "m"
  rw [(hP _).1]
  walk_at "m"
  refine ⟨by rw [List.length_map]; omega, ?_⟩
  refine lcP ps (fun _ => true) (fun x => prD (x.2, x.1)) (fun x hx R r => r) (fun x hx _ R r => ?_) ?_ ?_
  · walk_at "m"
    exact r
  · first | trivial | (rw [(hP _).1]) | (simp only [itD, (hP _).1])
  rw [filter_true]
  walk_at "m"
  refine ⟨by rw [List.length_append, List.length_map, List.length_map]; omega, hN _ _ ?_⟩
  clear hN
  have e : ps.map prD ++ (ps.map fun x => prD (x.2, x.1)) = (ps ++ ps.map fun x => (x.2, x.1)).map prD := by rw [List.map_append, List.map_map]; rfl
  rw [e]
  have hin : ∀ a o, decide ((a, o) ∈ ps ++ ps.map fun x => (x.2, x.1)) = agB ps a o := by
    intro a o
    unfold agB
    rw [← Bool.decide_or]
    refine decide_eq_decide.2 ?_
    rw [List.mem_append]
    refine or_congr Iff.rfl ?_
    rw [List.mem_map]
    constructor
    · rintro ⟨⟨x, y⟩, hx, e⟩
      cases e
      exact hx
    · intro hx
      exact ⟨(o, a), hx, rfl⟩
  generalize ps ++ (ps.map fun x => (x.2, x.1)) = both at hin
  have h8 := h.n8
  unfold b_Strengths_init_4
  walk_at "m"
  rw [(hW _).1]
  walk_at "m"
  refine ⟨by rw [List.length_map]; omega, ?_⟩
  refine dcS ms (fun a => .tup ((agL ms ps a).map Da.str)) h.nd (fun z hz R r => r) (fun z hz R r => ?_) (fun z hz R r => ?_) ?_ ?_
  · walk_at "m"
    exact r
  · walk_at "m"
    rw [(hW _).1]
    walk_at "m"
    refine ⟨by rw [List.length_map]; omega, ?_⟩
    refine lcS ms (agB ps z) Da.str (fun y hy R r => ?_) (fun y hy _ R r => ?_) ?_ ?_
    · walk_at "m"
      refine ⟨pdP both, ?_⟩
      have e : anyEq (.tup [.str z, .str y]) (both.map prD) = agB ps z y := (anyEq_prs (z, y) both).trans (hin z y)
      rw [e]
      exact r
    · walk_at "m"
      exact r
    · first | trivial | (rw [(hW _).1]) | (simp only [itD, (hW _).1])
    · exact r
  · first | trivial | (rw [(hW _).1]) | (simp only [itD, (hW _).1])
  · walk_at "m"
    refine ⟨by decide, ?_⟩
    exact leave_same q
end Z

namespace Z
open PySem PySem.Spec PyProof.Rows L2 Evl
theorem mapOF_id {n f : Nat} {M : Mem} : ∀ {ds : List (Str × Da)}, cloF n ds = true → mapOF (frz n f M) ds = some ds
  | [], _ => rfl
  | (_, d) :: ds, h => by
    unfold cloF at h
    rw [Bool.and_eq_true] at h
    unfold mapOF
    rw [frz_clo h.1, mapOF_id h.2]
theorem frz_cellO {n m f : Nat} {M : Mem} {c : Str} {ds : List (Str × Da)} (h : M[m]? = some (.obj c ds)) (le : n ≤ m) (cl : cloF n ds = true) : frz n (f + 1) M (.cell m) = some (.obj c ds) := by
  have nc : ¬ cloD n (.cell m) = true := by
    unfold cloD
    simp
    exact le
  unfold frz
  rw [if_neg nc]
  simp only [h]
  rw [mapOF_id cl]
  rfl
theorem leave_obj {Q : TK} {M : Mem} {c : Str} {ds : List (Str × Da)} (cM : cloL M.length M = true) (cl : cloF M.length ds = true) (q : Q (.obj c ds) M) : leave M.length Q (.cell M.length) (M ++ [.obj c ds]) :=
  ⟨_, M, .inr ⟨by simp, by simp, cM, frz_cellO (by simp) (Nat.le_refl _) cl⟩, q⟩
theorem cloK_map {n : Nat} {α : Type} (f : α → Key × Da) (l : List α) (h : ∀ x ∈ l, cloD n (f x).2 = true) : cloK n (l.map f) = true := by
  induction l with
  | nil => rfl
  | cons x l ih =>
    rw [List.map_cons]
    show (cloD n (f x).2 && cloK n (l.map f)) = true
    rw [h x (List.mem_cons_self ..), ih fun y hy => h y (List.mem_cons_of_mem _ hy)]
    rfl
theorem stg_clo (n : Nat) (ms : List Str) (ps : List (Str × Str)) : cloF n [(("own_modes" : Str), Da.tup (ms.map Da.str)), ("against", .dct (agD ms ps))] = true := by
  have h1 : cloD n (.tup (ms.map Da.str)) = true := clo_strs n ms
  have h2 : cloD n (.dct (agD ms ps)) = true := cloK_map _ ms fun x _ => clo_strs n _
  unfold cloF cloF cloF
  rw [h1, h2]
  rfl
section
variable {W P : Da} {ms : List Str} {ps : List (Str × Str)} {M : Mem} {Q : TK} {E : XD}
theorem mkS_okL (cM : cloL M.length M = true) (hW : Lk M W (ms.map Da.str)) (hP : Lk M P (ps.map prD)) (h : Mo ms) (hp : Pr ms ps) (hl : ps.length ≤ 100000) (q : Q (stgO ms ps) M) :
    mMakeE "Strengths" [0, 1, 2] f_Strengths_init [] [W, P] [] M Q E := by
  unfold mMakeE
  exact init_ok hW hP h hp hl ⟨rfl, leave_obj cM (stg_clo _ ms ps) q⟩
theorem mkS_okK (cM : cloL M.length M = true) (hW : Lk M W (ms.map Da.str)) (hP : Lk M P (ps.map prD)) (h : Mo ms) (hp : Pr ms ps) (hl : ps.length ≤ 100000) (q : Q (stgO ms ps) M) :
    mMakeE "Strengths" [0, 2, 1] f_Strengths_init [] [] [P, W] M Q E := by
  unfold mMakeE
  exact init_ok hW hP h hp hl ⟨rfl, leave_obj cM (stg_clo _ ms ps) q⟩
theorem mkS_ok (cM : cloL M.length M = true) (h : Mo ms) (hp : Pr ms ps) (hl : ps.length ≤ 100000) (q : Q (stgO ms ps) M) :
    mMakeE "Strengths" [0, 1, 2] f_Strengths_init [] [.lst (ms.map Da.str), .lst (ps.map prD)] [] M Q E := mkS_okL cM (.tree _ _) (.tree _ _) h hp hl q
end
/-- no text of the list -/
theorem no_str {u : Da} {ms : List Str} (h : ∀ z ∈ ms, u ≠ .str z) : anyEq u (ms.map Da.str) = false := by
  unfold anyEq
  rw [List.any_eq_false]
  intro d hd
  obtain ⟨z, hz, rfl⟩ := List.mem_map.1 hd
  have := h z hz
  cases u with
  | str y =>
    show ¬ decide (z = y) = true
    intro e
    exact this (by rw [of_decide_eq_true e])
  | _ => exact Bool.false_ne_true
section
variable {ms : List Str} {ps : List (Str × Str)} {M : Mem} {Q : TK} {E : XD} {a o : Str}
theorem need_ok (h : a ∈ ms) (q : Q .non M) : f_Strengths_need [stgO ms ps, .str a] M Q E := by
  unfold f_Strengths_need m_Strengths_need stgO
  walk_at "m0"
  walk_at "m"
  refine ⟨pdS _, ite2 (fun c => absurd c (in_no h)) (fun _ => leave_same q)⟩
theorem need_no {u : Da} (pu : plD u = true) (du : dpD u ≤ 30) (h : ∀ z ∈ ms, u ≠ .str z) (q : E "UnknownMode" [("name", u)] M) : f_Strengths_need [stgO ms ps, u] M Q E := by
  unfold f_Strengths_need m_Strengths_need stgO
  walk_at "m0"
  walk_at "m"
  rw [lookE_pl pu]
  exact ⟨pdS _, ⟨pu, by omega⟩, ite2 (fun _ => leaveX_same q) (fun c => absurd (no_str h) c)⟩
theorem clash_ok (ha : a ∈ ms) (ho : o ∈ ms) (q : Q (.bl (decide (o ∈ agL ms ps a))) M) : f_Strengths_clash [stgO ms ps, .str a, .str o] M Q E := by
  unfold f_Strengths_clash m_Strengths_clash
  walk_at "m0"
  unfold stgO
  walk_at "m"
  refine need_ok ha (need_ok ho ?_)
  refine ⟨_, _, rfl, ag_val ha, ?_⟩
  walk_at "m"
  refine ⟨pdS _, leave_same ?_⟩
  rw [anyEq_strs]
  exact q
theorem blsD_f {α : Type} (zs : List α) (P : α → Bool) : blsD (zs.map fun z => .bl (P z)) = some (zs.map P) := by
  rw [show (zs.map fun z => Da.bl (P z)) = (zs.map P).map Da.bl by rw [List.map_map]; rfl, blsD_map]
theorem modes_ok (h8 : ms.length ≤ 8) (q : Q (.cell M.length) (M ++ [.lst (ms.map Da.str)])) : f_Strengths_modes [stgO ms ps] M Q E := by
  unfold f_Strengths_modes m_Strengths_modes
  walk_at "m0"
  unfold stgO
  walk_at "m"
  exact leave_same q
theorem lenS_ok (q : Q (.int ms.length) M) : f_Strengths_len [stgO ms ps] M Q E := by
  unfold f_Strengths_len m_Strengths_len
  walk_at "m0"
  unfold stgO
  walk_at "m"
  rw [List.length_map]
  exact leave_same q
/-- all pairs that clash, each once -/
def clL (ms : List Str) (ps : List (Str × Str)) : List (Str × Str) := (List.range ms.length).flatMap fun k => match ms[k]? with
  | some z => ((ms.drop k).filter fun o => decide (o ∈ agL ms ps z)).map fun o => (z, o)
  | none => []
theorem clashes_ok (h8 : ms.length ≤ 8) (q : Q (.cell M.length) (M ++ [.lst ((clL ms ps).map prD)])) : f_Strengths_clashes [stgO ms ps] M Q E := by
  unfold f_Strengths_clashes m_Strengths_clashes
  walk_at "m0"
  unfold stgO
  walk_at "m"
  let out : Da → List Da := fun d => match d with
    | .tup [.int k, .str z] => ((ms.drop k.toNat).filter fun o => decide (o ∈ agL ms ps z)).map fun o => prD (z, o)
    | _ => []
  let sl : Da → Sl := fun d => match d with
    | .tup [.int k, .str z] => [some (.obj "Strengths" [("own_modes", .tup (ms.map Da.str)), ("against", .dct (agD ms ps))]), some (.tup (ms.map Da.str)), some (.int k), some (.str z), none]
    | _ => []
  have item : ∀ d ∈ enuD (ms.map Da.str), ∃ k : Nat, ∃ z, ms[k]? = some z ∧ d = .tup [.int (k : Nat), .str z] := by
    intro d hd
    obtain ⟨k, hk⟩ := List.getElem?_of_mem hd
    obtain ⟨x, ex, rfl⟩ := enuD_get hk
    rw [List.getElem?_map] at ex
    obtain ⟨z, ez, rfl⟩ := Option.map_eq_some_iff.1 ex
    exact ⟨k, z, ez, rfl⟩
  have eo : (enuD (ms.map Da.str)).flatMap out = (clL ms ps).map prD := by
    have e1 : enuD (ms.map Da.str) = (List.range ms.length).map fun k => Da.tup [.int (k : Nat), (ms[k]?.map Da.str).getD .non] := by
      apply List.ext_getElem?
      intro k
      by_cases l : k < ms.length
      · rw [enuD_at (d := .str ms[k]) (by simp [l]), List.getElem?_map, List.getElem?_range l]
        simp [l]
      · rw [List.getElem?_eq_none (by rw [enuD_len, List.length_map]; omega), List.getElem?_eq_none (by simp; omega)]
    unfold clL
    rw [e1, List.flatMap_map, List.map_flatMap]
    rw [List.flatMap_def, List.flatMap_def]
    congr 1
    refine List.map_congr_left fun k hk => ?_
    have l : k < ms.length := List.mem_range.1 hk
    simp [out, l, List.map_map, Function.comp_def]
  have hlen : ((enuD (ms.map Da.str)).flatMap out).length ≤ 900000 := by
    have : ∀ l : List Da, (l.flatMap out).length ≤ l.length * 8 := by
      intro l
      induction l with
      | nil => simp
      | cons d l ih =>
        rw [List.flatMap_cons, List.length_append, List.length_cons]
        have : (out d).length ≤ 8 := by
          simp only [out]
          split
          · rw [List.length_map]
            refine Nat.le_trans (List.length_filter_le _ _) ?_
            rw [List.length_drop]
            omega
          · simp
        omega
    have h := this (enuD (ms.map Da.str))
    rw [enuD_len, List.length_map] at h
    omega
  refine lcL2_pureG sl out hlen (fun d hd R r => ?_) (fun d hd R r => ?_) (fun d hd acc C la hC => ?_) trivial ?_
  · obtain ⟨k, z, ez, rfl⟩ := item d hd
    walk_at "m"
    exact r
  · exact r
  · obtain ⟨k, z, ez, rfl⟩ := item d hd
    have hz : z ∈ ms := List.mem_of_getElem? ez
    simp only [sl]
    walk_at "m"
    rw [cutL_dropD, ← List.map_drop]
    refine lcIn_S (fun o => decide (o ∈ agL ms ps z)) (fun o => prD (z, o)) (ms.drop k) acc (by rw [List.length_drop]; omega) (fun o ho R r => ?_) (fun o ho _ R r => ?_) trivial ?_
    · walk_at "m"
      refine ⟨_, _, rfl, ag_val hz, ?_⟩
      walk_at "m"
      refine ⟨pdS _, ?_⟩
      rw [anyEq_strs]
      exact r
    · walk_at "m"
      exact r
    · have e : out (.tup [.int (k : Nat), .str z]) = ((ms.drop k).filter fun o => decide (o ∈ agL ms ps z)).map fun o => prD (z, o) := by
        simp only [out, Int.toNat_natCast]
      rw [e] at hC
      exact hC
  · rw [eo]
    walk_at "m"
    exact leave_same q
theorem eqS_ok {ms2 : List Str} {ps2 : List (Str × Str)} (q : Q (.bl (decide (ms = ms2) && eqKD (agD ms ps) (agD ms2 ps2))) M) : f_Strengths_eq [stgO ms ps, stgO ms2 ps2] M Q E := by
  unfold f_Strengths_eq m_Strengths_eq
  walk_at "m0"
  unfold stgO
  walk_at "m"
  have k : ∀ m p, pdK (agD m p) := fun m p x hx => by
    obtain ⟨z, _, rfl⟩ := List.mem_map.1 hx
    exact pdT _
  rw [eqL_strsD]
  refine ⟨⟨plL_strs _, by rw [dpL_map (fun _ => rfl)]; omega⟩, ⟨plL_strs _, by rw [dpL_map (fun _ => rfl)]; omega⟩, ?_⟩
  by_cases c : ms = ms2
  · rw [decide_eq_true c, Bool.true_and] at q
    rw [decide_eq_true c]
    exact ⟨k _ _, k _ _, leave_same q⟩
  · rw [decide_eq_false c, Bool.false_and] at q
    rw [decide_eq_false c]
    exact leave_same q
end
end Z

namespace Z
open PySem PySem.Spec PyProof.Rows L2 Evl
def modelD (ms : List Str) (ps : List (Str × Str)) : Da := .lst [.lst (ms.map Da.str), .lst (ps.map prD)]
section
variable {ms : List Str} {ps : List (Str × Str)} {M : Mem} {Q : TK} {E : XD} {a o : Str}
theorem law_against_ok (h8 : ms.length ≤ 8) (q : Q (.lst ((agL ms ps a).map Da.str)) M) : f_law_against [modelD ms ps, .str a] M Q E := by
  unfold f_law_against m_law_against modelD
  walk_at "m0"
  walk_at "m"
  refine ⟨by rw [List.length_map]; omega, ?_⟩
  refine lcS ms (agB ps a) Da.str (fun z hz R r => ?_) (fun z hz _ R r => ?_) trivial ?_
  · unfold agB at r
    walk_at "m"
    have e1 : anyEq (.tup [.str a, .str z]) (ps.map prD) = decide ((a, z) ∈ ps) := anyEq_prs (a, z) ps
    have e2 : anyEq (.tup [.str z, .str a]) (ps.map prD) = decide ((z, a) ∈ ps) := anyEq_prs (z, a) ps
    refine ⟨pdP ps, ite2 (fun c => ?_) (fun c => ?_)⟩
    · have c : anyEq (.tup [.str a, .str z]) (ps.map prD) = true := c
      rw [e1] at c
      rw [c, Bool.true_or] at r
      exact r
    · have c : ¬ anyEq (.tup [.str a, .str z]) (ps.map prD) = true := c
      rw [e1] at c
      rw [Bool.not_eq_true] at c
      rw [c, Bool.false_or] at r
      refine ⟨pdP ps, ?_⟩
      rw [e2]
      exact r
  · walk_at "m"
    exact r
  · exact leave_same q
/-- the pairs of the places ahead of k -/
def clK (ms : List Str) (ps : List (Str × Str)) (k : Nat) : List (Str × Str) := (List.range k).flatMap fun k => match ms[k]? with
  | some z => ((ms.drop k).filter fun o => decide (o ∈ agL ms ps z)).map fun o => (z, o)
  | none => []
theorem clK_len (h8 : ms.length ≤ 8) (k : Nat) : (clK ms ps k).length ≤ 8 * k := by
  unfold clK
  induction k with
  | zero => simp
  | succ k ih =>
    rw [List.range_succ, List.flatMap_append, List.length_append]
    have : (List.flatMap (fun k => match ms[k]? with | some z => ((ms.drop k).filter fun o => decide (o ∈ agL ms ps z)).map fun o => (z, o) | none => []) [k]).length ≤ 8 := by
      rw [List.flatMap_cons, List.flatMap_nil, List.append_nil]
      split
      · rw [List.length_map]
        refine Nat.le_trans (List.length_filter_le _ _) ?_
        rw [List.length_drop]
        omega
      · simp
    omega
theorem law_pairs_ok (h8 : ms.length ≤ 8) (q : Q (.lst ((clL ms ps).map prD)) M) : f_law_pairs [modelD ms ps] M Q E := by
  unfold f_law_pairs m_law_pairs
  walk_at "m0"
  refine seq_hide fun N hN => ?_
  have em : look M (modelD ms ps) = modelD ms ps := rfl
  walk_at "m"
  rw [em]
  unfold modelD
  walk_at "m"
  refine hN _ _ ?_
  clear hN
  walk_at "m"
  rw [List.length_map]
  refine ⟨by omega, by omega, ?_⟩
  refine forL_ind (fun k ρ M' => M' = M ∧ ∃ s3 s4, ρ = [some (modelD ms ps), some (.lst (ms.map Da.str)), some (.lst ((clK ms ps k).map prD)), s3, s4]) ⟨rfl, _, _, rfl⟩ ?_ ?_
  · rintro k e _ _ he ⟨rfl, s3, s4, rfl⟩ C hC
    obtain ⟨hk, rfl⟩ := rngD_at he
    have hk : k < ms.length := by simpa using hk
    obtain ⟨z, ez⟩ : ∃ z, ms[k]? = some z := ⟨ms[k], by simp [hk]⟩
    have ea : atI (ms.map Da.str) (0 + (k : Int)) = some (.str z) := by
      rw [Int.zero_add, atI_nat', List.getElem?_map, ez]
      rfl
    have es : cutL (ms.map Da.str) (some (0 + (k : Int))) none = (ms.drop k).map Da.str := by
      rw [Int.zero_add, cutL_dropD, List.map_drop]
    walk_at "m"
    rw [es]
    refine ⟨by rw [List.length_map, List.length_drop]; omega, ?_⟩
    refine lcS (ms.drop k) (fun o => decide (o ∈ agL ms ps z)) (fun o => prD (z, o)) (fun y hy R r => ?_) (fun y hy _ R r => ?_) trivial ?_
    · walk_at "m"
      rw [ea]
      walk_at "m"
      refine law_against_ok h8 ?_
      walk_at "m"
      refine ⟨pdS _, ?_⟩
      rw [anyEq_strs]
      exact r
    · walk_at "m"
      rw [ea]
      exact r
    · walk_at "m"
      have hl := clK_len (ps := ps) h8 k
      have e2 : (clK ms ps k).map prD ++ ((ms.drop k).filter fun o => decide (o ∈ agL ms ps z)).map (fun o => prD (z, o)) = (clK ms ps (k + 1)).map prD := by
        unfold clK
        rw [List.range_succ, List.flatMap_append, List.map_append]
        simp [ez, List.map_map, Function.comp_def]
      refine ⟨?_, ?_⟩
      · have h9 := List.length_filter_le (fun o => decide (o ∈ agL ms ps z)) (ms.drop k)
        rw [List.length_drop] at h9
        rw [List.length_map, List.length_map, sizeLine_eq]
        omega
      · rw [e2]
        exact hC _ _ _ _ .same trivial ⟨rfl, _, _, rfl⟩
  · rintro _ _ ⟨rfl, s3, s4, rfl⟩
    rw [rngD_len]
    walk_at "m"
    exact leave_same q
end
end Z

namespace Z
open PySem PySem.Spec PyProof.Rows L2 Evl
/-- a drawn name: valid, and none of the law's own odd ones -/
def nmG (z : Str) : Bool := nmS z && (!decide (z = ("pqz" : Str)))
theorem nmG13 : ∀ z ∈ (["begin", "empty", "rest", "step", "end", "look", "old", "new", "put", "part", "move", "split", "lock"] : List Str), nmG z = true := by decide +kernel
theorem nmG_form : ∀ stem ∈ stems, ∀ c ∈ letters, ∀ w ∈ [0, 1, 2], nmG (formS stem c w) = true := by decide +kernel
theorem nmG_nm {z : Str} (h : nmG z = true) : nmS z = true ∧ z ≠ "pqz" := by
  unfold nmG at h
  simp only [Bool.and_eq_true, Bool.not_eq_true', decide_eq_false_iff_not] at h
  exact h
theorem law_modes_ok {n : Nat} {b : Da} {R : Mem} {Q : TK} {E : XD} (B : BoxD n b) (hn : n ≤ 100000)
    (k : ∀ (ms : List Str) (ps : List (Str × Str)) (b' : Da), BoxD (n + 100) b' → Mo ms → (∀ z ∈ ms, nmG z = true) → Pr ms ps → ps.length ≤ 64 → Q (modelD ms ps) (b' :: R)) : f_law_modes [.cell 0, .int 8] (b :: R) Q E := by
  unfold f_law_modes m_law_modes
  walk_at "m1"
  intro cM cD
  refine seq_hide fun N hN => ?_
  walk_at "m"
  refine take_ok B (by omega) (by decide) (by decide +kernel) fun d0 b1 B1 e0 e1 => ?_
  walk_at "m"
  refine names_okG (P := fun z => nmG z = true) nmG13 nmG_form B1 (by omega) (by omega) (by omega) fun ms b2 B2 hl nd hg => ?_
  refine hN _ _ ?_
  clear hN
  have mo : Mo ms := ⟨by omega, by omega, nd, fun z hz => (nmG_nm (hg z hz)).1⟩
  have h8 := mo.n8
  unfold b_law_modes_1
  refine seq_hide fun N hN => ?_
  walk_at "m"
  refine take_ok B2 (by omega) (by decide) (by decide +kernel) fun d1 b3 B3 f0 f1 => ?_
  have ec : ∃ c : Int, 2 ≤ c ∧ c ≤ 4 ∧ atI [Da.int 2, Da.int 3, Da.int 4] d1 = some (.int c) := by
    have : d1 = 0 ∨ d1 = 1 ∨ d1 = 2 := by omega
    rcases this with rfl | rfl | rfl
    · exact ⟨2, by decide, by decide, rfl⟩
    · exact ⟨3, by decide, by decide, rfl⟩
    · exact ⟨4, by decide, by decide, rfl⟩
  obtain ⟨c, c2, c4, ec⟩ := ec
  try walk_at "m"
  rw [ec]
  try walk_at "m"
  refine hN _ _ ?_
  clear hN
  unfold b_law_modes_2
  refine seq_hide fun N hN => ?_
  walk_at "m"
  refine forL_ind (fun j ρ M => ∃ b ps s5 s6, BoxD (n + 30 + 8 * j) b ∧ Pr ms ps ∧ ps.length ≤ 8 * j ∧ M = b :: (R ++ [.lst (ps.map prD)]) ∧ ρ = [some (.cell 0), some (.int 8), some (.lst (ms.map Da.str)), some (.cell (R.length + 1)), some (.int c), s5, s6])
    ⟨b3, [], _, _, B3.mono (by omega), (fun p hp => by cases hp), by simp, rfl, rfl⟩ ?_ ?_
  · rintro j d _ _ ej ⟨b, ps, s5, s6, B, hp, lp, rfl, rfl⟩ C hC
    have lj : j < ms.length := by
      have := (List.getElem?_eq_some_iff.1 ej).1
      rwa [List.length_map] at this
    obtain ⟨x, hx, rfl⟩ := List.mem_map.1 (List.mem_of_getElem? ej)
    unfold l_law_modes_1
    walk_at "m"
    refine forL_ind (fun i ρ M => ∃ b ps s6, BoxD (n + 30 + 8 * j + i) b ∧ Pr ms ps ∧ ps.length ≤ 8 * j + i ∧ M = b :: (R ++ [.lst (ps.map prD)]) ∧ ρ = [some (.cell 0), some (.int 8), some (.lst (ms.map Da.str)), some (.cell (R.length + 1)), some (.int c), some (.str x), s6])
      ⟨b, ps, _, B, hp, lp, rfl, rfl⟩ ?_ ?_
    · rintro i d _ _ ei ⟨b, ps, s6, B, hp, lp, rfl, rfl⟩ C2 hC2
      have li : i < ms.length := by
        have := (List.getElem?_eq_some_iff.1 ei).1
        rwa [List.length_map] at this
      obtain ⟨y, hy, rfl⟩ := List.mem_map.1 (List.mem_of_getElem? ei)
      walk_at "m"
      unfold l_law_modes_2
      refine if_hide fun T U hT hU => ?_
      walk_at "m"
      refine take_ok B (by omega) (by omega) (by
        have : c = 2 ∨ c = 3 ∨ c = 4 := by omega
        rcases this with rfl | rfl | rfl <;> decide +kernel) fun d2 b4 B4 g0 g1 => ?_
      walk_at "m"
      refine ite2 (fun _ => hT _ ?_) (fun _ => hU _ (next_run ?_))
      · walk_at "m"
        refine ⟨⟨_, rfl⟩, by rw [List.length_map, sizeLine_eq]; omega, hC2 _ _ _ _ .same trivial ⟨b4, ps ++ [(x, y)], _, B4, ?_, ?_, ?_, rfl⟩⟩
        · intro p hp2
          rcases List.mem_append.1 hp2 with h | h
          · exact hp p h
          · rw [List.mem_singleton.1 h]
            exact ⟨hx, hy⟩
        · rw [List.length_append, List.length_singleton]
          omega
        · rw [List.map_append]
          rfl
      · exact hC2 _ _ _ _ .same trivial ⟨b4, ps, _, B4, hp, by omega, rfl, rfl⟩
    · rintro _ _ ⟨b, ps, s6, B, hp, lp, rfl, rfl⟩
      rw [List.length_map] at B lp
      exact hC _ _ _ _ .same trivial ⟨b, ps, _, _, B.mono (by omega), hp, by omega, rfl, rfl⟩
  · rintro _ _ ⟨b, ps, s5, s6, B, hp, lp, rfl, rfl⟩
    rw [List.length_map] at B lp
    refine hN _ _ ?_
    unfold b_law_modes_3
    walk_at "m"
    have c1 : cloD (R.length + 1) (.lst (ms.map Da.str)) = true := clo_strs _ ms
    have c2 : cloL (R.length + 1) (ps.map prD) = true := plL_clo _ (pl_prs ps)
    refine leave_box B cM (d' := modelD ms ps) ?_ (k ms ps b (B.mono (by omega)) mo hg hp (by omega))
    have nc : cloD (R.length + 1) (.lst [.lst (ms.map Da.str), .cell (R.length + 1)]) = false := by
      show (cloD (R.length + 1) (.lst (ms.map Da.str)) && (decide (R.length + 1 < R.length + 1) && true)) = false
      simp
    show frz (R.length + 1) (3 + 1) _ _ = _
    unfold frz
    rw [if_neg (by rw [nc]; simp)]
    show (mapO (frz (R.length + 1) 3 _) [.lst (ms.map Da.str), .cell (R.length + 1)]).map Da.lst = _
    unfold mapO mapO mapO
    rw [frz_clo c1, frz_cell (by simp) (Nat.le_refl _) c2]
    rfl
end Z

namespace Z
open PySem PySem.Spec PyProof.Rows L2 Evl
/-- the first thing wrong in a list of modes -/
def scanN : List Da → List Da → Option (Bool × Da)
  | _, [] => none
  | seen, x :: r => if nmD x = true then (if anyEq x seen = true then some (true, x) else scanN (seen ++ [x]) r) else some (false, x)
def dueN (ws : List Da) : Option (Str × Str × Da) := match scanN [] ws with
  | some (false, x) => some ("InvalidName", "value", x)
  | some (true, x) => some ("Duplicate", "name", x)
  | none => if 1 ≤ ws.length ∧ ws.length ≤ 8 then none else some ("InvalidModes", "value", .lst ws)
def dueM : Da → Option (Str × Str × Da)
  | .lst ws => dueN ws
  | d => some ("InvalidModes", "value", d)
theorem nm_str {d : Da} (h : nmD d = true) : ∃ z, d = .str z ∧ nmS z = true := by
  cases d with
  | str z => exact ⟨z, rfl, h⟩
  | _ => cases h
theorem names_all {ws : List Da} (h : ∀ d ∈ ws, nmD d = true) : ∃ ms : List Str, ws = ms.map Da.str ∧ ∀ z ∈ ms, nmS z = true := by
  induction ws with
  | nil => exact ⟨[], rfl, fun z h => by cases h⟩
  | cons d r ih =>
    obtain ⟨z, rfl, hz⟩ := nm_str (h d (List.mem_cons_self ..))
    obtain ⟨ms, rfl, hm⟩ := ih fun x hx => h x (List.mem_cons_of_mem _ hx)
    refine ⟨z :: ms, rfl, fun y hy => ?_⟩
    rcases List.mem_cons.1 hy with rfl | hy
    · exact hz
    · exact hm y hy
theorem scan_none : ∀ {ws : List Da} {seen : List Str}, scanN (seen.map Da.str) ws = none → seen.Nodup → ∃ ms : List Str, ws = ms.map Da.str ∧ (∀ z ∈ ms, nmS z = true) ∧ (seen ++ ms).Nodup
  | [], seen, _, nd => ⟨[], rfl, (fun z h => by cases h), by simpa using nd⟩
  | x :: r, seen, h, nd => by
    unfold scanN at h
    split at h
    · rename_i hx
      obtain ⟨z, rfl, hz⟩ := nm_str hx
      split at h
      · cases h
      · rename_i hn
        rw [anyEq_strs] at hn
        have hn : z ∉ seen := fun q => hn (decide_eq_true q)
        have e : seen.map Da.str ++ [Da.str z] = (seen ++ [z]).map Da.str := by simp
        rw [e] at h
        obtain ⟨ms, rfl, h1, h2⟩ := scan_none h (by
          rw [List.nodup_append]
          refine ⟨nd, by simp, fun a ha b hb => ?_⟩
          rw [List.mem_singleton.1 hb]
          rintro rfl
          exact hn ha)
        refine ⟨z :: ms, rfl, fun y hy => ?_, by simpa using h2⟩
        rcases List.mem_cons.1 hy with rfl | hy
        · exact hz
        · exact h1 y hy
    · cases h
theorem dueM_none {W : Da} (h : dueM W = none) : ∃ ms, W = .lst (ms.map Da.str) ∧ Mo ms := by
  cases W with
  | lst ws =>
    have h : dueN ws = none := h
    unfold dueN at h
    cases e : scanN [] ws with
    | some p =>
      obtain ⟨b, x⟩ := p
      rw [e] at h
      cases b <;> cases h
    | none =>
      rw [e] at h
      simp only at h
      split at h
      · rename_i l
        obtain ⟨ms, rfl, h1, h2⟩ := scan_none (seen := []) e .nil
        rw [List.length_map] at l
        exact ⟨ms, rfl, l.1, l.2, by simpa using h2, h1⟩
      · cases h
  | _ => cases h
/-- plain data as they are handed in -/
def hdI (d : Da) : Prop := pd d ∧ plE d = true ∧ dpE d ≤ 20
def hdW : Da → Prop
  | .lst ws => ws.length ≤ 5000 ∧ ∀ d ∈ ws, hdI d
  | d => pdd d = true
theorem hdI.pdd {d : Da} (h : hdI d) : Z.pdd d = true := pdd_of h.1.1
theorem take_next {α : Type} {l : List α} {k : Nat} {x : α} (h : l[k]? = some x) : l.take (k + 1) = l.take k ++ [x] ∧ l.drop k = x :: l.drop (k + 1) := by
  obtain ⟨lt, rfl⟩ := List.getElem?_eq_some_iff.1 h
  exact ⟨by rw [List.take_succ, h]; rfl, List.drop_eq_getElem_cons lt⟩
theorem pdN {ws : List Da} (h : ∀ d ∈ ws, nmD d = true) : pdL ws := by
  obtain ⟨ms, rfl, _⟩ := names_all h
  exact pdS ms
/-- the loop over modes, from any place -/
structure ScI (ws : List Da) (k : Nat) : Prop where
  eq : scanN (ws.take k) (ws.drop k) = scanN [] ws
  nm : ∀ d ∈ ws.take k, nmD d = true
theorem ScI.zero (ws : List Da) : ScI ws 0 := ⟨rfl, fun d h => by cases h⟩
theorem ScI.next {ws : List Da} {k : Nat} {x : Da} (I : ScI ws k) (h : ws[k]? = some x) (hx : nmD x = true) (hn : anyEq x (ws.take k) = false) : ScI ws (k + 1) := by
  obtain ⟨e1, e2⟩ := take_next h
  refine ⟨?_, fun d hd => ?_⟩
  · rw [← I.eq, e2]
    conv => rhs; unfold scanN
    rw [if_pos hx, if_neg (by rw [hn]; simp), e1]
  · rw [e1] at hd
    rcases List.mem_append.1 hd with hd | hd
    · exact I.nm d hd
    · rw [List.mem_singleton.1 hd]
      exact hx
theorem ScI.bad {ws : List Da} {k : Nat} {x : Da} (I : ScI ws k) (h : ws[k]? = some x) (hx : nmD x = false) : scanN [] ws = some (false, x) := by
  rw [← I.eq, (take_next h).2]
  unfold scanN
  rw [if_neg (by rw [hx]; simp)]
theorem ScI.twice {ws : List Da} {k : Nat} {x : Da} (I : ScI ws k) (h : ws[k]? = some x) (hx : nmD x = true) (hn : anyEq x (ws.take k) = true) : scanN [] ws = some (true, x) := by
  rw [← I.eq, (take_next h).2]
  unfold scanN
  rw [if_pos hx, if_pos hn]
theorem ScI.end_ {ws : List Da} (I : ScI ws ws.length) : scanN [] ws = none := by
  rw [← I.eq, List.drop_length]
  rfl
theorem need_modes_bad {W : Da} {M : Mem} {Q : TK} {E : XD} {c f : Str} {v : Da} (hW : hdW W) (h : dueM W = some (c, f, v)) (q : E c [(f, v)] M) : f_need_modes [W] M Q E := by
  unfold f_need_modes m_need_modes
  walk_at "m0"
  cases W with
  | lst ws =>
    have h : dueN ws = some (c, f, v) := h
    unfold dueN at h
    walk_at "m"
    refine forL_ind (fun k ρ M' => M' = M ∧ ScI ws k ∧ ∃ s1 s2, ρ = [some (.lst ws), s1, s2]) ⟨rfl, .zero ws, _, _, rfl⟩ ?_ ?_
    · rintro k d _ _ ek ⟨rfl, I, s1, s2, rfl⟩ C hC
      obtain ⟨x, ex, rfl⟩ := enuD_get ek
      have hx : hdI x := hW.2 x (List.mem_of_getElem? ex)
      walk_at "m"
      refine is_name_ok hx.pdd ?_
      walk_at "m"
      cases e : nmD x with
      | false =>
        rw [I.bad ex e] at h
        cases h
        walk_at "m"
        exact leaveX_same q
      | true =>
        walk_at "m"
        rw [cutL_takeD, lookE_pl hx.1.1]
        refine ⟨pdN I.nm, hx.1, ite2 (fun c => ?_) (fun c => ?_)⟩
        · rw [I.twice ex e c] at h
          cases h
          exact leaveX_same q
        · exact hC _ _ _ _ .same trivial ⟨rfl, I.next ex e (by simpa using c), _, _, rfl⟩
    · rintro _ _ ⟨rfl, I, s1, s2, rfl⟩
      rw [enuD_len] at I
      rw [I.end_] at h
      simp only at h
      split at h
      · cases h
      · rename_i l
        cases h
        walk_at "m"
        refine ite2 (fun c1 => ite2 (fun c2 => leaveX_same q) (fun c2 => absurd ⟨by omega, by omega⟩ l)) (fun c1 => leaveX_same q)
  | non => cases h; walk_at "m"; exact leaveX_same q
  | bl b => cases h; walk_at "m"; exact leaveX_same q
  | int b => cases h; walk_at "m"; exact leaveX_same q
  | str b => cases h; walk_at "m"; exact leaveX_same q
  | tup b => cases h; walk_at "m"; exact leaveX_same q
  | dct b => cases h; walk_at "m"; exact leaveX_same q
  | _ => cases hW
end Z

namespace Z
open PySem PySem.Spec PyProof.Rows L2 Evl
def badItem (ms : List Str) : Da → Option (Bool × Da)
  | .tup [x, y] => if anyEq x (ms.map Da.str) = true then (if anyEq y (ms.map Da.str) = true then none else some (true, y)) else some (true, x)
  | d => some (false, d)
theorem badItem_two {ms : List Str} {x y : Da} : badItem ms (.tup [x, y]) = if anyEq x (ms.map Da.str) = true then (if anyEq y (ms.map Da.str) = true then none else some (true, y)) else some (true, x) := rfl
def scanC (ms : List Str) : List Da → Option (Bool × Da)
  | [] => none
  | x :: r => match badItem ms x with
    | none => scanC ms r
    | some p => some p
def dueQ (ms : List Str) (qs : List Da) : Option (Str × Str × Da) := match scanC ms qs with
  | some (false, x) => some ("InvalidClash", "value", x)
  | some (true, x) => some ("UnknownMode", "name", x)
  | none => none
def dueC (ms : List Str) : Da → Option (Str × Str × Da)
  | .lst qs => dueQ ms qs
  | d => some ("InvalidStrengths", "value", d)
theorem any_str {x : Da} {ms : List Str} (h : anyEq x (ms.map Da.str) = true) : ∃ z, x = .str z ∧ z ∈ ms := by
  cases x with
  | str z =>
    rw [anyEq_strs] at h
    exact ⟨z, rfl, of_decide_eq_true h⟩
  | _ =>
    have := no_str (u := _) (ms := ms) (fun z _ => by simp) |>.symm.trans h
    cases this
theorem badItem_none {ms : List Str} {d : Da} (h : badItem ms d = none) : ∃ p : Str × Str, d = prD p ∧ p.1 ∈ ms ∧ p.2 ∈ ms := by
  unfold badItem at h
  split at h
  · split at h
    · rename_i h1
      split at h
      · rename_i h2
        obtain ⟨a, rfl, ha⟩ := any_str h1
        obtain ⟨b, rfl, hb⟩ := any_str h2
        exact ⟨(a, b), rfl, ha, hb⟩
      · cases h
    · cases h
  · cases h
theorem scanC_none {ms : List Str} : ∀ {qs : List Da}, scanC ms qs = none → ∃ ps : List (Str × Str), qs = ps.map prD ∧ Pr ms ps
  | [], _ => ⟨[], rfl, fun p h => by cases h⟩
  | x :: r, h => by
    unfold scanC at h
    split at h
    · rename_i e
      obtain ⟨p, rfl, h1⟩ := badItem_none e
      obtain ⟨ps, rfl, h2⟩ := scanC_none h
      refine ⟨p :: ps, rfl, fun q hq => ?_⟩
      rcases List.mem_cons.1 hq with rfl | hq
      · exact h1
      · exact h2 q hq
    · cases h
theorem dueC_none {ms : List Str} {P : Da} (h : dueC ms P = none) : ∃ ps, P = .lst (ps.map prD) ∧ Pr ms ps := by
  cases P with
  | lst qs =>
    have h : dueQ ms qs = none := h
    unfold dueQ at h
    cases e : scanC ms qs with
    | some p =>
      obtain ⟨b, x⟩ := p
      rw [e] at h
      cases b <;> cases h
    | none =>
      obtain ⟨ps, rfl, hp⟩ := scanC_none e
      exact ⟨ps, rfl, hp⟩
  | _ => cases h
theorem pd_two {x y : Da} (h : pd (.tup [x, y])) : pd x ∧ pd y := by
  obtain ⟨h1, h2⟩ := h
  unfold plD plL plL plL at h1
  unfold dpD dpL dpL dpL at h2
  simp only [Bool.and_true, Bool.and_eq_true] at h1
  exact ⟨⟨h1.1, by omega⟩, ⟨h1.2, by omega⟩⟩
theorem scanC_next {ms : List Str} {qs : List Da} {k : Nat} {x : Da} (h : qs[k]? = some x) (hx : badItem ms x = none) : scanC ms (qs.drop (k + 1)) = scanC ms (qs.drop k) := by
  rw [(take_next h).2]
  conv => rhs; unfold scanC
  rw [hx]
theorem scanC_hit {ms : List Str} {qs : List Da} {k : Nat} {x : Da} {p : Bool × Da} (h : qs[k]? = some x) (hx : badItem ms x = some p) : scanC ms (qs.drop k) = some p := by
  rw [(take_next h).2]
  unfold scanC
  rw [hx]
theorem need_clashes_bad {ms : List Str} {P : Da} {M : Mem} {Q : TK} {E : XD} {c f : Str} {v : Da} (hP : hdW P) (h : dueC ms P = some (c, f, v)) (q : E c [(f, v)] M) : f_need_clashes [.lst (ms.map Da.str), P] M Q E := by
  unfold f_need_clashes m_need_clashes
  walk_at "m0"
  cases P with
  | lst qs =>
    have h : dueQ ms qs = some (c, f, v) := h
    unfold dueQ at h
    walk_at "m"
    refine forL_ind (fun k ρ M' => M' = M ∧ scanC ms (qs.drop k) = scanC ms qs ∧ ∃ s1 s2, ρ = [some (.lst (ms.map Da.str)), some (.lst qs), s1, s2]) ⟨rfl, rfl, _, _, rfl⟩ ?_ ?_
    · rintro k d _ _ ek ⟨rfl, I, s1, s2, rfl⟩ C hC
      have hd : hdI d := hP.2 d (List.mem_of_getElem? ek)
      have notT : badItem ms d = some (false, d) → ∀ M0 : Mem, E c [(f, v)] M0 → E "InvalidClash" [("value", d)] M0 := fun e M0 z => by
        rw [← I, scanC_hit ek e] at h
        cases h
        exact z
      cases d with
      | tup xs =>
        walk_at "m"
        by_cases l : xs.length = 2
        · obtain ⟨x, y, rfl⟩ : ∃ x y, xs = [x, y] := by
            match xs, l with
            | [x, y], _ => exact ⟨x, y, rfl⟩
          obtain ⟨px, py⟩ := pd_two hd.1
          walk_at "m"
          refine forL_step fun C2 hC2 => ?_
          walk_at "m"
          rw [lookE_pl px.1]
          refine ⟨pdS _, px, ite2 (fun cx => ?_) (fun cx => hC2 _ _ trivial (forL_step fun C3 hC3 => ?_))⟩
          · have e : badItem ms (.tup [x, y]) = some (true, x) := by
              rw [badItem_two, if_neg (by rw [cx]; simp)]
            rw [← I, scanC_hit ek e] at h
            cases h
            exact leaveX_same q
          · have cx : anyEq x (ms.map Da.str) = true := by simpa using cx
            walk_at "m"
            rw [lookE_pl py.1]
            refine ⟨pdS _, py, ite2 (fun cy => ?_) (fun cy => hC3 _ _ trivial (forL_end ?_))⟩
            · have e : badItem ms (.tup [x, y]) = some (true, y) := by
                rw [badItem_two, if_pos cx, if_neg (by rw [cy]; simp)]
              rw [← I, scanC_hit ek e] at h
              cases h
              exact leaveX_same q
            · have cy : anyEq y (ms.map Da.str) = true := by simpa using cy
              have e : badItem ms (.tup [x, y]) = none := by
                rw [badItem_two, if_pos cx, if_pos cy]
              exact hC _ _ _ _ .same trivial ⟨rfl, (scanC_next ek e).trans I, _, _, rfl⟩
        · have e : badItem ms (.tup xs) = some (false, .tup xs) := by
            unfold badItem
            split
            · rename_i e
              cases e
              exact absurd rfl l
            · rfl
          have q := notT e _ q
          refine ite2 (fun _ => leaveX_same q) (fun z => ?_)
          exfalso
          refine l ?_
          have := z
          omega
      | non => have q := notT rfl _ q; walk_at "m"; exact leaveX_same q
      | bl b => have q := notT rfl _ q; walk_at "m"; exact leaveX_same q
      | int b => have q := notT rfl _ q; walk_at "m"; exact leaveX_same q
      | str b => have q := notT rfl _ q; walk_at "m"; exact leaveX_same q
      | lst b => have q := notT rfl _ q; walk_at "m"; exact leaveX_same q
      | dct b => have q := notT rfl _ q; walk_at "m"; exact leaveX_same q
      | _ => cases hd.1.1
    · rintro _ _ ⟨rfl, I, s1, s2, rfl⟩
      rw [List.drop_length] at I
      rw [← I] at h
      cases h
  | non => cases h; walk_at "m"; exact leaveX_same q
  | bl b => cases h; walk_at "m"; exact leaveX_same q
  | int b => cases h; walk_at "m"; exact leaveX_same q
  | str b => cases h; walk_at "m"; exact leaveX_same q
  | tup b => cases h; walk_at "m"; exact leaveX_same q
  | dct b => cases h; walk_at "m"; exact leaveX_same q
  | _ => cases hP
theorem init_bad1 {W P : Da} {M : Mem} {Q : TK} {E : XD} {c f : Str} {v : Da} (hW : hdW W) (h : dueM W = some (c, f, v)) (q : E c [(f, v)] (M ++ [.obj "Strengths" []])) : f_Strengths_init [.cell M.length, W, P] (M ++ [.obj "Strengths" []]) Q E := by
  unfold f_Strengths_init m_Strengths_init
  walk_at "m0"
  walk_at "m"
  exact need_modes_bad hW h (leaveX_same q)
theorem init_bad2 {ms : List Str} {P : Da} {M : Mem} {Q : TK} {E : XD} {c f : Str} {v : Da} (hm : Mo ms) (hP : hdW P) (h : dueC ms P = some (c, f, v)) (q : E c [(f, v)] (M ++ [.obj "Strengths" []])) : f_Strengths_init [.cell M.length, .lst (ms.map Da.str), P] (M ++ [.obj "Strengths" []]) Q E := by
  unfold f_Strengths_init m_Strengths_init
  walk_at "m0"
  walk_at "m"
  refine need_modes_ok (Lk.tree _ _) hm ?_
  unfold b_Strengths_init_1
  walk_at "m"
  exact need_clashes_bad hP h (leaveX_same q)
end Z

namespace Z
open PySem PySem.Spec PyProof.Rows L2 Evl
section
variable {ms : List Str} {ps ps' : List (Str × Str)} {M : Mem} {Q : TK} {E : XD} {a o : Str}
theorem agB_comm : agB ps a o = agB ps o a := by
  unfold agB
  rw [Bool.or_comm]
/-- the same clashes -/
def sameB (ms : List Str) (ps ps' : List (Str × Str)) : Prop := ∀ a ∈ ms, ∀ o ∈ ms, agB ps a o = agB ps' a o
theorem agL_iff : agL ms ps a = agL ms ps' a ↔ ∀ o ∈ ms, agB ps a o = agB ps' a o := by
  unfold agL
  constructor
  · intro h o ho
    have e1 : o ∈ ms.filter (agB ps a) ↔ o ∈ ms.filter (agB ps' a) := by rw [h]
    rw [List.mem_filter, List.mem_filter] at e1
    have e2 : agB ps a o = true ↔ agB ps' a o = true := ⟨fun z => (e1.1 ⟨ho, z⟩).2, fun z => (e1.2 ⟨ho, z⟩).2⟩
    exact Bool.eq_iff_iff.2 e2
  · intro h
    exact List.filter_congr h
theorem eqKD_ag : eqKD (agD ms ps) (agD ms ps') = ms.all fun a => decide (agL ms ps a = agL ms ps' a) := by
  have go : ∀ l : List Str, (∀ z ∈ l, z ∈ ms) → ((l.map fun n => ((Sum.inr n : Key), Da.tup ((agL ms ps n).map Da.str))).all fun p => match valD (agD ms ps') p.1 with | some e => eqD p.2 e | none => false) = l.all fun a => decide (agL ms ps a = agL ms ps' a) := by
    intro l
    induction l with
    | nil => intro _; rfl
    | cons z l ih =>
      intro h
      rw [List.map_cons, List.all_cons, List.all_cons, ih fun x hx => h x (List.mem_cons_of_mem _ hx), ag_val (h z (List.mem_cons_self ..))]
      congr 1
      exact eqL_strsD _ _
  unfold eqKD
  have e : (agD ms ps).length = (agD ms ps').length := by
    unfold agD
    rw [List.length_map, List.length_map]
  rw [decide_eq_true e, Bool.true_and]
  exact go ms fun _ h => h
theorem eq_iff : (decide (ms = ms) && eqKD (agD ms ps) (agD ms ps')) = true ↔ sameB ms ps ps' := by
  rw [decide_eq_true rfl, Bool.true_and, eqKD_ag, List.all_eq_true]
  exact forall_congr' fun a => forall_congr' fun _ => by rw [decide_eq_true_eq]; exact agL_iff
theorem clL_ag {p : Str × Str} (h : p ∈ clL ms ps) : agB ps p.1 p.2 = true := by
  unfold clL at h
  obtain ⟨k, _, h⟩ := List.mem_flatMap.1 h
  split at h
  · obtain ⟨o, ho, rfl⟩ := List.mem_map.1 h
    have := of_decide_eq_true (List.mem_filter.1 ho).2
    exact (List.mem_filter.1 this).2
  · cases h
theorem ag_clL {i j : Nat} (l : i ≤ j) (hi : ms[i]? = some a) (hj : ms[j]? = some o) (h : agB ps a o = true) : (a, o) ∈ clL ms ps := by
  unfold clL
  refine List.mem_flatMap.2 ⟨i, List.mem_range.2 (List.getElem?_eq_some_iff.1 hi).1, ?_⟩
  simp only [hi]
  refine List.mem_map.2 ⟨o, List.mem_filter.2 ⟨?_, ?_⟩, rfl⟩
  · refine List.mem_of_getElem? (i := j - i) ?_
    rw [List.getElem?_drop, show i + (j - i) = j by omega, hj]
  · refine decide_eq_true (List.mem_filter.2 ⟨List.mem_of_getElem? hj, h⟩)
theorem clL_iff : clL ms ps = clL ms ps' ↔ sameB ms ps ps' := by
  constructor
  · intro h a ha o ho
    obtain ⟨i, hi⟩ := List.getElem?_of_mem ha
    obtain ⟨j, hj⟩ := List.getElem?_of_mem ho
    have one : ∀ {p q : List (Str × Str)}, clL ms p = clL ms q → agB p a o = true → agB q a o = true := by
      intro p q e z
      rcases Nat.le_total i j with l | l
      · exact clL_ag (p := (a, o)) (e ▸ ag_clL l hi hj z)
      · rw [agB_comm] at z
        rw [agB_comm]
        exact clL_ag (p := (o, a)) (e ▸ ag_clL l hj hi z)
    exact Bool.eq_iff_iff.2 ⟨one h, one h.symm⟩
  · intro h
    unfold clL
    rw [List.flatMap_def, List.flatMap_def]
    congr 1
    refine List.map_congr_left fun k hk => ?_
    split
    · rename_i z hz
      rw [agL_iff.2 (h z (List.mem_of_getElem? hz))]
    · rfl
theorem leave_str {z : Str} {S : Mem} (cM : cloL M.length M = true) (q : Q (.str z) M) : leave M.length Q (.str z) (M ++ S) :=
  ⟨_, M, .inr ⟨by simp, by simp, cM, frz_clo rfl⟩, q⟩
theorem clL_mem {p : Str × Str} (h : p ∈ clL ms ps) : p.1 ∈ ms ∧ p.2 ∈ ms := by
  unfold clL at h
  obtain ⟨k, _, h⟩ := List.mem_flatMap.1 h
  split at h
  · rename_i z hz
    obtain ⟨o, ho, rfl⟩ := List.mem_map.1 h
    exact ⟨List.mem_of_getElem? hz, List.mem_of_mem_drop (List.mem_filter.1 ho).1⟩
  · cases h
theorem clL_len (h8 : ms.length ≤ 8) : (clL ms ps).length ≤ 64 := by
  have h : (clL ms ps).length ≤ 8 * ms.length := clK_len (ps := ps) h8 ms.length
  omega
theorem join_le (sep : Str) : ∀ ys : List Str, (Str.join sep ys).length ≤ (ys.map (·.length)).sum + ys.length * sep.length
  | [] => Nat.zero_le _
  | [x] => by
    show x.length ≤ _
    simp
  | x :: y :: r => by
    have ih := join_le sep (y :: r)
    show (x ++ sep ++ Str.join sep (y :: r)).length ≤ _
    rw [PySem.Str.length_append, PySem.Str.length_append, List.map_cons, List.sum_cons, List.length_cons, Nat.add_mul]
    omega
theorem tjoin_le (sep : Str) (ys : List Str) : (Txt.join sep ys).length ≤ (ys.map (·.length)).sum + ys.length * sep.length := by
  show (Builtin.Str.glued sep ys).length ≤ _
  rw [StrLaws.glued_eq_join]
  exact join_le sep ys
theorem sum_le {B : Nat} : ∀ {ys : List Str}, (∀ y ∈ ys, y.length ≤ B) → (ys.map (·.length)).sum ≤ ys.length * B
  | [], _ => Nat.zero_le _
  | y :: r, h => by
    have h1 := h y (List.mem_cons_self ..)
    have h2 := sum_le fun z hz => h z (List.mem_cons_of_mem _ hz)
    rw [List.map_cons, List.sum_cons, List.length_cons, Nat.add_mul]
    omega
/-- the text of a pair -/
def prT (p : Str × Str) : Str := p.1 ++ "!" ++ p.2
theorem filt_all {α : Type} (xs : List α) : xs.filter (fun _ => true) = xs := List.filter_eq_self.mpr fun _ _ => rfl
theorem empty_tl (x : Str) : Str.empty ++ x = x := TL.ext_tl (by rw [TL.tl_append]; rfl)
/-- the text of the pairs, the text of the strengths -/
def ptS (ms : List Str) (ps : List (Str × Str)) : Str := Txt.join (" " : Str) ((clL ms ps).map prT)
def stS (ms : List Str) (ps : List (Str × Str)) : Str := if ptS ms ps = ("" : Str) then Txt.join (" " : Str) ms else Txt.join (" " : Str) ms ++ (": " : Str) ++ ptS ms ps
theorem prT_len {p : Str × Str} (mo : Mo ms) (h : p ∈ clL ms ps) : p.1.length ≤ 8 ∧ p.2.length ≤ 8 := ⟨nms_len (mo.nm _ (clL_mem h).1), nms_len (mo.nm _ (clL_mem h).2)⟩
theorem ptS_len (mo : Mo ms) : (ptS ms ps).length ≤ 1400 ∧ (((clL ms ps).map prT).map (·.length)).sum ≤ 1200 ∧ (clL ms ps).length ≤ 64 := by
  have l64 := clL_len (ps := ps) mo.n8
  have l1 : ("!" : Str).length = 1 := by decide
  have l2 : (" " : Str).length = 1 := by decide
  have hB : ∀ y ∈ (clL ms ps).map prT, y.length ≤ 17 := fun y hy => by
    obtain ⟨p, hp, rfl⟩ := List.mem_map.1 hy
    obtain ⟨h1, h2⟩ := prT_len mo hp
    simp only [prT, PySem.Str.length_append, l1]
    omega
  have hs := sum_le hB
  have hj := tjoin_le (" " : Str) ((clL ms ps).map prT)
  rw [List.length_map] at hs hj
  rw [l2] at hj
  have : (ptS ms ps).length ≤ _ := hj
  exact ⟨by omega, by omega, l64⟩
theorem wt_len (mo : Mo ms) : (Txt.join (" " : Str) ms).length ≤ 80 ∧ (ms.map (·.length)).sum ≤ 64 := by
  have h8 := mo.n8
  have l2 : (" " : Str).length = 1 := by decide
  have hC : ∀ y ∈ ms, y.length ≤ 8 := fun y hy => nms_len (mo.nm y hy)
  have hs2 := sum_le hC
  have hj2 := tjoin_le (" " : Str) ms
  rw [l2] at hj2
  exact ⟨by omega, by omega⟩
theorem stS_len (mo : Mo ms) : (stS ms ps).length ≤ 1500 := by
  have h1 := (ptS_len (ps := ps) mo).1
  have h2 := (wt_len mo).1
  have l3 : (": " : Str).length = 2 := by decide
  unfold stS
  split
  · omega
  · simp only [PySem.Str.length_append, l3]
    omega
theorem str_ok (mo : Mo ms) (q : Q (.str (stS ms ps)) M) : f_Strengths_str [stgO ms ps] M Q E := by
  unfold f_Strengths_str m_Strengths_str
  walk_at "m1"
  intro cM _
  unfold stgO
  refine seq_hide fun N hN => ?_
  walk_at "m"
  refine clashes_ok (ms := ms) (ps := ps) mo.n8 ?_
  walk_at "m"
  obtain ⟨l1, l2, l64⟩ := ptS_len (ps := ps) mo
  have le8 : ∀ p ∈ clL ms ps, p.1.length ≤ 8 ∧ p.2.length ≤ 8 := fun p hp => prT_len mo hp
  have n1 : ("!" : Str).length = 1 := by decide
  have n2 : (" " : Str).length = 1 := by decide
  have n3 : (": " : Str).length = 2 := by decide
  refine ⟨by rw [List.length_map]; omega, ?_⟩
  refine lcP (clL ms ps) (fun _ => true) (fun p => .str (prT p)) (fun p hp R r => r) (fun p hp _ R r => ?_) ?_ ?_
  · obtain ⟨h1, h2⟩ := le8 p hp
    walk_at "m"
    rw [empty_tl]
    refine ⟨?_, ?_, ?_, r⟩ <;> (rw [sizeLine_eq]; (try simp only [PySem.Str.length_append, n1]); omega)
  · simp
  rw [filt_all]
  have e : (clL ms ps).map (fun p => Da.str (prT p)) = ((clL ms ps).map prT).map Da.str := by rw [List.map_map]; rfl
  rw [e]
  walk_at "m"
  rw [Option.bind_some, strsD_map]
  have e2 : Txt.join (" " : Str) ((clL ms ps).map prT) = ptS ms ps := rfl
  dsimp only
  rw [e2]
  refine ⟨by rw [List.length_map, n2]; omega, by rw [sizeLine_eq]; omega, hN _ _ ?_⟩
  clear hN
  unfold b_Strengths_str_1
  walk_at "m"
  have h8 := mo.n8
  obtain ⟨w1, w2⟩ := wt_len mo
  rw [Option.bind_some, strsD_map]
  refine ⟨by rw [n2]; omega, by rw [sizeLine_eq]; omega, ?_⟩
  unfold b_Strengths_str_2
  walk_at "m"
  rw [empty_tl]
  refine ite2 (fun c => ?_) (fun c => ?_)
  · have z : stS ms ps = Txt.join (" " : Str) ms ++ (": " : Str) ++ ptS ms ps := if_neg (by simpa using c)
    rw [z] at q
    refine ⟨?_, ?_, ?_, leave_str cM q⟩ <;> (rw [sizeLine_eq]; (try simp only [PySem.Str.length_append, n3]); omega)
  · have z : stS ms ps = Txt.join (" " : Str) ms := if_pos (by simpa using c)
    rw [z] at q
    exact leave_str cM q
theorem law_text_ok (mo : Mo ms) (q : Q (.str (stS ms ps)) M) : f_law_text [modelD ms ps] M Q E := by
  unfold f_law_text m_law_text
  walk_at "m0"
  refine seq_hide fun N hN => ?_
  walk_at "m"
  refine law_pairs_ok mo.n8 ?_
  walk_at "m"
  obtain ⟨l1, l2, l64⟩ := ptS_len (ps := ps) mo
  have le8 : ∀ p ∈ clL ms ps, p.1.length ≤ 8 ∧ p.2.length ≤ 8 := fun p hp => prT_len mo hp
  have n1 : ("!" : Str).length = 1 := by decide
  have n2 : (" " : Str).length = 1 := by decide
  have n3 : (": " : Str).length = 2 := by decide
  refine ⟨by rw [List.length_map]; omega, ?_⟩
  refine lcP (clL ms ps) (fun _ => true) (fun p => .str (prT p)) (fun p hp R r => r) (fun p hp _ R r => ?_) ?_ ?_
  · obtain ⟨h1, h2⟩ := le8 p hp
    walk_at "m"
    refine ⟨?_, ?_, r⟩ <;> (simp only [PySem.Str.length_append, n1]; rw [sizeLine_eq]; omega)
  · simp
  rw [filt_all]
  have e : (clL ms ps).map (fun p => Da.str (prT p)) = ((clL ms ps).map prT).map Da.str := by rw [List.map_map]; rfl
  rw [e]
  walk_at "m"
  rw [Option.bind_some, strsD_map]
  have e2 : Txt.join (" " : Str) ((clL ms ps).map prT) = ptS ms ps := rfl
  dsimp only
  rw [e2]
  refine ⟨by rw [List.length_map, n2]; omega, by rw [sizeLine_eq]; omega, hN _ _ ?_⟩
  clear hN
  unfold b_law_text_1 modelD
  walk_at "m"
  have h8 := mo.n8
  obtain ⟨w1, w2⟩ := wt_len mo
  rw [Option.bind_some, strsD_map]
  refine ⟨by rw [n2]; omega, by rw [sizeLine_eq]; omega, ?_⟩
  refine ite2 (fun c => ?_) (fun c => ?_)
  · have z : stS ms ps = Txt.join (" " : Str) ms ++ (": " : Str) ++ ptS ms ps := if_neg (by simpa using c)
    rw [z] at q
    have e : Txt.join (" " : Str) ms ++ ((": " : Str) ++ ptS ms ps) = Txt.join (" " : Str) ms ++ (": " : Str) ++ ptS ms ps := TL.ext_tl (by simp only [TL.tl_append, List.append_assoc])
    refine ⟨by rw [sizeLine_eq, n3]; omega, by rw [sizeLine_eq, PySem.Str.length_append, n3]; omega, ?_⟩
    rw [e]
    exact leave_same q
  · have z : stS ms ps = Txt.join (" " : Str) ms := if_pos (by simpa using c)
    rw [z] at q
    have n0 : ("" : Str).length = 0 := by decide
    have e : Txt.join (" " : Str) ms ++ ("" : Str) = Txt.join (" " : Str) ms := TL.ext_tl (by rw [TL.tl_append]; exact List.append_nil _)
    refine ⟨by rw [sizeLine_eq, n0]; omega, ?_⟩
    rw [e]
    exact leave_same q
end
end Z

/-! data with dicts: closed, plain, deep (LF) -/
namespace Z
open PySem PySem.Spec PyProof.Rows L2 Evl
mutual
theorem plE_clo (n : Nat) : ∀ {d : Da}, plE d = true → cloD n d = true
  | .non, _ => rfl
  | .bl _, _ => rfl
  | .int _, _ => rfl
  | .str _, _ => rfl
  | .tup ds, p => by unfold plE at p; unfold cloD; exact plEL_clo n p
  | .lst ds, p => by unfold plE at p; unfold cloD; exact plEL_clo n p
  | .dct ks, p => by
    unfold plE at p
    rw [Bool.and_eq_true] at p
    unfold cloD
    exact plEK_clo n p.1
  | .ty _, p => by cases p
  | .gl _, p => by cases p
  | .obj _ _, p => by cases p
  | .kl _, p => by cases p
  | .kt _, p => by cases p
  | .cell _, p => by cases p
  | .exv _ _ _ _, p => by cases p
theorem plEL_clo (n : Nat) : ∀ {ds : List Da}, plEL ds = true → cloL n ds = true
  | [], _ => rfl
  | d :: ds, p => by
    unfold plEL at p
    rw [Bool.and_eq_true] at p
    unfold cloL
    rw [plE_clo n p.1, plEL_clo n p.2]
    rfl
theorem plEK_clo (n : Nat) : ∀ {ds : List (Key × Da)}, plEK ds = true → cloK n ds = true
  | [], _ => rfl
  | (_, d) :: ds, p => by
    unfold plEK at p
    rw [Bool.and_eq_true] at p
    unfold cloK
    rw [plE_clo n p.1, plEK_clo n p.2]
    rfl
end
theorem plEL_of {ds : List Da} (h : ∀ d ∈ ds, plE d = true) : plEL ds = true := by
  induction ds with
  | nil => rfl
  | cons d r ih =>
    unfold plEL
    rw [h d (List.mem_cons_self ..), ih fun x hx => h x (List.mem_cons_of_mem _ hx)]
    rfl
theorem dpEL_le {ds : List Da} {n : Nat} (h : ∀ d ∈ ds, dpE d ≤ n) : dpEL ds ≤ n := by
  induction ds with
  | nil => exact Nat.zero_le _
  | cons d r ih =>
    unfold dpEL
    exact Nat.max_le.2 ⟨h d (List.mem_cons_self ..), ih fun x hx => h x (List.mem_cons_of_mem _ hx)⟩
theorem log_int {i : Int} (h0 : 0 ≤ i) (h1 : i < 9000) : i.natAbs.log2 < 9000 := by
  have e : i = ((i.toNat : Nat) : Int) := by omega
  rw [e]
  exact log_nat (by omega)
theorem mapO_of {g : Da → Option Da} : ∀ {ds es : List Da}, ds.length = es.length → (∀ (i : Nat) (d e : Da), ds[i]? = some d → es[i]? = some e → g d = some e) → mapO g ds = some es
  | [], [], _, _ => rfl
  | [], _ :: _, h, _ => by cases h
  | _ :: _, [], h, _ => by cases h
  | d :: ds, e :: es, h, k => by
    have h1 := k 0 d e rfl rfl
    have h2 := mapO_of (g := g) (ds := ds) (es := es) (by simpa using h) fun i d e h1 h2 => k (i + 1) d e (by simpa using h1) (by simpa using h2)
    unfold mapO
    rw [h1, h2]
theorem get_mid {α : Type} (R : List α) (x : α) (S : List α) : (R ++ x :: S)[R.length]? = some x := by simp
theorem set_mid {α : Type} (R : List α) (x y : α) (S : List α) : (R ++ x :: S).set R.length y = R ++ y :: S := by simp
theorem get_far {α : Type} (R S : List α) (x : α) (j : Nat) : (R ++ x :: S)[R.length + 1 + j]? = S[j]? := by
  rw [List.getElem?_append_right (by omega), show R.length + 1 + j - R.length = j + 1 by omega, List.getElem?_cons_succ]
theorem set_far {α : Type} (R S : List α) (x y : α) (j : Nat) : (R ++ x :: S).set (R.length + 1 + j) y = R ++ x :: S.set j y := by
  rw [List.set_append_right _ _ (by omega), show R.length + 1 + j - R.length = j + 1 by omega, List.set_cons_succ]
end Z

/-! k18: a text taken apart, and Strengths made of the parts -/
namespace Z
open PySem PySem.Spec PyProof.Rows L2 Evl
theorem hdI_str (z : Str) : hdI (.str z) := ⟨⟨rfl, by simp [dpD, dpL]⟩, rfl, by simp [dpE, dpEL]⟩
theorem hdS (ms : List Str) : ∀ d ∈ ms.map Da.str, hdI d := fun d h => by
  obtain ⟨z, _, rfl⟩ := List.mem_map.1 h
  exact hdI_str z
/-- a tuple of texts -/
def tupS (l : List Str) : Da := .tup (l.map Da.str)
theorem hdI_tup (l : List Str) : hdI (tupS l) := by
  refine ⟨⟨?_, ?_⟩, ?_, ?_⟩
  · unfold tupS plD
    exact plL_strs l
  · unfold tupS dpD
    rw [dpL_map fun _ => rfl]
    omega
  · unfold tupS plE
    exact plEL_of fun d hd => (hdS l d hd).2.1
  · have := dpEL_le (n := 0) (ds := l.map Da.str) fun d hd => by
      obtain ⟨z, _, rfl⟩ := List.mem_map.1 hd
      exact Nat.le_refl _
    unfold tupS dpE
    omega
theorem hdT (ls : List (List Str)) : ∀ d ∈ ls.map tupS, hdI d := fun d h => by
  obtain ⟨z, _, rfl⟩ := List.mem_map.1 h
  exact hdI_tup z
structure hdV (d : Da) : Prop where
  w : hdW d
  p : plE d = true
  d : dpE d ≤ 30
theorem hvL {ds : List Da} (l : ds.length ≤ 5000) (h : ∀ d ∈ ds, hdI d) : hdV (.lst ds) := ⟨⟨l, h⟩, by unfold plE; exact plEL_of fun d hd => (h d hd).2.1, by
  have := dpEL_le fun d hd => (h d hd).2.2
  unfold dpE
  omega⟩
theorem dueM_val {W : Da} {c f : Str} {v : Da} (hW : hdV W) (h : dueM W = some (c, f, v)) : plE v = true ∧ dpE v ≤ 30 := by
  cases W with
  | lst ws =>
    have h : dueN ws = some (c, f, v) := h
    unfold dueN at h
    have mem : ∀ {l s : List Da} {p : Bool × Da}, scanN s l = some p → p.2 ∈ l := by
      intro l
      induction l with
      | nil => intro s p h; cases h
      | cons x l ih =>
        intro s p h
        unfold scanN at h
        split at h
        · split at h
          · cases h; exact List.mem_cons_self ..
          · exact List.mem_cons_of_mem _ (ih h)
        · cases h; exact List.mem_cons_self ..
    split at h
    · rename_i x e
      cases h
      have := hW.w.2 v (mem e)
      exact ⟨this.2.1, by have := this.2.2; omega⟩
    · rename_i x e
      cases h
      have := hW.w.2 v (mem e)
      exact ⟨this.2.1, by have := this.2.2; omega⟩
    · split at h
      · cases h
      · cases h
        exact ⟨hW.p, hW.d⟩
  | _ => cases h; exact ⟨hW.p, hW.d⟩
theorem dueC_val {ms : List Str} {P : Da} {c f : Str} {v : Da} (hP : hdV P) (h : dueC ms P = some (c, f, v)) : plE v = true ∧ dpE v ≤ 30 := by
  cases P with
  | lst qs =>
    have h : dueQ ms qs = some (c, f, v) := h
    unfold dueQ at h
    have it : ∀ {d : Da} {p : Bool × Da}, hdI d → badItem ms d = some p → plE p.2 = true ∧ dpE p.2 ≤ 30 := by
      intro d p hd h
      have h0 := hd.2.2
      unfold badItem at h
      split at h
      · rename_i x y
        have e1 := hd.2.1
        have e2 := hd.2.2
        unfold plE plEL plEL plEL at e1
        unfold dpE dpEL dpEL dpEL at e2
        simp only [Bool.and_true, Bool.and_eq_true] at e1
        split at h
        · split at h
          · cases h
          · cases h; exact ⟨e1.2, by show dpE y ≤ 30; omega⟩
        · cases h; exact ⟨e1.1, by show dpE x ≤ 30; omega⟩
      · cases h; exact ⟨hd.2.1, by show dpE d ≤ 30; omega⟩
    have all : ∀ {l : List Da} {p : Bool × Da}, (∀ d ∈ l, hdI d) → scanC ms l = some p → plE p.2 = true ∧ dpE p.2 ≤ 30 := by
      intro l
      induction l with
      | nil => intro p _ h; cases h
      | cons x l ih =>
        intro p hl h
        unfold scanC at h
        split at h
        · exact ih (fun d hd => hl d (List.mem_cons_of_mem _ hd)) h
        · rename_i q e
          cases h
          exact it (hl x (List.mem_cons_self ..)) e
    split at h
    · rename_i x e
      cases h
      exact all hP.w.2 e
    · rename_i x e
      cases h
      exact all hP.w.2 e
    · cases h
  | _ => cases h; exact ⟨hP.p, hP.d⟩
section
variable {W P : Da} {ms : List Str} {c f : Str} {v : Da}
theorem dueM_cls (h : dueM W = some (c, f, v)) : (c, f) ∈ ([("InvalidModes", "value"), ("InvalidName", "value"), ("Duplicate", "name"), ("InvalidStrengths", "value"), ("InvalidClash", "value"), ("UnknownMode", "name")] : List (Str × Str)) := by
  cases W with
  | lst ws =>
    have h : dueN ws = some (c, f, v) := h
    unfold dueN at h
    split at h
    · cases h; simp
    · cases h; simp
    · split at h
      · cases h
      · cases h; simp
  | _ => cases h; simp
theorem dueC_cls (h : dueC ms P = some (c, f, v)) : (c, f) ∈ ([("InvalidModes", "value"), ("InvalidName", "value"), ("Duplicate", "name"), ("InvalidStrengths", "value"), ("InvalidClash", "value"), ("UnknownMode", "name")] : List (Str × Str)) := by
  cases P with
  | lst ws =>
    have h : dueQ ms ws = some (c, f, v) := h
    unfold dueQ at h
    split at h
    · cases h; simp
    · cases h; simp
    · cases h
  | _ => cases h; simp
end
/-! texts taken apart -/
theorem split_len {S : List Nat} : ∀ (w acc : List Nat) (k : Nat), ∀ p ∈ TL.spl S k acc w, p.length ≤ acc.length + w.length := by
  intro w
  induction w with
  | nil => intro acc k p hp; rw [TL.spl_nil, List.mem_singleton] at hp; rw [hp]; simp
  | cons c r ih =>
    intro acc k p hp
    cases k with
    | zero =>
      have hp : p ∈ (if TL.pre S (c :: r) = true then acc :: TL.spl S (S.length - 1) [] r else TL.spl S 0 (acc ++ [c]) r) := hp
      split at hp
      · rcases List.mem_cons.1 hp with rfl | hp
        · omega
        · have := ih [] _ p hp
          simp at this ⊢
          omega
      · have := ih _ _ p hp
        simp at this ⊢
        omega
    | succ k =>
      have := ih acc k p hp
      rw [List.length_cons]
      omega
theorem spl_count {S : List Nat} : ∀ (w acc : List Nat) (k : Nat), (TL.spl S k acc w).length ≤ w.length + 1 := by
  intro w
  induction w with
  | nil => intro acc k; rw [TL.spl_nil]; simp
  | cons c r ih =>
    intro acc k
    cases k with
    | zero =>
      show (if _ then _ else _ : List (List Nat)).length ≤ _
      split
      · have := ih [] (S.length - 1)
        rw [List.length_cons, List.length_cons]
        omega
      · have := ih (acc ++ [c]) 0
        rw [List.length_cons]
        omega
    | succ k =>
      have := ih acc k
      rw [List.length_cons]
      show (TL.spl S k acc r).length ≤ _
      omega
theorem spl_ne {S : List Nat} : ∀ (w acc : List Nat) (k : Nat), TL.spl S k acc w ≠ [] := by
  intro w
  induction w with
  | nil => intro acc k; rw [TL.spl_nil]; simp
  | cons c r ih =>
    intro acc k
    cases k with
    | zero =>
      show (if _ then _ else _ : List (List Nat)) ≠ _
      split
      · simp
      · exact ih _ 0
    | succ k => exact ih acc k
structure Sep (S : Str) : Prop where
  ne : TL.tl S ≠ []
  k : S.cps.all (· < 256) = true
theorem sepC : Sep ": " := ⟨by decide +kernel, by decide +kernel⟩
theorem sepB : Sep " " := ⟨by decide +kernel, by decide +kernel⟩
theorem sepX : Sep "!" := ⟨by decide +kernel, by decide +kernel⟩
theorem split_bd {S : Str} (h : Sep S) (z : Str) : (Txt.split z S).length ≤ z.length + 1 ∧ (∀ y ∈ Txt.split z S, y.length ≤ z.length) ∧ Txt.split z S ≠ [] := by
  have e := TL.split_spl z S h.ne (TL.kind_ok h.k)
  refine ⟨?_, fun y hy => ?_, fun q => ?_⟩
  · have := congrArg List.length e
    rw [List.length_map] at this
    rw [this, TL.len_tl]
    exact spl_count _ _ _
  · have : TL.tl y ∈ TL.spl (TL.tl S) 0 [] (TL.tl z) := by rw [← e]; exact List.mem_map_of_mem hy
    have := split_len _ _ _ _ this
    rw [TL.len_tl, TL.len_tl]
    simpa using this
  · rw [q] at e
    exact spl_ne _ _ _ e.symm
def wrd (z : Str) : List Str := Txt.split z " "
def prs (z : Str) : List (List Str) := (wrd z).map fun w => Txt.split w "!"
def moB (ws : List Str) : Bool := ws.all nmS && decide ws.Nodup && decide (1 ≤ ws.length) && decide (ws.length ≤ 8)
theorem moB_iff {ws : List Str} : moB ws = true ↔ Mo ws := by
  unfold moB
  simp only [Bool.and_eq_true, List.all_eq_true, decide_eq_true_eq]
  exact ⟨fun h => ⟨h.1.2, h.2, h.1.1.2, h.1.1.1⟩, fun h => ⟨⟨⟨h.nm, h.nd⟩, h.n1⟩, h.n8⟩⟩
def rdP (ms : List Str) : List (List Str) → Option (List (Str × Str))
  | [] => some []
  | [x, y] :: r => if x ∈ ms ∧ y ∈ ms then (rdP ms r).map ((x, y) :: ·) else none
  | _ :: _ => none
/-- the modes and the clashes that a text tells -/
def rdM (z : Str) : Option (List Str × List (Str × Str)) := match Txt.split z ": " with
  | [h] => if moB (wrd h) = true then some (wrd h, []) else none
  | [h, t] => if moB (wrd h) = true then (rdP (wrd h) (prs t)).map fun ps => (wrd h, ps) else none
  | _ => none
/-- the modes and the clashes whose text it is -/
def rdT (z : Str) : Option (List Str × List (Str × Str)) := match rdM z with
  | some (ms, ps) => if stS ms ps = z then some (ms, ps) else none
  | none => none
theorem strs_inj {ws ms : List Str} (h : ws.map Da.str = ms.map Da.str) : ws = ms := by
  induction ws generalizing ms with
  | nil =>
    cases ms with
    | nil => rfl
    | cons _ _ => cases h
  | cons w ws ih =>
    cases ms with
    | nil => cases h
    | cons m ms =>
      rw [List.map_cons, List.map_cons] at h
      injection h with h1 h2
      injection h1 with h1
      rw [h1, ih h2]
theorem rdP_some {ms : List Str} : ∀ {qs : List (List Str)} {ps : List (Str × Str)}, rdP ms qs = some ps → qs.map tupS = ps.map prD ∧ Pr ms ps ∧ ps.length = qs.length := by
  intro qs
  induction qs with
  | nil => intro ps h; cases h; exact ⟨rfl, (fun p hp => by cases hp), rfl⟩
  | cons q qs ih =>
    intro ps h
    match q, h with
    | [x, y], h =>
      have h : (if x ∈ ms ∧ y ∈ ms then (rdP ms qs).map ((x, y) :: ·) else none) = some ps := h
      split at h
      · rename_i hm
        cases e : rdP ms qs with
        | none => rw [e] at h; cases h
        | some r =>
          rw [e] at h
          cases h
          obtain ⟨h1, h2, h3⟩ := ih e
          refine ⟨?_, fun p hp => ?_, ?_⟩
          · rw [List.map_cons, List.map_cons, h1]
            rfl
          · rcases List.mem_cons.1 hp with rfl | hp
            · exact hm
            · exact h2 p hp
          · rw [List.length_cons, List.length_cons, h3]
      · cases h
    | [], h => cases h
    | [_], h => cases h
    | _ :: _ :: _ :: _, h => cases h
theorem rdP_of {ms : List Str} : ∀ {qs : List (List Str)} {ps : List (Str × Str)}, qs.map tupS = ps.map prD → Pr ms ps → rdP ms qs = some ps := by
  intro qs
  induction qs with
  | nil =>
    intro ps h _
    cases ps with
    | nil => rfl
    | cons _ _ => cases h
  | cons q qs ih =>
    intro ps h hp
    cases ps with
    | nil => cases h
    | cons p ps =>
      rw [List.map_cons, List.map_cons] at h
      injection h with h1 h2
      have e : q = [p.1, p.2] := strs_inj (by injection h1)
      subst e
      have := ih h2 fun x hx => hp x (List.mem_cons_of_mem _ hx)
      show (if p.1 ∈ ms ∧ p.2 ∈ ms then (rdP ms qs).map ((p.1, p.2) :: ·) else none) = some (p :: ps)
      rw [if_pos (hp p (List.mem_cons_self ..)), this]
      rfl
section
variable {M : Mem} {Q : TK} {E : XD} {ms : List Str} {ps : List (Str × Str)} {z h t : Str} {qs : List (List Str)} {s2 s4 : Option Da}
def okE (E : XD) (M : Mem) : Prop := ∀ c f v, (c, f) ∈ ([("InvalidModes", "value"), ("InvalidName", "value"), ("Duplicate", "name"), ("InvalidStrengths", "value"), ("InvalidClash", "value"), ("UnknownMode", "name")] : List (Str × Str)) → plE v = true → E c [(f, v)] M
theorem b3_ok (cM : cloL M.length M = true) (lh : h.length ≤ 4000) (lq : qs.length ≤ 5000) (h1 : moB (wrd h) = true) (h2 : rdP (wrd h) qs = some ps) (q : Q (stgO (wrd h) ps) M) :
    b_read_modes_3 (fun c fs _ M' => leaveX M.length E c fs M') { nx := fun _ M' => leave M.length Q .non M', rt := leave M.length Q } [some (.str z), some (.str h), s2, some (.lst (qs.map tupS)), s4] M := by
  obtain ⟨c1, c2, c3⟩ := split_bd sepB h
  obtain ⟨e1, e2, e3⟩ := rdP_some h2
  unfold b_read_modes_3
  walk_at "m"
  refine ⟨by decide, by rw [sizeLine_eq]; omega, fun y hy => by have := c2 y hy; rw [sizeLine_eq]; omega, ?_⟩
  rw [e1]
  exact mkS_ok cM (moB_iff.1 h1) e2 (by omega) (leave_same q)
theorem b3_no (cM : cloL M.length M = true) (lh : h.length ≤ 4000) (lq : qs.length ≤ 5000) (h1 : moB (wrd h) = true → rdP (wrd h) qs = none) (q : okE E M) :
    b_read_modes_3 (fun c fs _ M' => leaveX M.length E c fs M') { nx := fun _ M' => leave M.length Q .non M', rt := leave M.length Q } [some (.str z), some (.str h), s2, some (.lst (qs.map tupS)), s4] M := by
  obtain ⟨c1, c2, c3⟩ := split_bd sepB h
  unfold b_read_modes_3
  walk_at "m"
  refine ⟨by decide, by rw [sizeLine_eq]; omega, fun y hy => by have := c2 y hy; rw [sizeLine_eq]; omega, ?_⟩
  have v1 : hdV (.lst ((wrd h).map Da.str)) := hvL (by rw [List.length_map]; unfold wrd; omega) (hdS _)
  have v2 : hdV (.lst (qs.map tupS)) := hvL (by rw [List.length_map]; omega) (hdT _)
  unfold mMakeE
  cases e : dueM (.lst ((wrd h).map Da.str)) with
  | some t =>
    obtain ⟨c, f, v⟩ := t
    have hv := dueM_val v1 e
    refine init_bad1 v1.w e ⟨M, .inr ⟨by simp, by simp, cM, ?_⟩, M, .inl rfl, q _ _ _ (dueM_cls e) hv.1⟩
    unfold cloF cloF
    rw [plE_clo _ hv.1]
    rfl
  | none =>
    obtain ⟨ms, em, mo⟩ := dueM_none e
    injection em with em
    have em := strs_inj em
    have h2 := h1 (by rw [em]; exact moB_iff.2 mo)
    cases e2 : dueC (wrd h) (.lst (qs.map tupS)) with
    | some t =>
      obtain ⟨c, f, v⟩ := t
      have hv := dueC_val v2 e2
      refine init_bad2 (ms := wrd h) (by rw [em]; exact mo) v2.w e2 ⟨M, .inr ⟨by simp, by simp, cM, ?_⟩, M, .inl rfl, q _ _ _ (dueC_cls e2) hv.1⟩
      unfold cloF cloF
      rw [plE_clo _ hv.1]
      rfl
    | none =>
      obtain ⟨ps, ep, pr⟩ := dueC_none e2
      injection ep with ep
      rw [rdP_of ep pr] at h2
      cases h2
/-- both roads -/
theorem read_modes_go (lz : z.length ≤ 4000) (q1 : ∀ ms ps, rdM z = some (ms, ps) → Q (stgO ms ps) M) (q2 : rdM z = none → Q .non M) (q3 : rdM z = none → okE E M) : f_read_modes [.str z] M Q E := by
  unfold f_read_modes m_read_modes
  walk_at "m1"
  intro cM _
  refine seq_hide fun N hN => ?_
  obtain ⟨c1, c2, c3⟩ := split_bd sepC z
  unfold rdM at q1 q2 q3
  walk_at "m"
  refine ⟨by decide, by rw [sizeLine_eq]; omega, fun y hy => by have := c2 y hy; rw [sizeLine_eq]; omega, ?_⟩
  generalize Txt.split z ": " = hs at *
  match hs, c1, c2, c3 with
  | [h], c1, c2, c3 =>
    have lh := c2 h (by simp)
    walk_at "m"
    refine ⟨rfl, hN _ _ ?_⟩
    clear hN
    unfold b_read_modes_1
    walk_at "m"
    unfold b_read_modes_2
    walk_at "m"
    have q1 : ∀ ms ps, (if moB (wrd h) = true then some (wrd h, []) else none) = some (ms, ps) → Q (stgO ms ps) M := q1
    have q3 : (if moB (wrd h) = true then some (wrd h, ([] : List (Str × Str))) else none) = none → okE E M := q3
    cases e : moB (wrd h) with
    | true =>
      rw [if_pos e] at q1
      exact b3_ok (qs := []) cM (by omega) (by simp) e rfl (q1 _ _ rfl)
    | false =>
      rw [if_neg (by rw [e]; simp)] at q3
      exact b3_no (qs := []) cM (by omega) (by simp) (fun x => by rw [e] at x; cases x) (q3 rfl)
  | [h, t], c1, c2, c3 =>
    have lh := c2 h (by simp)
    have lt := c2 t (by simp)
    walk_at "m"
    refine ⟨rfl, hN _ _ ?_⟩
    clear hN
    obtain ⟨d1, d2, d3⟩ := split_bd sepB t
    unfold b_read_modes_1
    walk_at "m"
    unfold b_read_modes_2
    walk_at "m"
    refine ⟨⟨_, rfl⟩, by decide, by rw [sizeLine_eq]; omega, fun y hy => by have := d2 y hy; rw [sizeLine_eq]; omega, ?_⟩
    refine ⟨by rw [List.length_map]; omega, ?_⟩
    refine lcS (Txt.split t " ") (fun _ => true) (fun w => tupS (Txt.split w "!")) (fun w hw R r => r) (fun w hw _ R r => ?_) ?_ ?_
    · obtain ⟨f1, f2, f3⟩ := split_bd sepX w
      have := d2 w hw
      walk_at "m"
      refine ⟨by decide, by rw [sizeLine_eq]; omega, fun y hy => by have := f2 y hy; rw [sizeLine_eq]; omega, ?_⟩
      exact r
    · simp
    rw [filter_true]
    have ep : (Txt.split t " ").map (fun w => tupS (Txt.split w "!")) = (prs t).map tupS := by unfold prs wrd; rw [List.map_map]; rfl
    rw [ep]
    have lq : (prs t).length ≤ 5000 := by unfold prs wrd; rw [List.length_map]; omega
    have q1 : ∀ ms ps, (if moB (wrd h) = true then (rdP (wrd h) (prs t)).map fun ps => (wrd h, ps) else none) = some (ms, ps) → Q (stgO ms ps) M := q1
    have q3 : (if moB (wrd h) = true then (rdP (wrd h) (prs t)).map fun ps => (wrd h, ps) else none) = none → okE E M := q3
    cases e : moB (wrd h) with
    | true =>
      rw [if_pos e] at q1 q3
      cases e2 : rdP (wrd h) (prs t) with
      | some ps =>
        rw [e2] at q1
        exact b3_ok cM (by omega) lq e e2 (q1 _ _ rfl)
      | none =>
        rw [e2] at q3
        exact b3_no cM (by omega) lq (fun _ => e2) (q3 rfl)
    | false =>
      rw [if_neg (by rw [e]; simp)] at q3
      exact b3_no cM (by omega) lq (fun x => by rw [e] at x; cases x) (q3 rfl)
  | h :: t :: u :: r, c1, c2, c3 =>
    walk_at "m"
    refine ⟨by rw [List.length_map]; simp only [List.length_cons] at c1; omega, ?_⟩
    have e : (List.map Da.str r).length + 1 + 1 + 1 + 1 - 2 = (List.map Da.str r).length + 2 := by omega
    have e1 : List.take ((List.map Da.str r).length + 2) (List.drop 1 (Da.str h :: Da.str t :: Da.str u :: List.map Da.str r)) = Da.str t :: Da.str u :: List.map Da.str r := List.take_of_length_le (by simp)
    have e2 : List.drop ((List.map Da.str r).length + 2) (List.drop 1 (Da.str h :: Da.str t :: Da.str u :: List.map Da.str r)) = [] := List.drop_eq_nil_of_le (by simp)
    rw [e, e1, e2]
    refine ⟨rfl, hN _ _ ?_⟩
    unfold b_read_modes_1
    walk_at "m"
    exact ite2 (fun _ => leave_same (q2 rfl)) (fun c => by exfalso; apply c; omega)
end
end Z

/-! k18: read_strengths -/
namespace Z
open PySem PySem.Spec PyProof.Rows L2 Evl
section
variable {M : Mem} {Q : TK} {E : XD} {ms : List Str} {ps : List (Str × Str)} {z : Str}
theorem rdM_ok (h : rdM z = some (ms, ps)) : Mo ms ∧ Pr ms ps := by
  unfold rdM at h
  split at h
  · split at h
    · rename_i e
      cases h
      exact ⟨moB_iff.1 e, fun p hp => by cases hp⟩
    · cases h
  · rename_i h0 t0 _
    split at h
    · rename_i e
      cases e2 : rdP (wrd h0) (prs t0) with
      | none => rw [e2] at h; cases h
      | some r =>
        rw [e2] at h
        cases h
        exact ⟨moB_iff.1 e, (rdP_some e2).2.1⟩
    · cases h
  · cases h
theorem rdT_ok (h : rdT z = some (ms, ps)) : Mo ms ∧ Pr ms ps ∧ stS ms ps = z := by
  unfold rdT at h
  split at h
  · rename_i e
    split at h
    · rename_i e2
      cases h
      exact ⟨(rdM_ok e).1, (rdM_ok e).2, e2⟩
    · cases h
  · cases h
theorem stg_frz {n : Nat} : frz n 4 M (stgO ms ps) = some (.obj "Strengths" [("own_modes", .tup (ms.map Da.str)), ("against", .dct (agD ms ps))]) := frz_clo (by
  unfold stgO cloD
  exact stg_clo n ms ps)
theorem strF_ok (mo : Mo ms) {d : Da} (hf : frz 0 4 M d = some (stgO ms ps)) (q : Q (.str (stS ms ps)) M) : nStrOF "Strengths" [0] f_Strengths_str [] [d] M Q := by
  unfold nStrOF
  exact ⟨_, hf, str_ok mo ⟨rfl, _, rfl, q⟩⟩
theorem read_go (lz : z.length ≤ 4000) (q1 : ∀ ms ps, rdT z = some (ms, ps) → Q (stgO ms ps) M) (q2 : rdT z = none → E "InvalidText" [("value", .str z)] M) : f_read_strengths [.str z] M Q E := by
  unfold f_read_strengths m_read_strengths
  walk_at "m1"
  intro cM _
  refine seq_hide fun N hN => ?_
  walk_at "m"
  refine ite2 (fun c => absurd c (by omega)) (fun _ => hN _ _ ?_)
  clear hN
  unfold b_read_strengths_1
  refine seq_hide fun N hN => ?_
  unfold mTry
  walk_at "m"
  have q2 : rdT z = none → leaveX M.length E "InvalidText" [("value", .str z)] M := fun e => ⟨M, .inl rfl, q2 e⟩
  refine read_modes_go lz (fun ms ps e => hN _ _ ?_) (fun e => hN _ _ ?_) (fun e => ?_)
  · clear hN
    obtain ⟨mo, pr⟩ := rdM_ok e
    have e2 : rdT z = if stS ms ps = z then some (ms, ps) else none := by unfold rdT; rw [e]
    rw [e2] at q1 q2
    unfold b_read_strengths_2
    refine seq_hide fun N hN => ?_
    refine if_hide fun T U hT hU => ?_
    have no : ¬ stS ms ps = z → T M := fun c => hT _ (by
      rw [if_neg c] at q2
      walk_at "m"
      exact q2 rfl)
    have yes : stS ms ps = z → U M := fun c => hU _ (next_run (hN _ _ (by
      rw [if_pos c] at q1
      unfold b_read_strengths_3
      walk_at "m"
      exact leave_same (q1 _ _ rfl))))
    clear hT hU hN q1 q2
    have go : nStrOF "Strengths" [0] f_Strengths_str [] [stgO ms ps] M fun d M1 => (pd d ∧ M1 = M ∧ d = .str (stS ms ps)) := strF_ok mo stg_frz ⟨⟨rfl, by simp [dpD]⟩, rfl, rfl⟩
    unfold stgO
    walk_at "m"
    refine strF_ok mo stg_frz ?_
    walk_at "m"
    exact ite2 (fun c => no c) (fun c => yes (Classical.byContradiction c))
  · unfold b_read_strengths_2
    walk_at "m"
    exact q2 (by unfold rdT; rw [e])
  · intro c f v hm hp
    have q2 := q2 (by unfold rdT; rw [e])
    simp only [List.mem_cons, List.not_mem_nil, or_false, Prod.mk.injEq] at hm
    rcases hm with ⟨rfl, rfl⟩ | ⟨rfl, rfl⟩ | ⟨rfl, rfl⟩ | ⟨rfl, rfl⟩ | ⟨rfl, rfl⟩ | ⟨rfl, rfl⟩ <;>
    · refine mMix_hit (by decide +kernel) (fun q => by cases q) fun a dd => ?_
      walk_at "m"
      exact q2
/-- what is no text: plain data, or an instance that is a cell -/
theorem read_odd {d : Da} (hd : plD d = true) (hs : ∀ x, d ≠ .str x) (q : E "InvalidText" [("value", d)] M) : f_read_strengths [d] M Q E := by
  have q : leaveX M.length E "InvalidText" [("value", d)] M := ⟨M, .inl rfl, q⟩
  unfold f_read_strengths m_read_strengths
  walk_at "m1"
  intro cM _
  cases d with
  | str x => exact absurd rfl (hs x)
  | ty _ => cases hd
  | gl _ => cases hd
  | obj _ _ => cases hd
  | kl _ => cases hd
  | kt _ => cases hd
  | cell _ => cases hd
  | exv _ _ _ _ => cases hd
  | dct _ => cases hd
  | _ =>
    walk_at "m"
    exact q
theorem read_dct {ks : List (Key × Da)} (q : E "InvalidText" [("value", .dct ks)] M) : f_read_strengths [.dct ks] M Q E := by
  have q : leaveX M.length E "InvalidText" [("value", .dct ks)] M := ⟨M, .inl rfl, q⟩
  unfold f_read_strengths m_read_strengths
  walk_at "m1"
  intro cM _
  walk_at "m"
  exact q
theorem read_cell {k : Nat} {fds : List (Str × Da)} (h : M[k]? = some (.obj "Strengths" fds)) (q : E "InvalidText" [("value", .cell k)] M) : f_read_strengths [.cell k] M Q E := by
  have q : leaveX M.length E "InvalidText" [("value", .cell k)] M := ⟨M, .inl rfl, q⟩
  unfold f_read_strengths m_read_strengths
  walk_at "m1"
  intro cM _
  walk_at "m"
  rw [h]
  exact ⟨rfl, q⟩
end
end Z

/-! loops over a mapped list: what is done and what is left -/
namespace Z
open PySem PySem.Spec PyProof.Rows L2 Evl
theorem forL_xs {α : Type} {still : Mem → Prop} {g : MG} {tb : MS} {D : En} {n : Nat} (f : α → Da) (xs : List α) {ρ : Sl} {M : Mem} (P : List α → List α → Sl → Mem → Prop) (h0 : P [] xs ρ M)
    (hs : ∀ p x r ρ M, xs = p ++ x :: r → P p (x :: r) ρ M → ∀ C : Sl → Mem → Prop, (∀ ρ' M' ρ3 M3, Wk n ρ' M' ρ3 M3 → still M3 → P (p ++ [x]) r ρ3 M3 → C ρ' M') → g (f x) ρ M fun ρ1 M1 => tb { nx := C, rt := D.rt, bk := D.nx, ct := C } ρ1 M1)
    (he : ∀ ρ M, P xs [] ρ M → D.nx ρ M) : forL still g tb D n (xs.map f) ρ M := by
  have go : ∀ (r p : List α) (ρ : Sl) (M : Mem), xs = p ++ r → P p r ρ M → forL still g tb D n (r.map f) ρ M := by
    intro r
    induction r with
    | nil =>
      intro p ρ M e h
      rw [List.append_nil] at e
      subst e
      exact he ρ M h
    | cons x r ih =>
      intro p ρ M e h
      rw [List.map_cons]
      unfold forL
      exact hs p x r ρ M e h _ fun ρ' M' ρ3 M3 w s p' => ⟨ρ3, M3, w, s, ih (p ++ [x]) ρ3 M3 (by rw [List.append_assoc]; exact e) p'⟩
  exact go xs [] ρ M rfl h0
/-- a comprehension over a mapped list that changes nothing -/
theorem lcL_xs {α : Type} {still : Mem → Prop} {g : MG} {tt : MT} {te : ME} {vs : List Nat} {ρ : Sl} {M : Mem} {Q : TK} (f : α → Da) (xs : List α) (p : α → Bool) (h : α → Da) (sl : α → Sl)
    (hg : ∀ x ∈ xs, ∀ R : Sl → Mem → Prop, R (sl x) M → g (f x) (wipeD ρ vs) M R)
    (ht : ∀ x ∈ xs, ∀ R : Bool → Mem → Prop, R (p x) M → tt (sl x) M R) (hf : ∀ x ∈ xs, p x = true → ∀ R : TK, R (h x) M → te (sl x) M R) (hS : still M) (q : Q (.lst ((xs.filter p).map h)) M) :
    lcL still g tt te vs ρ (xs.map f) [] M Q := by
  have go : ∀ (r : List α) (acc : List Da), (∀ x ∈ r, x ∈ xs) → (Q (.lst (acc ++ (r.filter p).map h)) M) → lcL still g tt te vs ρ (r.map f) acc M Q := by
    intro r
    induction r with
    | nil => intro acc _ q; rw [List.filter_nil, List.map_nil, List.append_nil] at q; exact q
    | cons x r ih =>
      intro acc hm q
      have hx := hm x (List.mem_cons_self ..)
      have hr : ∀ y ∈ r, y ∈ xs := fun y hy => hm y (List.mem_cons_of_mem _ hy)
      rw [List.map_cons]
      unfold lcL
      refine hg x hx _ (ht x hx _ ?_)
      cases c : p x with
      | true =>
        refine iteT (hf x hx c _ ⟨hS, ih _ hr ?_⟩)
        rw [List.filter_cons, if_pos c, List.map_cons] at q
        rw [List.append_assoc]
        exact q
      | false =>
        refine iteF ⟨hS, ih _ hr ?_⟩
        rw [List.filter_cons, if_neg (by rw [c]; simp)] at q
        exact q
  exact go xs [] (fun _ h => h) q
end Z

/-! k18: the law's own reading -/
namespace Z
open PySem PySem.Spec PyProof.Rows L2 Evl
theorem frz_lst {n f : Nat} {M : Mem} {ds es : List Da} (nc : cloD n (.lst ds) = false) (h : mapO (frz n f M) ds = some es) : frz n (f + 1) M (.lst ds) = some (.lst es) := by
  unfold frz
  rw [if_neg (by rw [nc]; simp)]
  show (mapO (frz n f M) ds).map Da.lst = _
  rw [h]
  rfl
theorem frz2 {n f : Nat} {M : Mem} {X Y W P : Da} (h1 : frz n f M X = some W) (h2 : frz n f M Y = some P) : frz n (f + 1) M (.lst [X, Y]) = some (.lst [W, P]) := by
  by_cases c : cloD n (.lst [X, Y]) = true
  · have c2 := c
    unfold cloD cloL cloL at c2
    simp only [cloL, Bool.and_true, Bool.and_eq_true] at c2
    rw [frz_clo c2.1] at h1
    rw [frz_clo c2.2] at h2
    cases h1
    cases h2
    exact frz_clo c
  · refine frz_lst (by simpa using c) ?_
    unfold mapO mapO mapO
    rw [h1, h2]
theorem all_filter {α β : Type} (P : α → Bool) (f : α → β) (l : List α) : l.all P = (List.map f (l.filter fun c => !P c)).isEmpty := by
  induction l with
  | nil => rfl
  | cons a l ih =>
    rw [List.all_cons, ih, List.filter_cons]
    cases P a <;> rfl
section
variable {M : Mem} {Q : TK} {E : XD} {ms : List Str} {ps : List (Str × Str)} {z h t : Str} {ws : List Str}
theorem law_isn_ok (q : Q (.bl (nmS z)) M) : f_law_is_name [.str z] M Q E := by
  unfold f_law_is_name m_law_is_name
  walk_at "m0"
  have no : nmS z = false → Q (.bl false) M := fun e => by rw [e] at q; exact q
  walk_at "m"
  refine ite2 (fun c => leave_same (no (by simp [nmS, c]))) (fun c => ?_)
  refine ite2 (fun c1 => leave_same (no ?_)) (fun c1 => ?_)
  · have : ¬ 1 ≤ z.length := by omega
    simp [nmS, this]
  refine ite2 (fun c2 => leave_same (no ?_)) (fun c2 => ?_)
  · have : ¬ z.length ≤ 8 := by omega
    simp [nmS, this]
  refine ⟨by rw [List.length_map, len_cps]; omega, ?_⟩
  refine lcL_xs chS z.cps.toList (fun c => !decide (c ∈ letters)) chS (fun c => [some (.str z), some (chS c)]) (fun c _ R r => r) (fun c hc R r => ?_) (fun c hc _ R r => ?_) trivial ?_
  · unfold chS
    walk_at "m"
    exact r
  · exact r
  walk_at "m"
  rw [eqL_nil]
  refine ⟨⟨plL_map (fun _ => rfl) _, by rw [dpL_map (fun _ => rfl)]; omega⟩, leave_same ?_⟩
  have e : nmS z = (List.map chS (List.filter (fun c => !decide (c ∈ letters)) z.cps.toList)).isEmpty := by
    have h1 : 1 ≤ z.length := by omega
    have h2 : z.length ≤ 8 := by omega
    simp only [nmS, c, h1, h2, decide_true, decide_false, Bool.not_false, Bool.true_and]
    exact all_filter (fun c => decide (c ∈ letters)) chS _
  rw [← e]
  exact q
/-- what is wrong with the k-th word -/
def badB (ws : List Str) (k : Nat) : Bool := match ws[k]? with
  | some z => !nmS z || decide (z ∈ ws.take k)
  | none => false
def badL (ws : List Str) : List Nat := (List.range ws.length).filter (badB ws)
theorem badL_nil : badL ws = [] ↔ ws.all nmS = true ∧ ws.Nodup := by
  unfold badL
  rw [List.filter_eq_nil_iff]
  constructor
  · intro h
    refine ⟨List.all_eq_true.2 fun z hz => ?_, ?_⟩
    · obtain ⟨k, hk, rfl⟩ := List.getElem_of_mem hz
      have := h k (List.mem_range.2 hk)
      unfold badB at this
      rw [List.getElem?_eq_getElem hk] at this
      simp only [Bool.or_eq_true, Bool.not_eq_true', not_or] at this
      simpa using this.1
    · refine List.pairwise_iff_getElem.2 fun i j hi hj l e => ?_
      have := h j (List.mem_range.2 hj)
      unfold badB at this
      rw [List.getElem?_eq_getElem hj] at this
      simp only [Bool.or_eq_true, Bool.not_eq_true', not_or, decide_eq_true_eq] at this
      refine this.2 ?_
      rw [← e]
      exact List.mem_take_iff_getElem.2 ⟨i, by omega, rfl⟩
  · rintro ⟨h1, h2⟩ k hk
    have hk := List.mem_range.1 hk
    unfold badB
    rw [List.getElem?_eq_getElem hk]
    simp only [Bool.or_eq_true, Bool.not_eq_true', not_or, decide_eq_true_eq]
    refine ⟨by rw [List.all_eq_true.1 h1 _ (List.getElem_mem hk)]; simp, fun hm => ?_⟩
    obtain ⟨i, hi, e⟩ := List.mem_take_iff_getElem.1 hm
    exact List.pairwise_iff_getElem.1 h2 i k (by omega) hk (by omega) e
theorem moB_bad (h1 : 1 ≤ ws.length) : moB ws = true ↔ badL ws = [] ∧ ws.length ≤ 8 := by
  rw [badL_nil]
  unfold moB
  simp only [Bool.and_eq_true, decide_eq_true_eq]
  exact ⟨fun h => ⟨⟨h.1.1.1, h.1.1.2⟩, h.2⟩, fun h => ⟨⟨h.1, h1⟩, h.2⟩⟩
theorem rdP_app (a b : List (List Str)) : rdP ms (a ++ b) = (rdP ms a).bind fun p => (rdP ms b).map (p ++ ·) := by
  induction a with
  | nil =>
    show rdP ms b = (rdP ms b).map fun x => [] ++ x
    cases rdP ms b <;> rfl
  | cons q a ih =>
    match q with
    | [x, y] =>
      show (if x ∈ ms ∧ y ∈ ms then (rdP ms (a ++ b)).map ((x, y) :: ·) else none) = (if x ∈ ms ∧ y ∈ ms then (rdP ms a).map ((x, y) :: ·) else none).bind _
      split
      · rw [ih]
        cases rdP ms a with
        | none => rfl
        | some p => cases rdP ms b <;> rfl
      · rfl
    | [] => rfl
    | [_] => rfl
    | _ :: _ :: _ :: _ => rfl
/-- the last step: the text of what was read -/
theorem b6_ok {s1 s3 s5 s6 s7 : Option Da} (cM : cloL M.length M = true) (mo : Mo ws) (lp : ps.length ≤ 5000) (q : Q (if stS ws ps = z then modelD ws ps else .non) M) :
    b_law_read_6 { nx := fun _ M' => leave M.length Q .non M', rt := leave M.length Q } [some (.str z), s1, some (.lst (ws.map Da.str)), s3, some (.cell M.length), s5, s6, s7] (M ++ [.lst (ps.map prD)]) := by
  unfold b_law_read_6
  have cp : ∀ n, cloL n (ps.map prD) = true := fun n => plL_clo _ (pl_prs _)
  have ec : ∀ n f, n ≤ M.length → frz n (f + 1) (M ++ [.lst (ps.map prD)]) (.cell M.length) = some (.lst (ps.map prD)) := fun n f l => frz_cell (by simp) l (cp n)
  have ew : ∀ n f, frz n f (M ++ [.lst (ps.map prD)]) (.lst (ws.map Da.str)) = some (.lst (ws.map Da.str)) := fun n f => frz_clo (clo_strs _ ws)
  walk_at "m"
  have e1 : mapO (frz 0 4 (M ++ [.lst (ps.map prD)])) [.lst [.lst (ws.map Da.str), .cell M.length]] = some [modelD ws ps] := by
    unfold mapO mapO
    rw [frz2 (f := 3) (ew 0 3) (ec 0 2 (Nat.zero_le _))]
    rfl
  refine ⟨_, e1, law_text_ok mo ⟨rfl, rfl, ?_⟩⟩
  walk_at "m"
  refine ite2 (fun c => ?_) (fun c => ?_)
  · rw [if_pos c] at q
    exact ⟨_, M, .inr ⟨by simp, by simp, cM, frz2 (f := 3) (ew _ 3) (ec _ 2 (Nat.le_refl _))⟩, q⟩
  · rw [if_neg c] at q
    exact ⟨_, M, .inr ⟨by simp, by simp, cM, frz_clo rfl⟩, q⟩
end
end Z

/-! k18: bent texts drawn, what is told -/
namespace Z
open PySem PySem.Spec PyProof.Rows L2 Evl
theorem tl_cut (z : Str) (lo hi : Option Int) : TL.tl (cutS z lo hi) = cutL (TL.tl z) lo hi := by
  unfold cutS cutL
  rw [TL.tl_mk, TL.len_tl]
def mores : List Str := [" ", "a", "!", ":", ": ", "0", "table", " pqa", "!pqa", "b!b", "\n"]
theorem mores_len : ∀ y ∈ mores, y.length ≤ 5 := by decide +kernel
section
variable {M R : Mem} {Q : TK} {E : XD} {ms : List Str} {ps : List (Str × Str)} {z : Str} {b : Da} {n : Nat}
theorem law_bent_ok (B : BoxD n b) (hn : n ≤ 100000) (lz : z.length ≤ 4000) (q : ∀ y b', BoxD (n + 3) b' → y.length ≤ z.length + 5 → Q (.str y) (b' :: R)) : f_law_bent [.cell 0, .str z] (b :: R) Q E := by
  unfold f_law_bent m_law_bent
  walk_at "m0"
  refine seq_hide fun N hN => ?_
  walk_at "m"
  refine take_ok (R := R) B (by omega) (by omega) (by have := log_nat (n := z.length + 1) (by omega); simpa using this) fun dI b1 B1 d0 d1 => ?_
  refine hN _ _ ?_
  clear hN
  unfold b_law_bent_1
  refine seq_hide fun N hN => ?_
  walk_at "m"
  refine take_ok (R := R) B1 (by omega) (by decide) (by decide +kernel) fun eI b2 B2 e0 e1 => ?_
  have ex : ∃ C : Str, C.length ≤ 5 ∧ atI [Da.str " ", .str "a", .str "!", .str ":", .str ": ", .str "0", .str "table", .str " pqa", .str "!pqa", .str "b!b", .str "\n"] eI = some (.str C) := by
    obtain ⟨v, hv, ev⟩ := atI_mem (xs := mores.map Da.str) e0 e1
    obtain ⟨C, hC, rfl⟩ := List.mem_map.1 hv
    exact ⟨C, mores_len C hC, ev⟩
  obtain ⟨C1, l4, ec⟩ := ex
  simp only [ec]
  refine hN _ _ ?_
  clear hN
  unfold b_law_bent_2
  refine seq_hide fun N hN => ?_
  obtain ⟨j, rfl⟩ : ∃ j : Nat, dI = (j : Int) := ⟨dI.toNat, by omega⟩
  have l1 : (cutS z none (some (j : Int))).length = min j z.length := by rw [TL.len_tl, tl_cut, cutL_takeD, List.length_take, TL.len_tl]
  have l2 : (cutS z (some (j : Int)) none).length = z.length - j := by rw [TL.len_tl, tl_cut, cutL_dropD, List.length_drop, TL.len_tl]
  have l3 : (cutS z (some ((j : Int) + 1)) none).length = z.length - (j + 1) := by
    rw [TL.len_tl, tl_cut, show ((j : Int) + 1) = ((j + 1 : Nat) : Int) by omega, cutL_dropD, List.length_drop, TL.len_tl]
  have go : N [some (.cell 0), some (.str z), some (.int (j : Int)), some (.str C1), some (.str (cutS z none (some (j : Int)))), some (.str (cutS z (some ((j : Int) + 1)) none))] (b2 :: R) := hN _ _ (by
    clear hN
    generalize cutS z none (some (j : Int)) = H1 at l1
    generalize cutS z (some ((j : Int) + 1)) none = T1 at l3
    unfold b_law_bent_3
    walk_at "m"
    generalize cutS z (some (j : Int)) none = A1 at l2
    have e1 : (H1 ++ C1).length = H1.length + C1.length := strApp _ _
    refine ⟨by rw [l1, sizeLine_eq]; omega, by rw [e1, l1, l2, sizeLine_eq]; omega, by rw [l1, l3, sizeLine_eq]; omega, by rw [l1, sizeLine_eq]; omega, by rw [e1, l1, l3, sizeLine_eq]; omega, ?_⟩
    refine take_ok (R := R) B2 (by omega) (by decide) (by decide +kernel) fun gI b3 B3 g0 g1 => ?_
    have ex : ∃ y : Str, y.length ≤ z.length + 5 ∧ atI [Da.str (H1 ++ C1 ++ A1), .str (H1 ++ T1), .str (H1 ++ C1 ++ T1)] gI = some (.str y) := by
      have : gI = 0 ∨ gI = 1 ∨ gI = 2 := by omega
      rcases this with rfl | rfl | rfl
      · exact ⟨_, by rw [strApp, e1, l1, l2]; omega, rfl⟩
      · exact ⟨_, by rw [strApp, l1, l3]; omega, rfl⟩
      · exact ⟨_, by rw [strApp, e1, l1, l3]; omega, rfl⟩
    obtain ⟨y, ly, ey⟩ := ex
    simp only [ey]
    exact leave_same (q y b3 (B3.mono (by omega)) ly))
  clear hN
  walk_at "m"
  exact go
theorem told_go (lz : z.length ≤ 4000) (q1 : ∀ ms ps, rdT z = some (ms, ps) → Q (.lst [.str "read", stgO ms ps]) M) (q2 : rdT z = none → Q (.lst [.str "text", .str z]) M) : f_law_told [.str z] M Q E := by
  unfold f_law_told m_law_told
  walk_at "m1"
  intro cM _
  walk_at "m"
  refine read_go lz (fun ms ps e => leave_same (q1 ms ps e)) (fun e => ?_)
  refine mMix_hit (by decide +kernel) (fun _ => rfl) fun a dd => ?_
  walk_at "m"
  exact leave_same (q2 e)
end
end Z

/-! k18: the law's own reading, whole -/
namespace Z
open PySem PySem.Spec PyProof.Rows L2 Evl
section
variable {M : Mem} {Q : TK} {E : XD} {ms : List Str} {ps : List (Str × Str)} {z h t : Str} {ws : List Str} {s3 : Option Da}
theorem rdP_step {done : List Str} {w : Str} (e : rdP ws (done.map fun w => Txt.split w "!") = some ps) : rdP ws ((done ++ [w]).map fun w => Txt.split w "!") = (rdP ws [Txt.split w "!"]).map (ps ++ ·) := by
  rw [List.map_append, rdP_app, e]
  rfl
theorem rdP_bad {done rest : List Str} {w : Str} (e : rdP ws (done.map fun w => Txt.split w "!") = some ps) (hw : rdP ws [Txt.split w "!"] = none) : rdP ws ((done ++ w :: rest).map fun w => Txt.split w "!") = none := by
  rw [List.map_append, rdP_app, e, List.map_cons, show Txt.split w "!" :: rest.map (fun w => Txt.split w "!") = [Txt.split w "!"] ++ rest.map (fun w => Txt.split w "!") from rfl, rdP_app, hw]
  rfl
theorem leave_non {S : Mem} (cM : cloL M.length M = true) (q : Q .non M) : leave M.length Q .non (M ++ S) := ⟨_, M, .inr ⟨by simp, by simp, cM, frz_clo rfl⟩, q⟩
theorem b5_two (cM : cloL M.length M = true) (mo : Mo ws) (lt : t.length ≤ 4000) (q : Q (match rdP ws (prs t) with | some ps => if stS ws ps = z then modelD ws ps else .non | none => .non) M) :
    b_law_read_5 { nx := fun _ M' => leave M.length Q .non M', rt := leave M.length Q } [some (.str z), some (.lst [.str h, .str t]), some (.lst (ws.map Da.str)), s3, some (.cell M.length), none, none, none] (M ++ [.lst []]) := by
  obtain ⟨d1, d2, d3⟩ := split_bd sepB t
  unfold b_law_read_5
  refine seq_hide fun N hN => ?_
  walk_at "m"
  refine ⟨by decide, by rw [sizeLine_eq]; omega, fun y hy => by have := d2 y hy; rw [sizeLine_eq]; omega, ?_⟩
  refine forL_xs Da.str (Txt.split t " ") (fun done rest ρ M' => ∃ ps s5 s6, M' = M ++ [.lst (ps.map prD)] ∧ rdP ws (done.map fun w => Txt.split w "!") = some ps ∧ ps.length = done.length ∧ ρ = [some (.str z), some (.lst [.str h, .str t]), some (.lst (ws.map Da.str)), s3, some (.cell M.length), s5, s6, none]) ⟨[], _, _, rfl, rfl, rfl, rfl⟩ ?_ ?_
  · rintro done w rest _ _ exs ⟨ps, s5, s6, rfl, e, el, rfl⟩ C hC
    clear hN
    have hw : w ∈ Txt.split t " " := by rw [exs]; simp
    have lw := d2 w hw
    obtain ⟨f1, f2, f3⟩ := split_bd sepX w
    have ep : prs t = (done ++ w :: rest).map fun w => Txt.split w "!" := by unfold prs wrd; rw [exs]
    rw [ep] at q
    unfold l_law_read_1
    refine seq_hide fun N hN => ?_
    walk_at "m"
    refine ⟨by decide, by rw [sizeLine_eq]; omega, fun y hy => by have := f2 y hy; rw [sizeLine_eq]; omega, hN _ _ ?_⟩
    clear hN
    unfold b_law_read_L1_1
    refine seq_hide fun N hN => ?_
    refine if_hide fun T U hT hU => ?_
    have no : rdP ws [Txt.split w "!"] = none → T (M ++ [.lst (ps.map prD)]) := fun c => hT _ (by
      rw [rdP_bad e c] at q
      walk_at "m"
      exact leave_non cM q)
    have yes : ∀ x y, Txt.split w "!" = [x, y] → x ∈ ws → y ∈ ws → U (M ++ [.lst (ps.map prD)]) := fun x y c hx hy => hU _ (next_run (hN _ _ (by
      have e1 : rdP ws [[x, y]] = some [(x, y)] := by
        show (if x ∈ ws ∧ y ∈ ws then some [(x, y)] else none) = _
        rw [if_pos ⟨hx, hy⟩]
      have e2 := rdP_step (w := w) e
      rw [c, e1] at e2
      rw [c]
      unfold b_law_read_L1_2
      walk_at "m"
      have ld : done.length ≤ 4001 := by
        have := congrArg List.length exs
        rw [List.length_append] at this
        omega
      refine ⟨⟨_, rfl⟩, by rw [List.length_map, sizeLine_eq]; omega, hC _ _ _ _ .same trivial ⟨ps ++ [(x, y)], _, _, ?_, e2, ?_, rfl⟩⟩
      · rw [List.map_append]
        rfl
      · rw [List.length_append, List.length_append, el]
        rfl)))
    clear hT hU hN q
    generalize Txt.split w "!" = parts at *
    match parts with
    | [x, y] =>
      have h2 : ∀ c : ¬ (x ∈ ws ∧ y ∈ ws), rdP ws [[x, y]] = none := fun c => by
        show (if x ∈ ws ∧ y ∈ ws then some [(x, y)] else none) = none
        rw [if_neg c]
      walk_at "m"
      rw [anyEq_strs, anyEq_strs]
      exact ⟨pdS ws, ite2 (fun c => no (h2 fun q => by rw [decide_eq_true q.1] at c; cases c)) (fun c => ⟨pdS ws, ite2 (fun c2 => no (h2 fun q => by rw [decide_eq_true q.2] at c2; cases c2)) (fun c2 => yes x y rfl (by simpa using c) (by simpa using c2))⟩)⟩
    | [] =>
      walk_at "m"
      exact no rfl
    | [x] =>
      walk_at "m"
      exact no rfl
    | x :: y :: u :: r =>
      walk_at "m"
      exact ite2 (fun _ => no rfl) (fun c => absurd (fun (e : _) => by omega) c)
  · rintro _ _ ⟨ps, s5, s6, rfl, e, el, rfl⟩
    refine hN _ _ ?_
    have ep : prs t = (Txt.split t " ").map fun w => Txt.split w "!" := rfl
    rw [ep, e] at q
    exact b6_ok cM mo (by omega) q
theorem b5_one (cM : cloL M.length M = true) (mo : Mo ws) (q : Q (if stS ws [] = z then modelD ws [] else .non) M) :
    b_law_read_5 { nx := fun _ M' => leave M.length Q .non M', rt := leave M.length Q } [some (.str z), some (.lst [.str h]), some (.lst (ws.map Da.str)), s3, some (.cell M.length), none, none, none] (M ++ [.lst []]) := by
  unfold b_law_read_5
  refine seq_hide fun N hN => ?_
  walk_at "m"
  refine forL_end (hN _ _ ?_)
  exact b6_ok (ps := []) cM mo (by simp) q
theorem b3_read {hs : List Str} (cM : cloL M.length M = true) (h1 : 1 ≤ ws.length) (no : moB ws = false ∨ 2 < hs.length → Q .non M)
    (yes : moB ws = true → hs.length ≤ 2 → b_law_read_5 { nx := fun _ M' => leave M.length Q .non M', rt := leave M.length Q } [some (.str z), some (.lst (hs.map Da.str)), some (.lst (ws.map Da.str)), some (.lst ((badL ws).map fun (k : Nat) => Da.int (0 + (k : Int)))), some (.cell M.length), none, none, none] (M ++ [.lst []])) :
    b_law_read_3 { nx := fun _ M' => leave M.length Q .non M', rt := leave M.length Q } [some (.str z), some (.lst (hs.map Da.str)), some (.lst (ws.map Da.str)), some (.lst ((badL ws).map fun (k : Nat) => Da.int (0 + (k : Int)))), none, none, none, none] M := by
  unfold b_law_read_3
  refine seq_hide fun N hN => ?_
  refine if_hide fun T U hT hU => ?_
  have no : moB ws = false ∨ 2 < hs.length → T M := fun c => hT _ (by
    walk_at "m"
    exact leave_same (no c))
  have yes : moB ws = true → hs.length ≤ 2 → U M := fun c c2 => hU _ (next_run (hN _ _ (by
    unfold b_law_read_4
    walk_at "m"
    exact yes c c2)))
  clear hT hU hN
  have hb := moB_bad h1
  walk_at "m"
  rw [List.length_map, List.length_map]
  refine ite2 (fun c => no (.inr (by omega))) (fun c1 => ?_)
  rw [eqL_nil]
  refine ⟨⟨plL_map (fun _ => rfl) _, by rw [dpL_map (fun _ => rfl)]; omega⟩, ?_⟩
  have e : (List.map (fun k : Nat => Da.int (0 + (k : Int))) (badL ws)).isEmpty = (badL ws).isEmpty := by cases badL ws <;> rfl
  rw [e]
  refine ite2 (fun c => no (.inl ?_)) (fun c => ite2 (fun c2 => no (.inl ?_)) (fun c2 => yes (hb.2 ⟨?_, by omega⟩) (by omega)))
  · rw [Bool.eq_false_iff]
    intro x
    rw [(hb.1 x).1] at c
    cases c
  · rw [Bool.eq_false_iff]
    intro x
    have := (hb.1 x).2
    omega
  · simpa using c
theorem law_read_ok (lz : z.length ≤ 4000) (q : Q (match rdT z with | some (ms, ps) => modelD ms ps | none => .non) M) : f_law_read [.str z] M Q E := by
  unfold f_law_read m_law_read
  walk_at "m1"
  intro cM _
  refine seq_hide fun N hN => ?_
  obtain ⟨c1, c2, c3⟩ := split_bd sepC z
  walk_at "m"
  refine ⟨by decide, by rw [sizeLine_eq]; omega, fun y hy => by have := c2 y hy; rw [sizeLine_eq]; omega, hN _ _ ?_⟩
  clear hN
  unfold rdT rdM at q
  generalize Txt.split z ": " = hs at *
  obtain ⟨h, r, rfl⟩ : ∃ h r, hs = h :: r := by
    cases hs with
    | nil => exact absurd rfl c3
    | cons h r => exact ⟨h, r, rfl⟩
  have c2' := c2
  have lh := c2 h (List.mem_cons_self ..)
  obtain ⟨d1, d2, d3⟩ := split_bd sepB h
  unfold b_law_read_1
  refine seq_hide fun N hN => ?_
  walk_at "m"
  refine ⟨by decide, by rw [sizeLine_eq]; omega, fun y hy => by have := d2 y hy; rw [sizeLine_eq]; omega, hN _ _ ?_⟩
  clear hN
  have ew : wrd h = Txt.split h " " := rfl
  generalize Txt.split h " " = ws at *
  have h1 : 1 ≤ ws.length := by
    cases ws with
    | nil => exact absurd rfl d3
    | cons _ _ => simp
  unfold b_law_read_2
  refine seq_hide fun N hN => ?_
  walk_at "m"
  rw [List.length_map]
  refine ⟨by omega, by omega, by rw [rngD_len]; omega, ?_⟩
  rw [Int.toNat_natCast]
  unfold rngD
  refine lcL_xs (fun (k : Nat) => Da.int (0 + (k : Int))) (List.range ws.length) (badB ws) (fun (k : Nat) => Da.int (0 + (k : Int))) (fun k => [some (.str z), some (.lst ((h :: r).map Da.str)), some (.lst (ws.map Da.str)), none, none, none, none, some (.int (0 + (k : Int)))]) (fun k hk R r => ?_) (fun k hk R r => ?_) (fun k hk _ R r => ?_) trivial ?_
  · walk_at "g"
    exact r
  · have hk := List.mem_range.1 hk
    obtain ⟨x, ex⟩ : ∃ x, ws[k]? = some x := ⟨ws[k], by simp [hk]⟩
    have ea : atI (ws.map Da.str) (0 + (k : Int)) = some (.str x) := by rw [Int.zero_add, atI_nat', List.getElem?_map, ex]; rfl
    have es : cutL (ws.map Da.str) none (some (0 + (k : Int))) = (ws.take k).map Da.str := by rw [Int.zero_add, cutL_takeD, List.map_take]
    have eb : badB ws k = (!nmS x || decide (x ∈ ws.take k)) := by unfold badB; rw [ex]
    rw [eb] at r
    walk_at "m"
    rw [ea]
    walk_at "m"
    refine law_isn_ok ?_
    cases e : nmS x with
    | false =>
      rw [e] at r
      walk_at "m"
      exact r
    | true =>
      rw [e] at r
      walk_at "m"
      rw [es]
      refine ⟨pdS _, ?_⟩
      rw [anyEq_strs]
      exact r
  · walk_at "m"
    exact r
  refine hN _ _ (b3_read (hs := h :: r) cM h1 (fun c => ?_) (fun c c2 => ?_))
  · match r, c with
    | [], c =>
      rcases c with c | c
      · have q : Q (match (match (if moB (wrd h) = true then some (wrd h, ([] : List (Str × Str))) else none) with | some (ms, ps) => if stS ms ps = z then some (ms, ps) else none | none => none : Option (List Str × List (Str × Str))) with | some (ms, ps) => modelD ms ps | none => Da.non) M := q
        rw [ew, if_neg (by rw [c]; simp)] at q
        exact q
      · simp at c
    | [t], c =>
      rcases c with c | c
      · have q : Q (match (match (if moB (wrd h) = true then (rdP (wrd h) (prs t)).map fun ps => (wrd h, ps) else none) with | some (ms, ps) => if stS ms ps = z then some (ms, ps) else none | none => none : Option (List Str × List (Str × Str))) with | some (ms, ps) => modelD ms ps | none => Da.non) M := q
        rw [ew, if_neg (by rw [c]; simp)] at q
        exact q
      · simp at c
    | _ :: _ :: _, _ => exact q
  · match r, c2 with
    | [], c2 =>
      have q : Q (match (match (if moB (wrd h) = true then some (wrd h, ([] : List (Str × Str))) else none) with | some (ms, ps) => if stS ms ps = z then some (ms, ps) else none | none => none : Option (List Str × List (Str × Str))) with | some (ms, ps) => modelD ms ps | none => Da.non) M := q
      rw [ew, if_pos c] at q
      refine b5_one cM (moB_iff.1 c) ?_
      by_cases e : stS ws [] = z
      · simp only [e, if_true] at q ⊢
        exact q
      · simp only [e, if_false] at q ⊢
        exact q
    | [t], c2 =>
      have q : Q (match (match (if moB (wrd h) = true then (rdP (wrd h) (prs t)).map fun ps => (wrd h, ps) else none) with | some (ms, ps) => if stS ms ps = z then some (ms, ps) else none | none => none : Option (List Str × List (Str × Str))) with | some (ms, ps) => modelD ms ps | none => Da.non) M := q
      rw [ew, if_pos c] at q
      have lt := c2' t (by simp)
      refine b5_two cM (moB_iff.1 c) (by omega) ?_
      cases e2 : rdP ws (prs t) with
      | none =>
        rw [e2] at q
        exact q
      | some ps =>
        rw [e2] at q
        have q : Q (match (if stS ws ps = z then some (ws, ps) else none : Option (List Str × List (Str × Str))) with | some (ms, ps) => modelD ms ps | none => Da.non) M := q
        show Q (if stS ws ps = z then modelD ws ps else Da.non) M
        by_cases e : stS ws ps = z
        · rw [if_pos e] at q ⊢
          exact q
        · rw [if_neg e] at q ⊢
          exact q
    | _ :: _ :: _, c2 => simp at c2
end
end Z

/-! k18: a text of strengths, read back -/
namespace Z
open PySem PySem.Spec PyProof.Rows L2 Evl
section
variable {ms : List Str} {ps : List (Str × Str)} {z : Str}
theorem nm_no {s : Nat} (h : nmS z = true) (hs : s ∉ letters) : s ∉ TL.tl z := by
  intro m
  unfold nmS at h
  simp only [Bool.and_eq_true, List.all_eq_true] at h
  exact hs (of_decide_eq_true (h.2.2.2 s m))
theorem no32 : (32 : Nat) ∉ letters := by decide +kernel
theorem no33 : (33 : Nat) ∉ letters := by decide +kernel
theorem no58 : (58 : Nat) ∉ letters := by decide +kernel
theorem tlC : TL.tl (": " : Str) = [58, 32] := by decide +kernel
theorem tlB : TL.tl (" " : Str) = [32] := by decide +kernel
theorem tlX : TL.tl ("!" : Str) = [33] := by decide +kernel
theorem mem_joinL {s : Nat} {S : List Nat} : ∀ {parts : List (List Nat)}, s ∈ TL.joinL S parts → s ∈ S ∨ ∃ p ∈ parts, s ∈ p
  | [], h => by cases h
  | [p], h => .inr ⟨p, List.mem_cons_self .., h⟩
  | p :: q :: r, h => by
    have h : s ∈ p ++ (S ++ TL.joinL S (q :: r)) := h
    rcases List.mem_append.1 h with h | h
    · exact .inr ⟨p, List.mem_cons_self .., h⟩
    rcases List.mem_append.1 h with h | h
    · exact .inl h
    · rcases mem_joinL h with h | ⟨x, hx, h⟩
      · exact .inl h
      · exact .inr ⟨x, List.mem_cons_of_mem _ hx, h⟩
theorem join_no {s : Nat} {S : Str} {ys : List Str} (h1 : s ∉ TL.tl S) (h2 : ∀ y ∈ ys, s ∉ TL.tl y) : s ∉ TL.tl (Txt.join S ys) := by
  rw [TL.join_eq, TL.tl_join]
  intro m
  rcases mem_joinL m with m | ⟨p, hp, m⟩
  · exact h1 m
  · obtain ⟨y, hy, rfl⟩ := List.mem_map.1 hp
    exact h2 y hy m
theorem join_two (S a b : Str) : Txt.join S [a, b] = a ++ S ++ b := by
  apply TL.ext_tl
  rw [TL.join_eq, TL.tl_join, TL.tl_append, TL.tl_append, List.append_assoc]
  rfl
theorem wrd_names (hn : ms ≠ []) (h : ∀ y ∈ ms, (32 : Nat) ∉ TL.tl y) : wrd (Txt.join " " ms) = ms := TL.split_join tlB (by decide +kernel) hn h
theorem prT_split {p : Str × Str} (h1 : nmS p.1 = true) (h2 : nmS p.2 = true) : Txt.split (prT p) "!" = [p.1, p.2] := by
  unfold prT
  rw [← join_two]
  refine TL.split_join tlX (by decide +kernel) (by simp) fun y hy => ?_
  rcases List.mem_cons.1 hy with rfl | hy
  · exact nm_no h1 no33
  · rw [List.mem_singleton.1 hy]
    exact nm_no h2 no33
theorem prT_no {s : Nat} (hs : s ∉ letters) (h33 : s ≠ 33) {p : Str × Str} (h1 : nmS p.1 = true) (h2 : nmS p.2 = true) : s ∉ TL.tl (prT p) := by
  unfold prT
  rw [← join_two]
  refine join_no (by rw [tlX]; simpa using h33) fun y hy => ?_
  rcases List.mem_cons.1 hy with rfl | hy
  · exact nm_no h1 hs
  · rw [List.mem_singleton.1 hy]
    exact nm_no h2 hs
theorem cl_nm (mo : Mo ms) {p : Str × Str} (h : p ∈ clL ms ps) : nmS p.1 = true ∧ nmS p.2 = true := ⟨mo.nm _ (clL_mem h).1, mo.nm _ (clL_mem h).2⟩
theorem ptS_nil (mo : Mo ms) : ptS ms ps = ("" : Str) ↔ clL ms ps = [] := by
  unfold ptS
  constructor
  · intro h
    cases e : clL ms ps with
    | nil => rfl
    | cons p r =>
      have sp := wrd_names (ms := (clL ms ps).map prT) (by rw [e]; simp) (fun y hy => by
        obtain ⟨q, hq, rfl⟩ := List.mem_map.1 hy
        exact prT_no no32 (by decide) (cl_nm mo hq).1 (cl_nm mo hq).2)
      rw [h] at sp
      have e0 : wrd "" = [("" : Str)] := by decide +kernel
      rw [e0, e, List.map_cons] at sp
      injection sp with sp _
      have hp := prT_split (cl_nm (ps := ps) mo (p := p) (by rw [e]; simp)).1 (cl_nm (ps := ps) mo (p := p) (by rw [e]; simp)).2
      rw [← sp] at hp
      have e1 : Txt.split "" "!" = [("" : Str)] := by decide +kernel
      rw [e1] at hp
      have := congrArg List.length hp
      simp at this
  · intro h
    rw [h]
    rfl
theorem cl_same (ms : List Str) (ps : List (Str × Str)) : sameB ms (clL ms ps) ps := by
  intro a ha o ho
  obtain ⟨i, hi⟩ := List.getElem?_of_mem ha
  obtain ⟨j, hj⟩ := List.getElem?_of_mem ho
  refine Bool.eq_iff_iff.2 ⟨fun h => ?_, fun h => ?_⟩
  · unfold agB at h
    rw [Bool.or_eq_true] at h
    rcases h with h | h
    · exact clL_ag (of_decide_eq_true h)
    · rw [agB_comm]
      exact clL_ag (of_decide_eq_true h)
  · rcases Nat.le_total i j with l | l
    · have := ag_clL l hi hj h
      unfold agB
      rw [decide_eq_true this, Bool.true_or]
    · rw [agB_comm] at h
      have := ag_clL l hj hi h
      unfold agB
      rw [decide_eq_true this, Bool.or_true]
theorem cl_cl (ms : List Str) (ps : List (Str × Str)) : clL ms (clL ms ps) = clL ms ps := clL_iff.2 (cl_same ms ps)
theorem st_cl (ms : List Str) (ps : List (Str × Str)) : stS ms (clL ms ps) = stS ms ps := by
  unfold stS ptS
  rw [cl_cl]
theorem back (mo : Mo ms) : rdT (stS ms ps) = some (ms, clL ms ps) := by
  have hne : ms ≠ [] := fun e => by have := mo.n1; rw [e] at this; simp at this
  have w32 : ∀ y ∈ ms, (32 : Nat) ∉ TL.tl y := fun y hy => nm_no (mo.nm y hy) no32
  have W58 : (58 : Nat) ∉ TL.tl (Txt.join " " ms) := join_no (by rw [tlB]; simp) fun y hy => nm_no (mo.nm y hy) no58
  have key : rdM (stS ms ps) = some (ms, clL ms ps) := by
    by_cases e : ptS ms ps = ("" : Str)
    · have ec := (ptS_nil mo).1 e
      have es : stS ms ps = Txt.join " " ms := if_pos e
      have e1 : Txt.split (Txt.join " " ms) ": " = [Txt.join " " ms] := by
        have := TL.split_join (y := ": ") tlC (by decide +kernel) (parts := [Txt.join " " ms]) (by simp) (fun p hp => by rw [List.mem_singleton.1 hp]; exact W58)
        exact this
      rw [es, ec]
      unfold rdM
      rw [e1]
      show (if moB (wrd (Txt.join " " ms)) = true then some (wrd (Txt.join " " ms), []) else none) = _
      rw [wrd_names hne w32, if_pos (moB_iff.2 mo)]
    · have ec : clL ms ps ≠ [] := fun q => e ((ptS_nil mo).2 q)
      have es : stS ms ps = Txt.join " " ms ++ (": " : Str) ++ ptS ms ps := if_neg e
      have P58 : (58 : Nat) ∉ TL.tl (ptS ms ps) := join_no (by rw [tlB]; simp) fun y hy => by
        obtain ⟨q, hq, rfl⟩ := List.mem_map.1 hy
        exact prT_no no58 (by decide) (cl_nm mo hq).1 (cl_nm mo hq).2
      have e1 : Txt.split (Txt.join " " ms ++ (": " : Str) ++ ptS ms ps) ": " = [Txt.join " " ms, ptS ms ps] := by
        rw [← join_two]
        refine TL.split_join tlC (by decide +kernel) (by simp) fun y hy => ?_
        rcases List.mem_cons.1 hy with rfl | hy
        · exact W58
        · rw [List.mem_singleton.1 hy]
          exact P58
      have e2 : wrd (ptS ms ps) = (clL ms ps).map prT := wrd_names (by simpa using ec) fun y hy => by
        obtain ⟨q, hq, rfl⟩ := List.mem_map.1 hy
        exact prT_no no32 (by decide) (cl_nm mo hq).1 (cl_nm mo hq).2
      have e3 : prs (ptS ms ps) = (clL ms ps).map fun p => [p.1, p.2] := by
        unfold prs
        rw [e2, List.map_map]
        exact List.map_congr_left fun p hp => prT_split (cl_nm mo hp).1 (cl_nm mo hp).2
      have e4 : rdP ms (prs (ptS ms ps)) = some (clL ms ps) := by
        rw [e3]
        refine rdP_of ?_ fun p hp => clL_mem hp
        rw [List.map_map]
        rfl
      rw [es]
      unfold rdM
      rw [e1]
      show (if moB (wrd (Txt.join " " ms)) = true then (rdP (wrd (Txt.join " " ms)) (prs (ptS ms ps))).map fun ps => (wrd (Txt.join " " ms), ps) else none) = _
      rw [wrd_names hne w32, if_pos (moB_iff.2 mo), e4]
      rfl
  unfold rdT
  rw [key]
  show (if stS ms (clL ms ps) = stS ms ps then some (ms, clL ms ps) else none) = _
  rw [if_pos (st_cl ms ps)]
end
end Z

/-! LQ: comparisons that come out even; or of two conditions -/
namespace Z
open PySem PySem.Spec PyProof.Rows L2 Evl
theorem nNe_same {X : Da} {M : Mem} {Q : TK} (p : plD X = true) (l : dpD X ≤ 59) (q : Q (.bl false) M) : nNe X X M Q := by
  unfold nNe
  rw [lookE_pl p]
  refine ⟨⟨p, l⟩, ⟨p, l⟩, ?_⟩
  rw [eqD_refl p]
  exact q
theorem nNeE_same {X : Da} {M : Mem} {Q : TK} (p : plE X = true) (l : dpE X ≤ 59) (q : Q (.bl false) M) : nNeE X X M Q := ⟨X, X, true, frz_clo (plE_clo 0 p), frz_clo (plE_clo 0 p), p, p, l, l, eqE_refl p, q⟩
/-- x != y where both sides come out as X -/
theorem ne_run {ma mb : ME} {ρ : Sl} {M M1 M2 : Mem} {X : Da} (ha : ∀ Q : TK, Q X M1 → ma ρ M Q) (hb : ∀ Q : TK, Q X M2 → mb ρ M1 Q) (p : plD X = true) (l : dpD X ≤ 59) {Q : Bool → Mem → Prop} (q : Q false M2) : mB (mOp nNe ma mb) ρ M Q := by
  unfold mB mOp
  exact ha _ (hb _ (nNe_same p l q))
theorem neE_run {ma mb : ME} {ρ : Sl} {M M1 M2 : Mem} {X : Da} (ha : ∀ Q : TK, Q X M1 → ma ρ M Q) (hb : ∀ Q : TK, Q X M2 → mb ρ M1 Q) (p : plE X = true) (l : dpE X ≤ 59) {Q : Bool → Mem → Prop} (q : Q false M2) : mB (mOp nNeE ma mb) ρ M Q := by
  unfold mB mOp
  exact ha _ (hb _ (nNeE_same p l q))
/-- neither -/
theorem or_no {ma mb : MT} {ρ : Sl} {M M1 M2 : Mem} {Q : Bool → Mem → Prop} (ha : ∀ Q : Bool → Mem → Prop, Q false M1 → ma ρ M Q) (hb : ∀ Q : Bool → Mem → Prop, Q false M2 → mb ρ M1 Q) (q : Q false M2) : mOr ma mb ρ M Q := by
  unfold mOr
  exact ha _ (iteF (hb _ q))
/-- a condition that fails -/
theorem if_no {c : MT} {t u : MS} {D : En} {ρ : Sl} {M M1 : Mem} (hc : ∀ Q : Bool → Mem → Prop, Q false M1 → c ρ M Q) (h : u D ρ M1) : mIfS c t u D ρ M := hc _ (iteF h)
theorem orT_of {ma mb : ME} {ρ : Sl} {M : Mem} {Q : TK} {d : Da} {c : Bool} (ha : ∀ R : TK, R d M → ma ρ M R) (ht : truD d = some c) (q1 : c = true → Q d M) (q2 : c = false → mb ρ M Q) : mOrT ma mb ρ M Q := by
  unfold mOrT
  refine ha _ ?_
  simp only [ht]
  cases c with
  | true => exact q1 rfl
  | false => exact q2 rfl
end Z

/-! k18: the law -/
namespace Z
open PySem PySem.Spec PyProof.Rows L2 Evl
section
variable {M : Mem} {Q : TK} {E : XD} {ms : List Str} {ps : List (Str × Str)} {z : Str} {b : Da} {n : Nat} {D : En} {ns : List Int} {i : Int}
theorem told_odd {d : Da} (h : ∀ {M : Mem} {Q : TK} {E : XD}, E "InvalidText" [("value", d)] M → f_read_strengths [d] M Q E) (q : Q (.lst [.str "text", d]) M) : f_law_told [d] M Q E := by
  unfold f_law_told m_law_told
  walk_at "m1"
  intro cM _
  walk_at "m"
  refine h ?_
  refine mMix_hit (by decide +kernel) (fun _ => rfl) fun a dd => ?_
  walk_at "m"
  exact leave_same q
theorem told_cell {k : Nat} {fds : List (Str × Da)} (h : M[k]? = some (.obj "Strengths" fds)) (q : Q (.lst [.str "text", .cell k]) M) : f_law_told [.cell k] M Q E := by
  unfold f_law_told m_law_told
  walk_at "m1"
  intro cM _
  walk_at "m"
  refine read_cell h ?_
  refine mMix_hit (by decide +kernel) (fun _ => rfl) fun a dd => ?_
  walk_at "m"
  exact leave_same q
theorem eqF_ok {x y : Da} {ps2 : List (Str × Str)} (hx : frz 0 4 M x = some (stgO ms ps)) (hy : frz 0 4 M y = some (stgO ms ps2)) (h : sameB ms ps ps2) (q : Q (.bl true) M) : nEqOF "Strengths" [0, 1] f_Strengths_eq [] x y M Q := by
  refine ⟨_, _, hx, hy, ?_⟩
  refine eqS_ok (ms := ms) (ps := ps) (ms2 := ms) (ps2 := ps2) ⟨rfl, _, rfl, ?_⟩
  rw [eq_iff.2 h]
  exact q
theorem cell_frz {k : Nat} (h : M[k]? = some (stgO ms ps)) : frz 0 4 M (.cell k) = some (stgO ms ps) := frz_cellO h (Nat.zero_le _) (stg_clo 0 ms ps)
theorem clo2 {m : Nat} (B : BoxD n b) : cloL m [b, stgO ms ps] = true := by
  unfold cloL cloL cloL
  rw [B.clo]
  have := stg_clo m ms ps
  unfold stgO cloD
  rw [this]
  rfl
theorem rdM_len (h : rdM z = some (ms, ps)) : ps.length ≤ 5000 + z.length := by
  unfold rdM at h
  split at h
  · split at h
    · cases h
      exact Nat.zero_le _
    · cases h
  · rename_i h0 t0 e0
    have l0 := (split_bd sepC z).2.1 t0 (by rw [e0]; simp)
    have l1 := (split_bd sepB t0).1
    split at h
    · cases e2 : rdP (wrd h0) (prs t0) with
      | none => rw [e2] at h; cases h
      | some r =>
        rw [e2] at h
        cases h
        have l2 := (rdP_some e2).2.2
        unfold prs wrd at l2
        rw [List.length_map] at l2
        omega
    · cases h
  · cases h
theorem pl5 (e : rdT z = some (ms, ps)) : ps.length ≤ 5000 + z.length := by
  unfold rdT at e
  split at e
  · rename_i e1
    split at e
    · cases e
      exact rdM_len e1
    · cases e
  · cases e
theorem l2_ok {s7 s8 s9 s10 : Option Da} {s3 : Option Da} {j : Int} (B : BoxD n b) (hn : n ≤ 90000) (lz : z.length ≤ 3000)
    (h : ∀ s7 s8 s9 b', BoxD (n + 6) b' → D.nx [some (.kl (ns.map Da.int)), some (.int i), some (.cell 0), s3, some (.cell 1), some (.str z), some (.int j), s7, s8, s9, s10] [b', stgO ms ps]) :
    l_law_2 D [some (.kl (ns.map Da.int)), some (.int i), some (.cell 0), s3, some (.cell 1), some (.str z), some (.int j), s7, s8, s9, s10] [b, stgO ms ps] := by
  unfold l_law_2
  refine seq_hide fun N hN => ?_
  have go : ∀ y b', BoxD (n + 6) b' → y.length ≤ 3200 → N [some (.kl (ns.map Da.int)), some (.int i), some (.cell 0), s3, some (.cell 1), some (.str z), some (.int j), some (.str y), s8, s9, s10] [b', stgO ms ps] := fun y b1 B1 ly => hN _ _ (by
    clear hN
    unfold b_law_L2_1
    refine seq_hide fun N hN => ?_
    walk_at "m"
    refine law_read_ok (by omega) (hN _ _ ?_)
    clear hN
    unfold b_law_L2_2
    refine seq_hide fun N hN => ?_
    walk_at "m"
    refine told_go (by omega) (fun ms1 ps1 e => ?_) (fun e => ?_)
    · obtain ⟨mo, pr, es⟩ := rdT_ok e
      refine hN _ _ ?_
      clear hN
      simp only [e]
      unfold b_law_L2_3
      refine seq_hide fun N hN => ?_
      unfold modelD
      walk_at "m"
      refine hN _ _ ?_
      clear hN
      unfold b_law_L2_4
      refine seq_hide fun N hN => ?_
      walk_at "m"
      refine strF_ok mo stg_frz ?_
      rw [es]
      walk_at "m"
      refine hN _ _ ?_
      clear hN
      unfold b_law_L2_5
      walk_at "m"
      refine mkS_ok (clo2 B1) mo pr (by have := pl5 e; omega) ?_
      refine eqF_ok (ms := ms1) (ps := ps1) (ps2 := ps1) stg_frz stg_frz (fun _ _ _ _ => rfl) ?_
      walk_at "m"
      exact h _ _ _ _ B1
    · refine hN _ _ ?_
      clear hN
      simp only [e]
      unfold b_law_L2_3
      refine seq_hide fun N hN => ?_
      walk_at "m"
      refine hN _ _ ?_
      clear hN
      unfold b_law_L2_4
      refine seq_hide fun N hN => ?_
      walk_at "m"
      refine hN _ _ ?_
      clear hN
      unfold b_law_L2_5
      walk_at "m"
      exact h _ _ _ _ B1)
  clear hN
  walk_at "m"
  exact ite2 (fun _ => law_bent_ok (R := [stgO ms ps]) B (by omega) (by omega) fun y b' B' ly => go y b' (B'.mono (by omega)) (by omega))
    (fun _ => law_bent_ok (R := [stgO ms ps]) B (by omega) (by omega) fun y b1 B1 ly => law_bent_ok (R := [stgO ms ps]) B1 (by omega) (by omega) fun y2 b2 B2 ly2 => go y2 b2 (B2.mono (by omega)) (by omega))
/-- the odd values -/
inductive Odd (z : Str) : Da → Prop
  | pl {d : Da} : plD d = true → (∀ x, d ≠ .str x) → plE d = true → dpE d ≤ 50 → Odd z d
  | dct : Odd z (.dct [])
  | text {y : Str} : y.length ≤ 100 → rdT y = none → Odd z (.str y)
  | cell : Odd z (.cell 1)
theorem odd_ne {d : Da} (o : Odd z d) {Q : TK} (q : Q (.bl false) M) : nNeX (.lst [.str "text", d]) (.lst [.str "text", d]) M Q := by
  cases o with
  | pl h1 h2 h3 h4 => exact .inl (nNeE_same (by unfold plE plEL plEL plEL; rw [h3]; rfl) (by simp only [dpE, dpEL]; omega) q)
  | dct => exact .inl (nNeE_same rfl (by simp [dpE, dpEL, dpEK]) q)
  | text _ _ => exact .inl (nNeE_same rfl (by simp [dpE, dpEL]) q)
  | cell => exact .inr ⟨[.str "text", .cell 1], rfl, rfl, rfl, q⟩
theorem odd_told {d : Da} (o : Odd z d) (q : Q (.lst [.str "text", d]) [b, stgO ms ps]) : f_law_told [d] [b, stgO ms ps] Q E := by
  cases o with
  | pl h1 h2 _ _ => exact told_odd (fun q => read_odd h1 h2 q) q
  | dct => exact told_odd (fun q => read_dct q) q
  | text h1 h2 => exact told_go (by omega) (fun ms ps e => by rw [h2] at e; cases e) (fun _ => q)
  | cell => exact told_cell (fds := [("own_modes", .tup (ms.map Da.str)), ("against", .dct (agD ms ps))]) rfl q
theorem odd_at (z : Str) {d : Int} (h0 : 0 ≤ d) (h1 : d < 10) : ∃ v, atI [Da.non, .int 5, .bl true, .lst [.str z], .str "", .str " ", .cell 1, .dct [], .str ": a!a", .str "a a"] d = some v ∧ Odd z v := by
  have : d = 0 ∨ d = 1 ∨ d = 2 ∨ d = 3 ∨ d = 4 ∨ d = 5 ∨ d = 6 ∨ d = 7 ∨ d = 8 ∨ d = 9 := by omega
  rcases this with rfl | rfl | rfl | rfl | rfl | rfl | rfl | rfl | rfl | rfl
  · exact ⟨_, rfl, .pl rfl (fun _ e => by cases e) rfl (by simp [dpE])⟩
  · exact ⟨_, rfl, .pl rfl (fun _ e => by cases e) rfl (by simp [dpE])⟩
  · exact ⟨_, rfl, .pl rfl (fun _ e => by cases e) rfl (by simp [dpE])⟩
  · exact ⟨_, rfl, .pl rfl (fun _ e => by cases e) rfl (by simp [dpE, dpEL])⟩
  · exact ⟨_, rfl, .text (by decide +kernel) (by decide +kernel)⟩
  · exact ⟨_, rfl, .text (by decide +kernel) (by decide +kernel)⟩
  · exact ⟨_, rfl, .cell⟩
  · exact ⟨_, rfl, .dct⟩
  · exact ⟨_, rfl, .text (by decide +kernel) (by decide +kernel)⟩
  · exact ⟨_, rfl, .text (by decide +kernel) (by decide +kernel)⟩
theorem mkS_cell (h : Mo ms) (hp : Pr ms ps) (hl : ps.length ≤ 100000) (q : Q (.cell M.length) (M ++ [stgO ms ps])) : mMakeE "Strengths" [0, 1, 2] f_Strengths_init [] [.lst (ms.map Da.str), .lst (ps.map prD)] [] M Q E := by
  unfold mMakeE
  exact init_ok (.tree _ _) (.tree _ _) h hp hl ⟨rfl, leave_same q⟩
theorem iteF' {P Q : Prop} (h : Q) : if true = false then P else Q := by rw [if_neg (by simp)]; exact h
theorem l1_ok {s2 s3 s4 s5 s6 s7 s8 s9 s10 : Option Da} (i0 : 0 ≤ i) (i1 : i < 64) (h : ∀ s2 s3 s4 s5 s6 s7 s8 s9 s10 M, D.nx [some (.kl (ns.map Da.int)), some (.int i), s2, s3, s4, s5, s6, s7, s8, s9, s10] M) : l_law_1 D [some (.kl (ns.map Da.int)), some (.int i), s2, s3, s4, s5, s6, s7, s8, s9, s10] [] := by
  unfold l_law_1
  refine seq_hide fun N hN => ?_
  walk_at "m"
  refine cell_ok i0 (by omega) fun c => ?_
  walk_at "m"
  refine box_ok fun b B => ?_
  refine hN _ _ ?_
  clear hN
  unfold b_law_L1_1
  refine seq_hide fun N hN => ?_
  walk_at "m"
  refine law_modes_ok (R := []) B (by decide) fun ms ps b1 B1 mo hg hp hl => ?_
  refine hN _ _ ?_
  clear hN
  have h8 := mo.n8
  unfold b_law_L1_2
  refine seq_hide fun N hN => ?_
  unfold modelD
  walk_at "m"
  refine mkS_cell mo hp (by omega) ?_
  refine law_text_ok (ms := ms) (ps := ps) mo ?_
  walk_at "m"
  refine hN _ _ ?_
  clear hN
  unfold b_law_L1_3
  refine seq_hide fun N hN => ?_
  refine if_hide fun T U hT hU => ?_
  clear hT
  walk_at "m"
  refine strF_ok mo (cell_frz rfl) ?_
  walk_at "m"
  refine read_go (by have := stS_len (ps := ps) mo; omega) (fun ms1 ps1 e => ?_) (fun e => by rw [back mo] at e; cases e)
  rw [back mo] at e
  cases e
  refine eqF_ok stg_frz (cell_frz rfl) (cl_same ms ps) ?_
  walk_at "m"
  refine hU _ (next_run (hN _ _ ?_))
  clear hN hU
  have lz := stS_len (ps := ps) mo
  generalize stS ms ps = z at lz
  unfold b_law_L1_4
  refine seq_hide fun N hN => ?_
  walk_at "m"
  obtain ⟨c, hc, B1⟩ : ∃ c, c ≤ 1000 ∧ BoxD c b1 := ⟨_, by decide, B1⟩
  refine ⟨by decide, by decide, ?_⟩
  refine forL_ind (fun k ρ M => ∃ b' s6 s7 s8 s9, BoxD (c + 6 * k) b' ∧ M = [b', stgO ms ps] ∧ ρ = [some (.kl (ns.map Da.int)), some (.int i), some (.cell 0), some (.lst [.lst (ms.map Da.str), .lst (ps.map prD)]), some (.cell 1), some (.str z), s6, s7, s8, s9, s10]) ⟨b1, _, _, _, _, B1, rfl, rfl⟩ ?_ ?_
  · rintro k d _ _ ek ⟨b', s6, s7, s8, s9, B', rfl, rfl⟩ C hC
    obtain ⟨hk, rfl⟩ := rngD_at ek
    walk_at "m"
    exact l2_ok B' (by omega) (by omega) fun s7 s8 s9 b2 B2 => hC _ _ _ _ .same trivial ⟨b2, _, _, _, _, B2.mono (by omega), rfl, rfl⟩
  · rintro _ _ ⟨b2, s6, s7, s8, s9, B2, rfl, rfl⟩
    rw [rngD_len] at B2
    refine hN _ _ ?_
    clear hN
    unfold b_law_L1_5
    refine seq_hide fun N hN => ?_
    walk_at "m"
    refine take_ok (R := [stgO ms ps]) B2 (by omega) (by decide) (by decide +kernel) fun dI b3 B3 d0 d1 => ?_
    obtain ⟨v, ev, ov⟩ := odd_at z d0 d1
    simp only [ev]
    refine hN _ _ ?_
    clear hN
    unfold b_law_L1_6
    walk_at "m"
    refine odd_told ov ?_
    refine odd_ne ov ?_
    walk_at "m"
    exact h _ _ _ _ _ _ _ _ _ _
end
end Z

/-! k18: all cells -/
namespace Z
open PySem PySem.Spec PyProof.Rows L2 Evl
theorem law_true : ∀ ns : List Int, ns.length ≤ 63 → f_law [.kl (ns.map Da.int)] [] (fun d _ => d = .bl true) XD0 := by
  intro ns hns
  unfold f_law m_law
  walk_at "m1"
  intro _ cD
  have cloKl : cloD 0 (.kl (ns.map Da.int)) = true := by
    unfold cloL at cD
    rw [Bool.and_eq_true] at cD
    exact cD.1
  walk_at "m"
  rw [List.length_map]
  refine ⟨?_, ?_, ?_⟩
  · split <;> (try split) <;> omega
  · split <;> (try split) <;> omega
  refine forL_ind (fun k ρ M => M = [] ∧ ∃ s1 s2 s3 s4 s5 s6 s7 s8 s9 s10, ρ = [some (.kl (ns.map Da.int)), s1, s2, s3, s4, s5, s6, s7, s8, s9, s10]) ⟨rfl, _, _, _, _, _, _, _, _, _, _, rfl⟩ ?_ ?_
  · rintro k d _ _ he ⟨rfl, s1, s2, s3, s4, s5, s6, s7, s8, s9, s10, rfl⟩ C hC
    obtain ⟨hk, rfl⟩ := rngD_at he
    walk_at "m"
    refine l1_ok (by omega) ?_ fun s2 s3 s4 s5 s6 s7 s8 s9 s10 M => ?_
    · have hk2 := hk
      split at hk2
      · split at hk2 <;> omega
      · omega
    · refine hC _ _ [some (.kl (ns.map Da.int)), none, none, none, none, none, none, none, none, none, none] [] (.inr ⟨Nat.zero_le _, rfl, rfl, ?_⟩) trivial ⟨rfl, _, _, _, _, _, _, _, _, _, _, rfl⟩
      refine ⟨rfl, ?_⟩
      rintro (_ | j) d e
      · cases e
        exact ⟨rfl, cloKl⟩
      · rw [List.getElem?_cons_succ] at e
        have e := List.mem_of_getElem? e
        simp at e
  · rintro _ _ ⟨rfl, s1, s2, s3, s4, s5, s6, s7, s8, s9, s10, rfl⟩
    unfold b_law_1
    walk_at "m"
    exact leave_same rfl
end Z

namespace Z
open PySem PySem.Spec PyProof.Rows L2 Evl
/-! ### the text by places, derivations (gen.py) -/
structure Txt (P : Program) (w : World) (K : PySem.W.Frag) (mg : Str → Option Value) : Prop where
  b_all : mg "all" = none
  b_enumerate : mg "enumerate" = none
  b_isinstance : mg "isinstance" = none
  b_len : mg "len" = none
  b_list : mg "list" = none
  b_max : mg "max" = none
  b_min : mg "min" = none
  b_range : mg "range" = none
  b_str : mg "str" = none
  b_super : mg "super" = none
  b_tuple : mg "tuple" = none
  g_Duplicate : mg "Duplicate" = some (.ref (He.ga K "Duplicate"))
  g_InvalidClash : mg "InvalidClash" = some (.ref (He.ga K "InvalidClash"))
  g_InvalidModes : mg "InvalidModes" = some (.ref (He.ga K "InvalidModes"))
  g_InvalidName : mg "InvalidName" = some (.ref (He.ga K "InvalidName"))
  g_InvalidStrengths : mg "InvalidStrengths" = some (.ref (He.ga K "InvalidStrengths"))
  g_InvalidText : mg "InvalidText" = some (.ref (He.ga K "InvalidText"))
  c_LETTERS : ∃ t, mg "LETTERS" = some (.str "abcdefghijklmnopqrstuvwxyz" t)
  c_MOST_LETTERS : ∃ t, mg "MOST_LETTERS" = some (.int 8 t)
  c_MOST_MODES : ∃ t, mg "MOST_MODES" = some (.int 8 t)
  c_MOST_SIGNS : ∃ t, mg "MOST_SIGNS" = some (.int 4000 t)
  g_PartsError : mg "PartsError" = some (.ref (He.ga K "PartsError"))
  c_SIGN : ∃ t, mg "SIGN" = some (.str "!" t)
  g_Strengths : mg "Strengths" = some (.ref (He.ga K "Strengths"))
  c_TABLE : ∃ t, mg "TABLE" = some (.str "table" t)
  g_UnknownMode : mg "UnknownMode" = some (.ref (He.ga K "UnknownMode"))
  cl_Strengths : Cls K (He.ga K "Strengths")
  mk_Strengths : Mk K (He.ga K "Strengths") (He.ma K (He.ga K "Strengths") "__init__")
  me_Strengths_eq : Meth K (He.ga K "Strengths") "__eq__" (He.ma K (He.ga K "Strengths") "__eq__")
  me_Strengths_str : Meth K (He.ga K "Strengths") "__str__" (He.ma K (He.ga K "Strengths") "__str__")
  me_Strengths_clashes : Meth K (He.ga K "Strengths") "clashes" (He.ma K (He.ga K "Strengths") "clashes")
  me_Strengths_need : Meth K (He.ga K "Strengths") "need" (He.ma K (He.ga K "Strengths") "need")
  cld : ClD K
  x_Duplicate : PySem.Sxname.Txt P K mg "Duplicate" (He.ga K "Duplicate") (He.ma K (He.ga K "Duplicate") "__init__")
  x_InvalidClash : PySem.Sxvalue.Txt P K mg "InvalidClash" (He.ga K "InvalidClash") (He.ma K (He.ga K "InvalidClash") "__init__")
  x_InvalidModes : PySem.Sxvalue.Txt P K mg "InvalidModes" (He.ga K "InvalidModes") (He.ma K (He.ga K "InvalidModes") "__init__")
  x_InvalidName : PySem.Sxvalue.Txt P K mg "InvalidName" (He.ga K "InvalidName") (He.ma K (He.ga K "InvalidName") "__init__")
  x_InvalidStrengths : PySem.Sxvalue.Txt P K mg "InvalidStrengths" (He.ga K "InvalidStrengths") (He.ma K (He.ga K "InvalidStrengths") "__init__")
  x_InvalidText : PySem.Sxvalue.Txt P K mg "InvalidText" (He.ga K "InvalidText") (He.ma K (He.ga K "InvalidText") "__init__")
  x_UnknownMode : PySem.Sxname.Txt P K mg "UnknownMode" (He.ga K "UnknownMode") (He.ma K (He.ga K "UnknownMode") "__init__")
  xf_InvalidText : XfC K (He.ga K "InvalidText")
  na_InvalidText_value : PySem.W.findIn K (.ref (He.ga K "InvalidText")) "value" = some none
  exm : Exm K
section
variable {P : Program} {w : World} {K : PySem.W.Frag} {mg : Str → Option Value} {base : Heap}
theorem sc_is_name : FnScope ["value", "sign"] ["value"] (defScope s_is_name) := ⟨rfl, rfl, rfl, by decide +kernel, rfl, by decide +kernel, by decide +kernel⟩
theorem okf_is_name {fd : FuncData} (T : Txt P w K mg) (F : FunD K "is_name" "is_name" (defArgs s_is_name) (defBody s_is_name) (defScope s_is_name) [] [] (He.ga K "is_name") fd)   : FnOk P w K mg base CX0 1 (He.ga K "is_name") fd ["value"] (sp_is_name K) := by
  have nd := sc_is_name.nd
  refine F.ok (k := 0) sc_is_name (len_is_name K) (fun cdv A outer s H vs Q E hr h => ⟨t_is_name K, PSs.nox ?_, pure_is_name K vs H Q E h⟩)
  have hu : (A.deeper (envOfC "is_name" (defScope s_is_name) s.heap.objs.size (He.ga K "is_name") cdv)).units + 64 < cLine := by
    have h1 := hr.un
    omega
  skip
  exact (pss_cons (ps_if (PW.pt (pw_or (pt_not (pt_val (pe_callB call_isi (by rfl) T.b_isinstance (by decide +kernel) (pa_cons (pv 0) (pa_cons (pe_bltn (by rfl) T.b_str (by decide +kernel) rfl) pa_nil))))) (pw_or (pt_cmpR (op_eqA hu) (pv 0) (pe_gstr (by rfl) T.c_TABLE) (nomark _)) (pw_or1 (pt_not (pt_chain op_leA op_leA (pe_int) (pe_callB call_lenB (by rfl) T.b_len (by decide +kernel) (pa_cons (pv 0) pa_nil)) (pe_gint (by rfl) T.c_MOST_LETTERS))))))) (pss_one (ps_ret (pe_bl))) pss_nil)
    (pss_one (ps_ret (pe_callB (cr_all rfl) (by rfl) T.b_all (by decide +kernel) (pa_cons (pe_lc (own := [("sign", 1)]) rfl nd (pi_seq (pv 0)) (blkOk_by (own := [("sign", 1)]) (N := ["value", "sign"]) (sc := defScope s_is_name) (by decide +kernel)) (fun _ _ _ _ _ => (pg_name (i := 1) nd (by rfl) (by first | exact Or.inl rfl | exact Or.inr rfl))) (fun _ _ _ _ _ => pts_nil) (fun _ _ _ _ _ => (pe_cmpR (op_inB hu) (pv 1) (pe_gstr (by rfl) T.c_LETTERS) (by rfl)))) pa_nil)))))
theorem ok_is_name (T : Txt P w K mg) (FD : ∃ fd, FunD K "is_name" "is_name" (defArgs s_is_name) (defBody s_is_name) (defScope s_is_name) [] [] (He.ga K "is_name") fd) (hm : mg "is_name" = some (.ref (He.ga K "is_name")))   : Fok P w K mg base CX0 1 "is_name" ["value"] (sp_is_name K) := by
  obtain ⟨fd, F⟩ := FD
  exact ⟨⟨fd, okf_is_name T F  , F.bindsN fun _ _ _ _ _ _ us hl => match us, hl with | [_], _ => rfl⟩, hm, F.kp⟩
theorem sc_need_modes : FnScope ["modes", "at", "name"] ["modes"] (defScope s_need_modes) := ⟨rfl, rfl, rfl, by decide +kernel, rfl, by decide +kernel, by decide +kernel⟩
theorem okf_need_modes {fd : FuncData} (T : Txt P w K mg) (F : FunD K "need_modes" "need_modes" (defArgs s_need_modes) (defBody s_need_modes) (defScope s_need_modes) [] [] (He.ga K "need_modes") fd) (F_is_name : Fok P w K mg base CX0 1 "is_name" ["value"] (sp_is_name K))  : FnOk P w K mg base (L2N.CX P w) 2 (He.ga K "need_modes") fd ["modes"] (sp_need_modes K) := by
  have nd := sc_need_modes.nd
  refine F.ok (k := 1) sc_need_modes (len_need_modes K) (fun cdv A outer s H vs Q E hr h => ⟨t_need_modes K E, ?_, pure_need_modes K vs H Q E h⟩)
  have hu : (A.deeper (envOfC "need_modes" (defScope s_need_modes) s.heap.objs.size (He.ga K "need_modes") cdv)).units + 64 < cLine := by
    have h1 := hr.un
    omega
  unfold t_need_modes tw_need_modes
  exact (pss_cons (ps_if (pt_not (pt_val (pe_callB call_isi (by rfl) T.b_isinstance (by decide +kernel) (pa_cons (pv 0) (pa_cons (pe_bltn (by rfl) T.b_list (by decide +kernel) rfl) pa_nil))))) (pss_one (ps_raiseNvalue (k := 1) rfl T.x_InvalidModes (hr.mono (by decide)) (L2N.takes_of rfl rfl rfl rfl) (pa_cons (pv 0) pa_nil) (by rfl))) pss_nil)
    (pss_cons (ps_for (passes_of rfl) rfl (pi_enumA (by rfl) T.b_enumerate (pa_cons (pv 0) pa_nil)) (pg_tup (by rfl) (pgs_cons (pg_name (i := 1) nd (by rfl) (by first | exact Or.inl rfl | exact Or.inr rfl)) (pgs_cons (pg_name (i := 2) nd (by rfl) (by first | exact Or.inl rfl | exact Or.inr rfl)) pgs_nil))) (pss_cons (ps_if (pt_not (pt_val (pe_callF F_is_name (hr.mono (by decide)) (by rfl) pass0 (pa_cons (pv 2) pa_nil)))) (pss_one (ps_raiseNvalue (k := 1) rfl T.x_InvalidName (hr.mono (by decide)) (L2N.takes_of rfl rfl rfl rfl) (pa_cons (pv 2) pa_nil) (by rfl))) pss_nil)
    (pss_one (ps_if (pt_cmpR (op_inB hu) (pv 2) (pe_slice sl_A (pv 0) po_none (po_some (pv 1))) (by rfl)) (pss_one (ps_raiseNname (k := 1) rfl T.x_Duplicate (hr.mono (by decide)) (L2N.takes_of rfl rfl rfl rfl) (pa_cons (pv 2) pa_nil) (by rfl))) pss_nil))))
    (pss_one (ps_if (pt_not (pt_chain op_leA op_leA (pe_int) (pe_callB call_lenB (by rfl) T.b_len (by decide +kernel) (pa_cons (pv 0) pa_nil)) (pe_gint (by rfl) T.c_MOST_MODES))) (pss_one (ps_raiseNvalue (k := 1) rfl T.x_InvalidModes (hr.mono (by decide)) (L2N.takes_of rfl rfl rfl rfl) (pa_cons (pv 0) pa_nil) (by rfl))) pss_nil))))
theorem ok_need_modes (T : Txt P w K mg) (FD : ∃ fd, FunD K "need_modes" "need_modes" (defArgs s_need_modes) (defBody s_need_modes) (defScope s_need_modes) [] [] (He.ga K "need_modes") fd) (hm : mg "need_modes" = some (.ref (He.ga K "need_modes"))) (F_is_name : Fok P w K mg base CX0 1 "is_name" ["value"] (sp_is_name K))  : Fok P w K mg base (L2N.CX P w) 2 "need_modes" ["modes"] (sp_need_modes K) := by
  obtain ⟨fd, F⟩ := FD
  exact ⟨⟨fd, okf_need_modes T F F_is_name , F.bindsN fun _ _ _ _ _ _ us hl => match us, hl with | [_], _ => rfl⟩, hm, F.kp⟩
theorem sc_need_clashes : FnScope ["modes", "clashes", "item", "name"] ["modes", "clashes"] (defScope s_need_clashes) := ⟨rfl, rfl, rfl, by decide +kernel, rfl, by decide +kernel, by decide +kernel⟩
theorem okf_need_clashes {fd : FuncData} (T : Txt P w K mg) (F : FunD K "need_clashes" "need_clashes" (defArgs s_need_clashes) (defBody s_need_clashes) (defScope s_need_clashes) [] [] (He.ga K "need_clashes") fd)   : FnOk P w K mg base (L2N.CX P w) 2 (He.ga K "need_clashes") fd ["modes", "clashes"] (sp_need_clashes K) := by
  have nd := sc_need_clashes.nd
  refine F.ok (k := 1) sc_need_clashes (len_need_clashes K) (fun cdv A outer s H vs Q E hr h => ⟨t_need_clashes K E, ?_, pure_need_clashes K vs H Q E h⟩)
  have hu : (A.deeper (envOfC "need_clashes" (defScope s_need_clashes) s.heap.objs.size (He.ga K "need_clashes") cdv)).units + 64 < cLine := by
    have h1 := hr.un
    omega
  unfold t_need_clashes tw_need_clashes
  exact (pss_cons (ps_if (pt_not (pt_val (pe_callB call_isi (by rfl) T.b_isinstance (by decide +kernel) (pa_cons (pv 1) (pa_cons (pe_bltn (by rfl) T.b_list (by decide +kernel) rfl) pa_nil))))) (pss_one (ps_raiseNvalue (k := 1) rfl T.x_InvalidStrengths (hr.mono (by decide)) (L2N.takes_of rfl rfl rfl rfl) (pa_cons (pv 1) pa_nil) (by rfl))) pss_nil)
    (pss_one (ps_for (passes_of rfl) rfl (pi_seq (pv 1)) (pg_name (i := 2) nd (by rfl) (by first | exact Or.inl rfl | exact Or.inr rfl)) (pss_cons (ps_if (PW.pt (pw_or (pt_not (pt_val (pe_callB call_isi (by rfl) T.b_isinstance (by decide +kernel) (pa_cons (pv 2) (pa_cons (pe_bltn (by rfl) T.b_tuple (by decide +kernel) rfl) pa_nil))))) (pw_or1 (pt_cmpR (op_neA hu) (pe_callB call_lenB (by rfl) T.b_len (by decide +kernel) (pa_cons (pv 2) pa_nil)) (pe_int) (nomark _))))) (pss_one (ps_raiseNvalue (k := 1) rfl T.x_InvalidClash (hr.mono (by decide)) (L2N.takes_of rfl rfl rfl rfl) (pa_cons (pv 2) pa_nil) (by rfl))) pss_nil)
    (pss_one (ps_for (passes_of rfl) rfl (pi_seq (pv 2)) (pg_name (i := 3) nd (by rfl) (by first | exact Or.inl rfl | exact Or.inr rfl)) (pss_one (ps_if (pt_cmpR (op_ninB hu) (pv 3) (pv 0) (by rfl)) (pss_one (ps_raiseNname (k := 1) rfl T.x_UnknownMode (hr.mono (by decide)) (L2N.takes_of rfl rfl rfl rfl) (pa_cons (pv 3) pa_nil) (by rfl))) pss_nil))))))))
theorem ok_need_clashes (T : Txt P w K mg) (FD : ∃ fd, FunD K "need_clashes" "need_clashes" (defArgs s_need_clashes) (defBody s_need_clashes) (defScope s_need_clashes) [] [] (He.ga K "need_clashes") fd) (hm : mg "need_clashes" = some (.ref (He.ga K "need_clashes")))   : Fok P w K mg base (L2N.CX P w) 2 "need_clashes" ["modes", "clashes"] (sp_need_clashes K) := by
  obtain ⟨fd, F⟩ := FD
  exact ⟨⟨fd, okf_need_clashes T F  , F.bindsN fun _ _ _ _ _ _ us hl => match us, hl with | [_, _], _ => rfl⟩, hm, F.kp⟩
theorem sc_Strengths_init : FnScope ["self", "modes", "clashes", "both", "one", "other", "name"] ["self", "modes", "clashes"] (defScope s_Strengths_init) := ⟨rfl, rfl, rfl, by decide +kernel, rfl, by decide +kernel, by decide +kernel⟩
theorem okf_Strengths_init {fd : FuncData} (T : Txt P w K mg) (F : FunD K "__init__" "Strengths.__init__" (defArgs s_Strengths_init) (defBody s_Strengths_init) (defScope s_Strengths_init) [] [] (He.ma K (He.ga K "Strengths") "__init__") fd) (F_need_modes : Fok P w K mg base (L2N.CX P w) 2 "need_modes" ["modes"] (sp_need_modes K)) (F_need_clashes : Fok P w K mg base (L2N.CX P w) 2 "need_clashes" ["modes", "clashes"] (sp_need_clashes K))  : FnOk P w K mg base (L2N.CX P w) 3 (He.ma K (He.ga K "Strengths") "__init__") fd ["self", "modes", "clashes"] (sp_Strengths_init K) := by
  have nd := sc_Strengths_init.nd
  refine F.ok (k := 2) sc_Strengths_init (len_Strengths_init K) (fun cdv A outer s H vs Q E hr h => ⟨t_Strengths_init K E, ?_, pure_Strengths_init K vs H Q E T.cld h⟩)
  have hu : (A.deeper (envOfC "Strengths.__init__" (defScope s_Strengths_init) s.heap.objs.size (He.ma K (He.ga K "Strengths") "__init__") cdv)).units + 64 < cLine := by
    have h1 := hr.un
    omega
  unfold t_Strengths_init tw_Strengths_init
  exact (pss_cons (ps_expr (pe_callGN F_need_modes (hr.mono (by decide)) (by rfl) (L2N.takes_of rfl rfl rfl rfl) (pa_cons (pv 1) pa_nil)))
    (pss_cons (ps_expr (pe_callGN F_need_clashes (hr.mono (by decide)) (by rfl) (L2N.takes_of rfl rfl rfl rfl) (pa_cons (pv 1) (pa_cons (pv 2) pa_nil))))
    (pss_cons (ps_fld (pv 0) (pe_callTy call_tupA (by rfl) T.b_tuple (by decide +kernel) (pa_cons (pv 1) pa_nil)) (by rfl))
    (pss_cons (ps_set (i := 3) nd (by rfl) (Or.inr rfl) (pe_lst (pa_starA rfl (pv 2) (pa_starA rfl (pe_lc (own := [("one", 4), ("other", 5)]) rfl nd (pi_seq (pv 2)) (blkOk_by (own := [("one", 4), ("other", 5)]) (N := ["self", "modes", "clashes", "both", "one", "other", "name"]) (sc := defScope s_Strengths_init) (by decide +kernel)) (fun _ _ _ _ _ => (pg_tup (by rfl) (pgs_cons (pg_name (i := 4) nd (by rfl) (by first | exact Or.inl rfl | exact Or.inr rfl)) (pgs_cons (pg_name (i := 5) nd (by rfl) (by first | exact Or.inl rfl | exact Or.inr rfl)) pgs_nil)))) (fun _ _ _ _ _ => pts_nil) (fun _ _ _ _ _ => (pe_tup (pa_cons (pv 5) (pa_cons (pv 4) pa_nil))))) pa_nil))))
    (pss_one (ps_fld (pv 0) (pe_dc (own := [("name", 6)]) rfl nd (pi_seq (pv 1)) (blkOk_by (own := [("name", 6)]) (N := ["self", "modes", "clashes", "both", "one", "other", "name"]) (sc := defScope s_Strengths_init) (by decide +kernel)) (fun _ _ _ _ _ => (pg_name (i := 6) nd (by rfl) (by first | exact Or.inl rfl | exact Or.inr rfl))) (fun _ _ _ _ _ => pts_nil) (fun _ _ _ _ _ => (pv 6)) (fun _ _ _ _ _ => (pe_callTy call_tupA (by rfl) T.b_tuple (by decide +kernel) (pa_cons (pe_lc (own := [("other", 5)]) rfl nd (pi_seq (pv 1)) (blkOk_by (own := [("other", 5)]) (by kernel_rfl)) (fun _ _ _ _ _ => (pg_name (i := 5) nd (by rfl) (by first | exact Or.inl rfl | exact Or.inr rfl))) (fun _ _ _ _ _ => (pts_one (pt_cmpR (op_inB hu) (pe_tup (pa_cons (pv 6) (pa_cons (pv 5) pa_nil))) (pv 3) (by rfl)))) (fun _ _ _ _ _ => (pv 5))) pa_nil)))) (by rfl)))))))
theorem okmG_Strengths_init_2_ (T : Txt P w K mg) (FD : ∃ fd, FunD K "__init__" "Strengths.__init__" (defArgs s_Strengths_init) (defBody s_Strengths_init) (defScope s_Strengths_init) [] [] (He.ma K (He.ga K "Strengths") "__init__") fd) (F_need_modes : Fok P w K mg base (L2N.CX P w) 2 "need_modes" ["modes"] (sp_need_modes K)) (F_need_clashes : Fok P w K mg base (L2N.CX P w) 2 "need_clashes" ["modes", "clashes"] (sp_need_clashes K))  : FokM P w K mg base (L2N.CX P w) 3 "Strengths" "__init__" ["self", "modes", "clashes"] (sp_Strengths_init K) 2 [] [] [0, 1, 2] := by
  obtain ⟨fd, F⟩ := FD
  exact ⟨⟨fd, [], .nil, okf_Strengths_init T F F_need_modes F_need_clashes , mbinds F fun _ _ _ _ _ _ us ws h1 h2 => match us, ws, h1, h2 with | [_, _, _], [], _, _ => rfl⟩⟩
theorem sc_Strengths_modes : FnScope ["self"] ["self"] (defScope s_Strengths_modes) := ⟨rfl, rfl, rfl, by decide +kernel, rfl, by decide +kernel, by decide +kernel⟩
theorem okf_Strengths_modes {fd : FuncData} (T : Txt P w K mg) (F : FunD K "modes" "Strengths.modes" (defArgs s_Strengths_modes) (defBody s_Strengths_modes) (defScope s_Strengths_modes) [] [] (He.ma K (He.ga K "Strengths") "modes") fd)   : FnOk P w K mg base CX0 1 (He.ma K (He.ga K "Strengths") "modes") fd ["self"] (sp_Strengths_modes K) := by
  have nd := sc_Strengths_modes.nd
  refine F.ok (k := 0) sc_Strengths_modes (len_Strengths_modes K) (fun cdv A outer s H vs Q E hr h => ⟨t_Strengths_modes K, PSs.nox ?_, pure_Strengths_modes K vs H Q E T.cld h⟩)
  have hu : (A.deeper (envOfC "Strengths.modes" (defScope s_Strengths_modes) s.heap.objs.size (He.ma K (He.ga K "Strengths") "modes") cdv)).units + 64 < cLine := by
    have h1 := hr.un
    omega
  skip
  exact (pss_one (ps_ret (pe_callTy call_listA (by rfl) T.b_list (by decide +kernel) (pa_cons (pe_fld (pv 0) (by rfl)) pa_nil))))
theorem sc_Strengths_need : FnScope ["self", "mode"] ["self", "mode"] (defScope s_Strengths_need) := ⟨rfl, rfl, rfl, by decide +kernel, rfl, by decide +kernel, by decide +kernel⟩
theorem okf_Strengths_need {fd : FuncData} (T : Txt P w K mg) (F : FunD K "need" "Strengths.need" (defArgs s_Strengths_need) (defBody s_Strengths_need) (defScope s_Strengths_need) [] [] (He.ma K (He.ga K "Strengths") "need") fd)   : FnOk P w K mg base (L2.CX P w) 2 (He.ma K (He.ga K "Strengths") "need") fd ["self", "mode"] (sp_Strengths_need K) := by
  have nd := sc_Strengths_need.nd
  refine F.ok (k := 1) sc_Strengths_need (len_Strengths_need K) (fun cdv A outer s H vs Q E hr h => ⟨t_Strengths_need K E, ?_, pure_Strengths_need K vs H Q E T.cld h⟩)
  have hu : (A.deeper (envOfC "Strengths.need" (defScope s_Strengths_need) s.heap.objs.size (He.ma K (He.ga K "Strengths") "need") cdv)).units + 64 < cLine := by
    have h1 := hr.un
    omega
  unfold t_Strengths_need tw_Strengths_need
  exact (pss_one (ps_if (pt_cmpR (op_ninB hu) (pv 1) (pe_fld (pv 0) (by rfl)) (by rfl)) (pss_one (ps_raisename (k := 1) rfl T.x_UnknownMode (hr.mono (by decide)) (takes_of rfl rfl rfl rfl) (pa_cons (pv 1) pa_nil) (by rfl))) pss_nil))
theorem okmG_Strengths_need_1_ (T : Txt P w K mg) (FD : ∃ fd, FunD K "need" "Strengths.need" (defArgs s_Strengths_need) (defBody s_Strengths_need) (defScope s_Strengths_need) [] [] (He.ma K (He.ga K "Strengths") "need") fd)   : FokM P w K mg base (L2.CX P w) 2 "Strengths" "need" ["self", "mode"] (sp_Strengths_need K) 1 [] [] [0, 1] := by
  obtain ⟨fd, F⟩ := FD
  exact ⟨⟨fd, [], .nil, okf_Strengths_need T F  , mbinds F fun _ _ _ _ _ _ us ws h1 h2 => match us, ws, h1, h2 with | [_, _], [], _, _ => rfl⟩⟩
theorem sc_Strengths_clash : FnScope ["self", "one", "other"] ["self", "one", "other"] (defScope s_Strengths_clash) := ⟨rfl, rfl, rfl, by decide +kernel, rfl, by decide +kernel, by decide +kernel⟩
theorem okf_Strengths_clash {fd : FuncData} (T : Txt P w K mg) (F : FunD K "clash" "Strengths.clash" (defArgs s_Strengths_clash) (defBody s_Strengths_clash) (defScope s_Strengths_clash) [] [] (He.ma K (He.ga K "Strengths") "clash") fd)  (G_Strengths_need_1_ : FokM P w K mg base (L2.CX P w) 2 "Strengths" "need" ["self", "mode"] (sp_Strengths_need K) 1 [] [] [0, 1]) : FnOk P w K mg base (L2.CX P w) 3 (He.ma K (He.ga K "Strengths") "clash") fd ["self", "one", "other"] (sp_Strengths_clash K) := by
  have nd := sc_Strengths_clash.nd
  refine F.ok (k := 2) sc_Strengths_clash (len_Strengths_clash K) (fun cdv A outer s H vs Q E hr h => ⟨t_Strengths_clash K E, ?_, pure_Strengths_clash K vs H Q E T.cld h⟩)
  have hu : (A.deeper (envOfC "Strengths.clash" (defScope s_Strengths_clash) s.heap.objs.size (He.ma K (He.ga K "Strengths") "clash") cdv)).units + 64 < cLine := by
    have h1 := hr.un
    omega
  unfold t_Strengths_clash tw_Strengths_clash
  exact (pss_cons (ps_expr (pe_methP (pv 0) T.cl_Strengths T.me_Strengths_need G_Strengths_need_1_ (hr.mono (by decide)) (fun σ => passAt (takes_of rfl rfl rfl rfl) σ) (pa_cons (pv 1) pa_nil) pk_nil))
    (pss_cons (ps_expr (pe_methP (pv 0) T.cl_Strengths T.me_Strengths_need G_Strengths_need_1_ (hr.mono (by decide)) (fun σ => passAt (takes_of rfl rfl rfl rfl) σ) (pa_cons (pv 2) pa_nil) pk_nil))
    (pss_one (ps_ret (pe_cmpR (op_inB hu) (pv 2) (pe_ix (ix_B hu) (pe_fld (pv 0) (by rfl)) (pv 1) (fun _ _ => rfl)) (by rfl))))))
theorem sc_Strengths_clashes : FnScope ["self", "modes", "at", "one", "other"] ["self"] (defScope s_Strengths_clashes) := ⟨rfl, rfl, rfl, by decide +kernel, rfl, by decide +kernel, by decide +kernel⟩
theorem okf_Strengths_clashes {fd : FuncData} (T : Txt P w K mg) (F : FunD K "clashes" "Strengths.clashes" (defArgs s_Strengths_clashes) (defBody s_Strengths_clashes) (defScope s_Strengths_clashes) [] [] (He.ma K (He.ga K "Strengths") "clashes") fd)   : FnOk P w K mg base CX0 1 (He.ma K (He.ga K "Strengths") "clashes") fd ["self"] (sp_Strengths_clashes K) := by
  have nd := sc_Strengths_clashes.nd
  refine F.ok (k := 0) sc_Strengths_clashes (len_Strengths_clashes K) (fun cdv A outer s H vs Q E hr h => ⟨t_Strengths_clashes K, PSs.nox ?_, pure_Strengths_clashes K vs H Q E T.cld h⟩)
  have hu : (A.deeper (envOfC "Strengths.clashes" (defScope s_Strengths_clashes) s.heap.objs.size (He.ma K (He.ga K "Strengths") "clashes") cdv)).units + 64 < cLine := by
    have h1 := hr.un
    omega
  skip
  exact (pss_cons (ps_set (i := 1) nd (by rfl) (Or.inr rfl) (pe_fld (pv 0) (by rfl)))
    (pss_one (ps_ret (pe_lc2 (own := [("at", 2), ("one", 3), ("other", 4)]) rfl nd (vs1 := [4]) (pi_enumA (by rfl) T.b_enumerate (pa_cons (pv 1) pa_nil)) (blkOk_by (own := [("at", 2), ("one", 3), ("other", 4)]) (N := ["self", "modes", "at", "one", "other"]) (sc := defScope s_Strengths_clashes) (by decide +kernel)) (by decide) (fun _ _ _ _ _ => (pg_tup (by rfl) (pgs_cons (pg_name (i := 2) nd (by rfl) (by first | exact Or.inl rfl | exact Or.inr rfl)) (pgs_cons (pg_name (i := 3) nd (by rfl) (by first | exact Or.inl rfl | exact Or.inr rfl)) pgs_nil)))) (fun _ _ _ _ _ => pts_nil) (fun _ _ _ _ _ => (pi_seq (pe_slice sl_A (pv 1) (po_some (pv 2)) po_none))) (fun _ _ _ _ _ => (pg_name (i := 4) nd (by rfl) (by first | exact Or.inl rfl | exact Or.inr rfl))) (fun _ _ _ _ _ => (pts_one (pt_cmpR (op_inB hu) (pv 4) (pe_ix (ix_B hu) (pe_fld (pv 0) (by rfl)) (pv 3) (fun _ _ => rfl)) (by rfl)))) (fun _ _ _ _ _ => (pe_tup (pa_cons (pv 3) (pa_cons (pv 4) pa_nil))))))))
theorem okmG_Strengths_clashes_0_ (T : Txt P w K mg) (FD : ∃ fd, FunD K "clashes" "Strengths.clashes" (defArgs s_Strengths_clashes) (defBody s_Strengths_clashes) (defScope s_Strengths_clashes) [] [] (He.ma K (He.ga K "Strengths") "clashes") fd)   : FokM P w K mg base CX0 1 "Strengths" "clashes" ["self"] (sp_Strengths_clashes K) 0 [] [] [0] := by
  obtain ⟨fd, F⟩ := FD
  exact ⟨⟨fd, [], .nil, okf_Strengths_clashes T F  , mbinds F fun _ _ _ _ _ _ us ws h1 h2 => match us, ws, h1, h2 with | [_], [], _, _ => rfl⟩⟩
theorem sc_Strengths_len : FnScope ["self"] ["self"] (defScope s_Strengths_len) := ⟨rfl, rfl, rfl, by decide +kernel, rfl, by decide +kernel, by decide +kernel⟩
theorem okf_Strengths_len {fd : FuncData} (T : Txt P w K mg) (F : FunD K "__len__" "Strengths.__len__" (defArgs s_Strengths_len) (defBody s_Strengths_len) (defScope s_Strengths_len) [] [] (He.ma K (He.ga K "Strengths") "__len__") fd)   : FnOk P w K mg base CX0 1 (He.ma K (He.ga K "Strengths") "__len__") fd ["self"] (sp_Strengths_len K) := by
  have nd := sc_Strengths_len.nd
  refine F.ok (k := 0) sc_Strengths_len (len_Strengths_len K) (fun cdv A outer s H vs Q E hr h => ⟨t_Strengths_len K, PSs.nox ?_, pure_Strengths_len K vs H Q E T.cld h⟩)
  have hu : (A.deeper (envOfC "Strengths.__len__" (defScope s_Strengths_len) s.heap.objs.size (He.ma K (He.ga K "Strengths") "__len__") cdv)).units + 64 < cLine := by
    have h1 := hr.un
    omega
  skip
  exact (pss_one (ps_ret (pe_callB call_lenB (by rfl) T.b_len (by decide +kernel) (pa_cons (pe_fld (pv 0) (by rfl)) pa_nil))))
theorem sc_Strengths_eq : FnScope ["self", "other"] ["self", "other"] (defScope s_Strengths_eq) := ⟨rfl, rfl, rfl, by decide +kernel, rfl, by decide +kernel, by decide +kernel⟩
theorem okf_Strengths_eq {fd : FuncData} (T : Txt P w K mg) (F : FunD K "__eq__" "Strengths.__eq__" (defArgs s_Strengths_eq) (defBody s_Strengths_eq) (defScope s_Strengths_eq) [] [] (He.ma K (He.ga K "Strengths") "__eq__") fd)   : FnOk P w K mg base CX0 1 (He.ma K (He.ga K "Strengths") "__eq__") fd ["self", "other"] (sp_Strengths_eq K) := by
  have nd := sc_Strengths_eq.nd
  refine F.ok (k := 0) sc_Strengths_eq (len_Strengths_eq K) (fun cdv A outer s H vs Q E hr h => ⟨t_Strengths_eq K, PSs.nox ?_, pure_Strengths_eq K vs H Q E T.cld h⟩)
  have hu : (A.deeper (envOfC "Strengths.__eq__" (defScope s_Strengths_eq) s.heap.objs.size (He.ma K (He.ga K "Strengths") "__eq__") cdv)).units + 64 < cLine := by
    have h1 := hr.un
    omega
  skip
  exact (pss_cons (ps_if (pt_not (pt_val (pe_callB call_isi (by rfl) T.b_isinstance (by decide +kernel) (pa_cons (pv 1) (pa_cons (pe_glob (by rfl) T.g_Strengths rfl) pa_nil))))) (pss_one (ps_ret (pe_bl))) pss_nil)
    (pss_one (ps_ret ((pe_and (pe_cmpR (op_eqA hu) (pe_fld (pv 0) (by rfl)) (pe_fld (pv 1) (by rfl)) (nomark _)) (pe_one (pe_cmpR (op_eqK hu) (pe_fld (pv 0) (by rfl)) (pe_fld (pv 1) (by rfl)) (nomark _))))))))
theorem okmG_Strengths_eq_1_ (T : Txt P w K mg) (FD : ∃ fd, FunD K "__eq__" "Strengths.__eq__" (defArgs s_Strengths_eq) (defBody s_Strengths_eq) (defScope s_Strengths_eq) [] [] (He.ma K (He.ga K "Strengths") "__eq__") fd)   : FokM P w K mg base CX0 1 "Strengths" "__eq__" ["self", "other"] (sp_Strengths_eq K) 1 [] [] [0, 1] := by
  obtain ⟨fd, F⟩ := FD
  exact ⟨⟨fd, [], .nil, okf_Strengths_eq T F  , mbinds F fun _ _ _ _ _ _ us ws h1 h2 => match us, ws, h1, h2 with | [_, _], [], _, _ => rfl⟩⟩
theorem sc_Strengths_str : FnScope ["self", "pairs", "words", "one", "other"] ["self"] (defScope s_Strengths_str) := ⟨rfl, rfl, rfl, by decide +kernel, rfl, by decide +kernel, by decide +kernel⟩
theorem okf_Strengths_str {fd : FuncData} (T : Txt P w K mg) (F : FunD K "__str__" "Strengths.__str__" (defArgs s_Strengths_str) (defBody s_Strengths_str) (defScope s_Strengths_str) [] [] (He.ma K (He.ga K "Strengths") "__str__") fd)  (G_Strengths_clashes_0_ : FokM P w K mg base CX0 1 "Strengths" "clashes" ["self"] (sp_Strengths_clashes K) 0 [] [] [0]) : FnOk P w K mg base CX0 2 (He.ma K (He.ga K "Strengths") "__str__") fd ["self"] (sp_Strengths_str K) := by
  have nd := sc_Strengths_str.nd
  refine F.ok (k := 1) sc_Strengths_str (len_Strengths_str K) (fun cdv A outer s H vs Q E hr h => ⟨t_Strengths_str K, PSs.nox ?_, pure_Strengths_str K vs H Q E T.cld h⟩)
  have hu : (A.deeper (envOfC "Strengths.__str__" (defScope s_Strengths_str) s.heap.objs.size (He.ma K (He.ga K "Strengths") "__str__") cdv)).units + 64 < cLine := by
    have h1 := hr.un
    omega
  skip
  exact (pss_cons (ps_set (i := 1) nd (by rfl) (Or.inl rfl) (pe_bmW PySem.F.plainAttrs_str PySem.F.slot_str_join PySem.F.type_str_join mt_join (pe_str) (pa_cons (pe_lc (own := [("one", 3), ("other", 4)]) rfl nd (pi_seq (pe_methP0 (pv 0) T.cl_Strengths T.me_Strengths_clashes G_Strengths_clashes_0_ (hr.mono (by decide)) passAt0 pk_nil)) (blkOk_by (own := [("one", 3), ("other", 4)]) (N := ["self", "pairs", "words", "one", "other"]) (sc := defScope s_Strengths_str) (by decide +kernel)) (fun _ _ _ _ _ => (pg_tup (by rfl) (pgs_cons (pg_name (i := 3) nd (by rfl) (by first | exact Or.inl rfl | exact Or.inr rfl)) (pgs_cons (pg_name (i := 4) nd (by rfl) (by first | exact Or.inl rfl | exact Or.inr rfl)) pgs_nil)))) (fun _ _ _ _ _ => pts_nil) (fun _ _ _ _ _ => (pe_join (.cons (pe_fmt (pv 3)) (.cons (pe_fmt (pe_gstr (by rfl) T.c_SIGN)) (.cons (pe_fmt (pv 4)) .nil)))))) pa_nil)))
    (pss_cons (ps_set (i := 2) nd (by rfl) (Or.inl rfl) (pe_bmW PySem.F.plainAttrs_str PySem.F.slot_str_join PySem.F.type_str_join mt_join (pe_str) (pa_cons (pe_callTy call_listA (by rfl) T.b_list (by decide +kernel) (pa_cons (pe_fld (pv 0) (by rfl)) pa_nil)) pa_nil)))
    (pss_one (ps_ret (pe_callTy call_strA (by rfl) T.b_str (by decide +kernel) (pa_cons (pe_ifExp (pt_cmpR (op_neA hu) (pv 1) (pe_str) (nomark _)) (pe_join (.cons (pe_fmt (pv 2)) (.cons (pe_str) (.cons (pe_fmt (pv 1)) .nil)))) (pv 2)) pa_nil))))))
theorem okmG_Strengths_str_0_ (T : Txt P w K mg) (FD : ∃ fd, FunD K "__str__" "Strengths.__str__" (defArgs s_Strengths_str) (defBody s_Strengths_str) (defScope s_Strengths_str) [] [] (He.ma K (He.ga K "Strengths") "__str__") fd)  (G_Strengths_clashes_0_ : FokM P w K mg base CX0 1 "Strengths" "clashes" ["self"] (sp_Strengths_clashes K) 0 [] [] [0]) : FokM P w K mg base CX0 2 "Strengths" "__str__" ["self"] (sp_Strengths_str K) 0 [] [] [0] := by
  obtain ⟨fd, F⟩ := FD
  exact ⟨⟨fd, [], .nil, okf_Strengths_str T F  G_Strengths_clashes_0_, mbinds F fun _ _ _ _ _ _ us ws h1 h2 => match us, ws, h1, h2 with | [_], [], _, _ => rfl⟩⟩
theorem sc_read_modes : FnScope ["text", "head", "rest", "pairs", "word"] ["text"] (defScope s_read_modes) := ⟨rfl, rfl, rfl, by decide +kernel, rfl, by decide +kernel, by decide +kernel⟩
theorem okf_read_modes {fd : FuncData} (T : Txt P w K mg) (F : FunD K "read_modes" "read_modes" (defArgs s_read_modes) (defBody s_read_modes) (defScope s_read_modes) [] [] (He.ga K "read_modes") fd)  (G_Strengths_init_2_ : FokM P w K mg base (L2N.CX P w) 3 "Strengths" "__init__" ["self", "modes", "clashes"] (sp_Strengths_init K) 2 [] [] [0, 1, 2]) : FnOk P w K mg base (L2N.CX P w) 5 (He.ga K "read_modes") fd ["text"] (sp_read_modes K) := by
  have nd := sc_read_modes.nd
  refine F.ok (k := 4) sc_read_modes (len_read_modes K) (fun cdv A outer s H vs Q E hr h => ⟨t_read_modes K E, ?_, pure_read_modes K vs H Q E h⟩)
  have hu : (A.deeper (envOfC "read_modes" (defScope s_read_modes) s.heap.objs.size (He.ga K "read_modes") cdv)).units + 64 < cLine := by
    have h1 := hr.un
    omega
  unfold t_read_modes tw_read_modes
  exact (pss_cons (ps_asg (pe_bmW PySem.F.plainAttrs_str PySem.F.slot_str_split PySem.F.type_str_split mt_split (pv 0) (pa_cons (pe_str) pa_nil)) (pg_star (by rfl) (pgs_cons (pg_name (i := 1) nd (by rfl) (by first | exact Or.inl rfl | exact Or.inr rfl)) (pgs_cons (pg_name (i := 2) nd (by rfl) (by first | exact Or.inl rfl | exact Or.inr rfl)) pgs_nil))))
    (pss_cons (ps_if (pt_cmpR op_gtA (pe_callB call_lenB (by rfl) T.b_len (by decide +kernel) (pa_cons (pv 2) pa_nil)) (pe_int) (nomark _)) (pss_one (ps_ret (pe_non))) pss_nil)
    (pss_cons (ps_set (i := 3) nd (by rfl) (Or.inl rfl) (pe_ifExp (pt_cmpR (op_eqA hu) (pe_callB call_lenB (by rfl) T.b_len (by decide +kernel) (pa_cons (pv 2) pa_nil)) (pe_int) (nomark _)) (pe_lc (own := [("word", 4)]) rfl nd (pi_seq (pe_bmW PySem.F.plainAttrs_str PySem.F.slot_str_split PySem.F.type_str_split mt_split (pe_ix (ix_B hu) (pv 2) (pe_int) (fun _ _ => rfl)) (pa_cons (pe_str) pa_nil))) (blkOk_by (own := [("word", 4)]) (N := ["text", "head", "rest", "pairs", "word"]) (sc := defScope s_read_modes) (by decide +kernel)) (fun _ _ _ _ _ => (pg_name (i := 4) nd (by rfl) (by first | exact Or.inl rfl | exact Or.inr rfl))) (fun _ _ _ _ _ => pts_nil) (fun _ _ _ _ _ => (pe_callTy call_tupA (by rfl) T.b_tuple (by decide +kernel) (pa_cons (pe_bmW PySem.F.plainAttrs_str PySem.F.slot_str_split PySem.F.type_str_split mt_split (pv 4) (pa_cons (pe_gstr (by rfl) T.c_SIGN) pa_nil)) pa_nil)))) (pe_lst pa_nil)))
    (pss_one (ps_ret (pe_makeP T.mk_Strengths G_Strengths_init_2_ (hr.mono (by decide)) (by rfl) T.g_Strengths (fun σ => L2N.passAt (L2N.takes_of rfl rfl rfl rfl) σ) (pa_cons (pe_bmW PySem.F.plainAttrs_str PySem.F.slot_str_split PySem.F.type_str_split mt_split (pv 1) (pa_cons (pe_str) pa_nil)) (pa_cons (pv 3) pa_nil)) pk_nil))))))
theorem ok_read_modes (T : Txt P w K mg) (FD : ∃ fd, FunD K "read_modes" "read_modes" (defArgs s_read_modes) (defBody s_read_modes) (defScope s_read_modes) [] [] (He.ga K "read_modes") fd) (hm : mg "read_modes" = some (.ref (He.ga K "read_modes")))  (G_Strengths_init_2_ : FokM P w K mg base (L2N.CX P w) 3 "Strengths" "__init__" ["self", "modes", "clashes"] (sp_Strengths_init K) 2 [] [] [0, 1, 2]) : Fok P w K mg base (L2N.CX P w) 5 "read_modes" ["text"] (sp_read_modes K) := by
  obtain ⟨fd, F⟩ := FD
  exact ⟨⟨fd, okf_read_modes T F  G_Strengths_init_2_, F.bindsN fun _ _ _ _ _ _ us hl => match us, hl with | [_], _ => rfl⟩, hm, F.kp⟩
theorem sc_read_strengths : FnScope ["text", "found"] ["text"] (defScope s_read_strengths) := ⟨rfl, rfl, rfl, by decide +kernel, rfl, by decide +kernel, by decide +kernel⟩
theorem okf_read_strengths {fd : FuncData} (T : Txt P w K mg) (F : FunD K "read_strengths" "read_strengths" (defArgs s_read_strengths) (defBody s_read_strengths) (defScope s_read_strengths) [] [] (He.ga K "read_strengths") fd) (F_read_modes : Fok P w K mg base (L2N.CX P w) 5 "read_modes" ["text"] (sp_read_modes K)) (G_Strengths_str_0_ : FokM P w K mg base CX0 2 "Strengths" "__str__" ["self"] (sp_Strengths_str K) 0 [] [] [0]) : FnOk P w K mg base (L2.CX P w) 6 (He.ga K "read_strengths") fd ["text"] (sp_read_strengths K) := by
  have nd := sc_read_strengths.nd
  refine F.ok (k := 5) sc_read_strengths (len_read_strengths K) (fun cdv A outer s H vs Q E hr h => ⟨t_read_strengths K E, ?_, pure_read_strengths K vs H Q E T.exm T.cld h⟩)
  have hu : (A.deeper (envOfC "read_strengths" (defScope s_read_strengths) s.heap.objs.size (He.ga K "read_strengths") cdv)).units + 64 < cLine := by
    have h1 := hr.un
    omega
  unfold t_read_strengths tw_read_strengths
  exact (pss_cons (ps_if (PW.pt (pw_or (pt_not (pt_val (pe_callB call_isi (by rfl) T.b_isinstance (by decide +kernel) (pa_cons (pv 0) (pa_cons (pe_bltn (by rfl) T.b_str (by decide +kernel) rfl) pa_nil))))) (pw_or1 (pt_cmpR op_gtA (pe_callB call_lenB (by rfl) T.b_len (by decide +kernel) (pa_cons (pv 0) pa_nil)) (pe_gint (by rfl) T.c_MOST_SIGNS) (nomark _))))) (pss_one (ps_raisevalue (k := 1) rfl T.x_InvalidText (hr.mono (by decide)) (takes_of rfl rfl rfl rfl) (pa_cons (pv 0) pa_nil) (by rfl))) pss_nil)
    (pss_cons (ps_tryH (tb := fun W => (tAsg (tCallS (sp_read_modes K) (WE W) (tCons (tVar 0) tNil)) (gName 1))) (Wout := (fun cls d _ H => E cls d H)) rfl rfl ⟨by rfl, by decide, Or.inl T.g_PartsError⟩ (fun hd => L2H.passesAt_of rfl hd) (takes_of rfl rfl rfl rfl) (fun W pn xe tk po => (pss_one (ps_set (i := 1) nd (by rfl) (Or.inl rfl) (pe_callGN F_read_modes (hr.mono (by decide)) (by rfl) tk (pa_cons (pv 0) pa_nil))))) (fun a oe pn tks hot => (pss_one (ps_raiseHvalue (k := 1) hot T.x_InvalidText (L2H.roomH_mark (hr.mono (by decide)) _) tks (pa_cons (pv 0) pa_nil) (by rfl)))))
    (pss_cons (ps_if (PW.pt (pw_or (pt_cmpR op_isA (pv 1) (pe_non) (nomark _)) (pw_or1 (pt_cmpR (op_neA hu) (pe_callTy (call_strO T.me_Strengths_str G_Strengths_str_0_ (hr.mono (by decide))) (by rfl) T.b_str (by decide +kernel) (pa_cons (pv 1) pa_nil)) (pv 0) (nomark _))))) (pss_one (ps_raisevalue (k := 1) rfl T.x_InvalidText (hr.mono (by decide)) (takes_of rfl rfl rfl rfl) (pa_cons (pv 0) pa_nil) (by rfl))) pss_nil)
    (pss_one (ps_ret (pv 1))))))
theorem ok_read_strengths (T : Txt P w K mg) (FD : ∃ fd, FunD K "read_strengths" "read_strengths" (defArgs s_read_strengths) (defBody s_read_strengths) (defScope s_read_strengths) [] [] (He.ga K "read_strengths") fd) (hm : mg "read_strengths" = some (.ref (He.ga K "read_strengths"))) (F_read_modes : Fok P w K mg base (L2N.CX P w) 5 "read_modes" ["text"] (sp_read_modes K)) (G_Strengths_str_0_ : FokM P w K mg base CX0 2 "Strengths" "__str__" ["self"] (sp_Strengths_str K) 0 [] [] [0]) : Fok P w K mg base (L2.CX P w) 6 "read_strengths" ["text"] (sp_read_strengths K) := by
  obtain ⟨fd, F⟩ := FD
  exact ⟨⟨fd, okf_read_strengths T F F_read_modes G_Strengths_str_0_, F.bindsN fun _ _ _ _ _ _ us hl => match us, hl with | [_], _ => rfl⟩, hm, F.kp⟩
theorem sc_law_cell : FnScope ["script", "k"] ["script", "k"] (defScope s_law_cell) := ⟨rfl, rfl, rfl, by decide +kernel, rfl, by decide +kernel, by decide +kernel⟩
theorem okf_law_cell {fd : FuncData} (T : Txt P w K mg) (F : FunD K "_law_cell" "_law_cell" (defArgs s_law_cell) (defBody s_law_cell) (defScope s_law_cell) [] [] (He.ga K "_law_cell") fd)   : FnOk P w K mg base CX0 1 (He.ga K "_law_cell") fd ["script", "k"] (sp_law_cell K) := by
  have nd := sc_law_cell.nd
  refine F.ok (k := 0) sc_law_cell (len_law_cell K) (fun cdv A outer s H vs Q E hr h => ⟨t_law_cell K, PSs.nox ?_, pure_law_cell K vs H Q E h⟩)
  have hu : (A.deeper (envOfC "_law_cell" (defScope s_law_cell) s.heap.objs.size (He.ga K "_law_cell") cdv)).units + 64 < cLine := by
    have h1 := hr.un
    omega
  skip
  exact (pss_cons (ps_if (pt_cmpR op_ltA (pv 1) (pe_callB call_lenB (by rfl) T.b_len (by decide +kernel) (pa_cons (pv 0) pa_nil)) (nomark _)) (pss_one (ps_ret (pe_ix (ix_B hu) (pv 0) (pv 1) (fun _ _ => rfl)))) pss_nil)
    (pss_one (ps_ret (pe_op op_addA (pe_op op_mulA (pe_int) (pv 1)) (pe_int)))))
theorem ok_law_cell (T : Txt P w K mg) (FD : ∃ fd, FunD K "_law_cell" "_law_cell" (defArgs s_law_cell) (defBody s_law_cell) (defScope s_law_cell) [] [] (He.ga K "_law_cell") fd) (hm : mg "_law_cell" = some (.ref (He.ga K "_law_cell")))   : Fok P w K mg base CX0 1 "_law_cell" ["script", "k"] (sp_law_cell K) := by
  obtain ⟨fd, F⟩ := FD
  exact ⟨⟨fd, okf_law_cell T F  , F.bindsN fun _ _ _ _ _ _ us hl => match us, hl with | [_, _], _ => rfl⟩, hm, F.kp⟩
theorem sc_law_box : FnScope ["cell"] ["cell"] (defScope s_law_box) := ⟨rfl, rfl, rfl, by decide +kernel, rfl, by decide +kernel, by decide +kernel⟩
theorem okf_law_box {fd : FuncData} (T : Txt P w K mg) (F : FunD K "_law_box" "_law_box" (defArgs s_law_box) (defBody s_law_box) (defScope s_law_box) [] [] (He.ga K "_law_box") fd)   : FnOk P w K mg base CX0 1 (He.ga K "_law_box") fd ["cell"] (sp_law_box K) := by
  have nd := sc_law_box.nd
  refine F.ok (k := 0) sc_law_box (len_law_box K) (fun cdv A outer s H vs Q E hr h => ⟨t_law_box K, PSs.nox ?_, pure_law_box K vs H Q E h⟩)
  have hu : (A.deeper (envOfC "_law_box" (defScope s_law_box) s.heap.objs.size (He.ga K "_law_box") cdv)).units + 64 < cLine := by
    have h1 := hr.un
    omega
  skip
  exact (pss_one (ps_ret (pe_lst (pa_cons (pe_callB (call_maxA rfl) (by rfl) T.b_max (by decide +kernel) (pa_cons (pe_int) (pa_cons (pe_op op_subA (pv 0) (pe_op op_powA (pe_int) (pe_int))) pa_nil))) (pa_cons (pe_op op_modA (pv 0) (pe_int)) (pa_cons (pe_int) pa_nil))))))
theorem ok_law_box (T : Txt P w K mg) (FD : ∃ fd, FunD K "_law_box" "_law_box" (defArgs s_law_box) (defBody s_law_box) (defScope s_law_box) [] [] (He.ga K "_law_box") fd) (hm : mg "_law_box" = some (.ref (He.ga K "_law_box")))   : Fok P w K mg base CX0 1 "_law_box" ["cell"] (sp_law_box K) := by
  obtain ⟨fd, F⟩ := FD
  exact ⟨⟨fd, okf_law_box T F  , F.bindsN fun _ _ _ _ _ _ us hl => match us, hl with | [_], _ => rfl⟩, hm, F.kp⟩
theorem sc_law_take : FnScope ["box", "many", "digit", "number"] ["box", "many"] (defScope s_law_take) := ⟨rfl, rfl, rfl, by decide +kernel, rfl, by decide +kernel, by decide +kernel⟩
theorem okf_law_take {fd : FuncData} (T : Txt P w K mg) (F : FunD K "_law_take" "_law_take" (defArgs s_law_take) (defBody s_law_take) (defScope s_law_take) [] [] (He.ga K "_law_take") fd)   : FnOk P w K mg base CX0 1 (He.ga K "_law_take") fd ["box", "many"] (sp_law_take K) := by
  have nd := sc_law_take.nd
  refine F.ok (k := 0) sc_law_take (len_law_take K) (fun cdv A outer s H vs Q E hr h => ⟨t_law_take K, PSs.nox ?_, pure_law_take K vs H Q E h⟩)
  have hu : (A.deeper (envOfC "_law_take" (defScope s_law_take) s.heap.objs.size (He.ga K "_law_take") cdv)).units + 64 < cLine := by
    have h1 := hr.un
    omega
  skip
  exact (pss_cons (ps_if (pt_cmpR op_gtA (pe_ix (ix_B hu) (pv 0) (pe_int) (fun _ _ => rfl)) (pe_int) (nomark _)) (pss_cons (ps_set (i := 2) nd (by rfl) (Or.inl rfl) (pe_op op_modA (pe_ix (ix_B hu) (pv 0) (pe_int) (fun _ _ => rfl)) (pv 1)))
    (pss_cons (ps_asg (pe_op op_divA (pe_ix (ix_B hu) (pv 0) (pe_int) (fun _ _ => rfl)) (pv 1)) (pg_sub (pv 0) (pe_int) (set_B hu)))
    (pss_one (ps_ret (pv 2))))) pss_nil)
    (pss_cons (ps_asg (pe_op op_addA (pe_ix (ix_B hu) (pv 0) (pe_int) (fun _ _ => rfl)) (pe_int)) (pg_sub (pv 0) (pe_int) (set_B hu)))
    (pss_cons (ps_set (i := 3) nd (by rfl) (Or.inl rfl) (pe_op op_modA (pe_op op_powA (pe_op op_addA (pe_op op_addA (pe_ix (ix_B hu) (pv 0) (pe_int) (fun _ _ => rfl)) (pe_op op_mulA (pe_int) (pe_ix (ix_B hu) (pv 0) (pe_int) (fun _ _ => rfl)))) (pe_int)) (pe_int)) (pe_int)))
    (pss_cons (ps_set (i := 3) nd (by rfl) (Or.inl rfl) (pe_op op_modA (pe_op op_powA (pe_op op_addA (pv 3) (pe_op op_mulA (pe_int) (pe_ix (ix_B hu) (pv 0) (pe_int) (fun _ _ => rfl)))) (pe_int)) (pe_int)))
    (pss_one (ps_ret (pe_op op_modA (pe_op op_divA (pv 3) (pe_int)) (pv 1))))))))
theorem ok_law_take (T : Txt P w K mg) (FD : ∃ fd, FunD K "_law_take" "_law_take" (defArgs s_law_take) (defBody s_law_take) (defScope s_law_take) [] [] (He.ga K "_law_take") fd) (hm : mg "_law_take" = some (.ref (He.ga K "_law_take")))   : Fok P w K mg base CX0 1 "_law_take" ["box", "many"] (sp_law_take K) := by
  obtain ⟨fd, F⟩ := FD
  exact ⟨⟨fd, okf_law_take T F  , F.bindsN fun _ _ _ _ _ _ us hl => match us, hl with | [_, _], _ => rfl⟩, hm, F.kp⟩
theorem sc_law_mixed : FnScope ["box", "some", "left", "k"] ["box", "some"] (defScope s_law_mixed) := ⟨rfl, rfl, rfl, by decide +kernel, rfl, by decide +kernel, by decide +kernel⟩
theorem okf_law_mixed {fd : FuncData} (T : Txt P w K mg) (F : FunD K "_law_mixed" "_law_mixed" (defArgs s_law_mixed) (defBody s_law_mixed) (defScope s_law_mixed) [] [] (He.ga K "_law_mixed") fd) (F_law_take : Fok P w K mg base CX0 1 "_law_take" ["box", "many"] (sp_law_take K))  : FnOk P w K mg base CX0 2 (He.ga K "_law_mixed") fd ["box", "some"] (sp_law_mixed K) := by
  have nd := sc_law_mixed.nd
  refine F.ok (k := 1) sc_law_mixed (len_law_mixed K) (fun cdv A outer s H vs Q E hr h => ⟨t_law_mixed K, PSs.nox ?_, pure_law_mixed K vs H Q E h⟩)
  have hu : (A.deeper (envOfC "_law_mixed" (defScope s_law_mixed) s.heap.objs.size (He.ga K "_law_mixed") cdv)).units + 64 < cLine := by
    have h1 := hr.un
    omega
  skip
  exact (pss_cons (ps_set (i := 2) nd (by rfl) (Or.inr rfl) (pe_callTy call_listA (by rfl) T.b_list (by decide +kernel) (pa_cons (pv 1) pa_nil)))
    (pss_one (ps_ret (pe_lc (own := [("k", 3)]) rfl nd (pi_range1 (by rfl) T.b_range (pa_cons (pe_callB call_lenB (by rfl) T.b_len (by decide +kernel) (pa_cons (pv 1) pa_nil)) pa_nil)) (blkOk_by (own := [("k", 3)]) (N := ["box", "some", "left", "k"]) (sc := defScope s_law_mixed) (by decide +kernel)) (fun _ _ _ _ _ => (pg_name (i := 3) nd (by rfl) (by first | exact Or.inl rfl | exact Or.inr rfl))) (fun _ _ _ _ _ => pts_nil) (fun _ _ _ _ _ => (pe_bmW PySem.F.plainAttrs_list PySem.F.slot_list_pop PySem.F.type_list_pop mt_popA (pv 2) (pa_cons (pe_callF F_law_take (hr.mono (by decide)) (by rfl) pass0 (pa_cons (pv 0) (pa_cons (pe_callB call_lenB (by rfl) T.b_len (by decide +kernel) (pa_cons (pv 2) pa_nil)) pa_nil))) pa_nil)))))))
theorem ok_law_mixed (T : Txt P w K mg) (FD : ∃ fd, FunD K "_law_mixed" "_law_mixed" (defArgs s_law_mixed) (defBody s_law_mixed) (defScope s_law_mixed) [] [] (He.ga K "_law_mixed") fd) (hm : mg "_law_mixed" = some (.ref (He.ga K "_law_mixed"))) (F_law_take : Fok P w K mg base CX0 1 "_law_take" ["box", "many"] (sp_law_take K))  : Fok P w K mg base CX0 2 "_law_mixed" ["box", "some"] (sp_law_mixed K) := by
  obtain ⟨fd, F⟩ := FD
  exact ⟨⟨fd, okf_law_mixed T F F_law_take , F.bindsN fun _ _ _ _ _ _ us hl => match us, hl with | [_, _], _ => rfl⟩, hm, F.kp⟩
theorem sc_law_names : FnScope ["box", "many", "letters", "words", "stem", "first", "step", "way", "found", "k", "sign", "name"] ["box", "many"] (defScope s_law_names) := ⟨rfl, rfl, rfl, by decide +kernel, rfl, by decide +kernel, by decide +kernel⟩
theorem okf_law_names {fd : FuncData} (T : Txt P w K mg) (F : FunD K "_law_names" "_law_names" (defArgs s_law_names) (defBody s_law_names) (defScope s_law_names) [] [] (He.ga K "_law_names") fd) (F_law_take : Fok P w K mg base CX0 1 "_law_take" ["box", "many"] (sp_law_take K)) (F_law_mixed : Fok P w K mg base CX0 2 "_law_mixed" ["box", "some"] (sp_law_mixed K))  : FnOk P w K mg base CX0 3 (He.ga K "_law_names") fd ["box", "many"] (sp_law_names K) := by
  have nd := sc_law_names.nd
  refine F.ok (k := 2) sc_law_names (len_law_names K) (fun cdv A outer s H vs Q E hr h => ⟨t_law_names K, PSs.nox ?_, pure_law_names K vs H Q E h⟩)
  have hu : (A.deeper (envOfC "_law_names" (defScope s_law_names) s.heap.objs.size (He.ga K "_law_names") cdv)).units + 64 < cLine := by
    have h1 := hr.un
    omega
  skip
  exact (pss_cons (ps_set (i := 2) nd (by rfl) (Or.inl rfl) (pe_str))
    (pss_cons (ps_if (pt_cmpR (op_eqA hu) (pe_callF F_law_take (hr.mono (by decide)) (by rfl) pass0 (pa_cons (pv 0) (pa_cons (pe_int) pa_nil))) (pe_int) (nomark _)) (pss_cons (ps_set (i := 3) nd (by rfl) (Or.inl rfl) (pe_lst (pa_cons (pe_str) (pa_cons (pe_str) (pa_cons (pe_str) (pa_cons (pe_str) (pa_cons (pe_str) (pa_cons (pe_str) (pa_cons (pe_str) (pa_cons (pe_str) (pa_cons (pe_str) (pa_cons (pe_str) (pa_cons (pe_str) (pa_cons (pe_str) (pa_cons (pe_str) pa_nil)))))))))))))))
    (pss_one (ps_ret (pe_slice sl_A (pe_callF F_law_mixed (hr.mono (by decide)) (by rfl) pass0 (pa_cons (pv 0) (pa_cons (pv 3) pa_nil))) po_none (po_some (pv 1)))))) pss_nil)
    (pss_cons (ps_set (i := 4) nd (by rfl) (Or.inl rfl) (pe_ix (ix_B hu) (pe_lst (pa_cons (pe_str) (pa_cons (pe_str) (pa_cons (pe_str) (pa_cons (pe_str) (pa_cons (pe_str) (pa_cons (pe_str) pa_nil))))))) (pe_callF F_law_take (hr.mono (by decide)) (by rfl) pass0 (pa_cons (pv 0) (pa_cons (pe_int) pa_nil))) (fun _ _ => rfl)))
    (pss_cons (ps_par3 (by rfl) nd rfl rfl rfl (by decide) (by decide) (by decide) rfl rfl rfl (pa_cons (pe_callF F_law_take (hr.mono (by decide)) (by rfl) pass0 (pa_cons (pv 0) (pa_cons (pe_int) pa_nil))) (pa_cons (pe_ix (ix_B hu) (pe_lst (pa_cons (pe_int) (pa_cons (pe_int) (pa_cons (pe_int) (pa_cons (pe_int) (pa_cons (pe_int) (pa_cons (pe_int) pa_nil))))))) (pe_callF F_law_take (hr.mono (by decide)) (by rfl) pass0 (pa_cons (pv 0) (pa_cons (pe_int) pa_nil))) (fun _ _ => rfl)) (pa_cons (pe_callF F_law_take (hr.mono (by decide)) (by rfl) pass0 (pa_cons (pv 0) (pa_cons (pe_int) pa_nil))) pa_nil))) (by rfl))
    (pss_cons (ps_set (i := 8) nd (by rfl) (Or.inl rfl) (pe_lst pa_nil))
    (pss_cons (ps_for PassesOwn.never rfl (pi_range1 (by rfl) T.b_range (pa_cons (pv 1) pa_nil)) (pg_name (i := 9) nd (by rfl) (by first | exact Or.inl rfl | exact Or.inr rfl)) (pss_cons (ps_set (i := 10) nd (by rfl) (Or.inl rfl) (pe_ix (ix_B hu) (pv 2) (pe_op op_modA (pe_op op_addA (pv 5) (pe_op op_mulA (pv 6) (pv 9))) (pe_int)) (fun _ _ => rfl)))
    (pss_cons (ps_set (i := 11) nd (by rfl) (Or.inl rfl) (pe_ix (ix_B hu) (pe_lst (pa_cons (pe_op op_addA (pv 4) (pv 10)) (pa_cons (pe_op op_addA (pv 10) (pv 4)) (pa_cons (pv 10) pa_nil)))) (pe_ifExp (pt_cmpR op_gtA (pv 9) (pe_int) (nomark _)) (pv 7) (pe_int)) (fun _ _ => rfl)))
    (pss_one (ps_expr (pe_bmW PySem.F.plainAttrs_list PySem.F.slot_list_append PySem.F.type_list_append mt_append (pv 8) (pa_cons (pe_ifExp (pt_cmpR (op_eqA hu) (pv 11) (pe_str) (nomark _)) (pe_str) (pv 11)) pa_nil)))))))
    (pss_one (ps_ret (pv 8)))))))))
theorem ok_law_names (T : Txt P w K mg) (FD : ∃ fd, FunD K "_law_names" "_law_names" (defArgs s_law_names) (defBody s_law_names) (defScope s_law_names) [] [] (He.ga K "_law_names") fd) (hm : mg "_law_names" = some (.ref (He.ga K "_law_names"))) (F_law_take : Fok P w K mg base CX0 1 "_law_take" ["box", "many"] (sp_law_take K)) (F_law_mixed : Fok P w K mg base CX0 2 "_law_mixed" ["box", "some"] (sp_law_mixed K))  : Fok P w K mg base CX0 3 "_law_names" ["box", "many"] (sp_law_names K) := by
  obtain ⟨fd, F⟩ := FD
  exact ⟨⟨fd, okf_law_names T F F_law_take F_law_mixed , F.bindsN fun _ _ _ _ _ _ us hl => match us, hl with | [_, _], _ => rfl⟩, hm, F.kp⟩
theorem sc_law_modes : FnScope ["box", "most", "modes", "pairs", "chance", "one", "other"] ["box", "most"] (defScope s_law_modes) := ⟨rfl, rfl, rfl, by decide +kernel, rfl, by decide +kernel, by decide +kernel⟩
theorem okf_law_modes {fd : FuncData} (T : Txt P w K mg) (F : FunD K "_law_modes" "_law_modes" (defArgs s_law_modes) (defBody s_law_modes) (defScope s_law_modes) [] [] (He.ga K "_law_modes") fd) (F_law_names : Fok P w K mg base CX0 3 "_law_names" ["box", "many"] (sp_law_names K)) (F_law_take : Fok P w K mg base CX0 1 "_law_take" ["box", "many"] (sp_law_take K))  : FnOk P w K mg base CX0 4 (He.ga K "_law_modes") fd ["box", "most"] (sp_law_modes K) := by
  have nd := sc_law_modes.nd
  refine F.ok (k := 3) sc_law_modes (len_law_modes K) (fun cdv A outer s H vs Q E hr h => ⟨t_law_modes K, PSs.nox ?_, pure_law_modes K vs H Q E h⟩)
  have hu : (A.deeper (envOfC "_law_modes" (defScope s_law_modes) s.heap.objs.size (He.ga K "_law_modes") cdv)).units + 64 < cLine := by
    have h1 := hr.un
    omega
  skip
  exact (pss_cons (ps_set (i := 2) nd (by rfl) (Or.inl rfl) (pe_callF F_law_names (hr.mono (by decide)) (by rfl) pass0 (pa_cons (pv 0) (pa_cons (pe_op op_addA (pe_int) (pe_callF F_law_take (hr.mono (by decide)) (by rfl) pass0 (pa_cons (pv 0) (pa_cons (pv 1) pa_nil)))) pa_nil))))
    (pss_cons (ps_par (by rfl) nd rfl rfl (by decide) rfl rfl (pa_cons (pe_lst pa_nil) (pa_cons (pe_ix (ix_B hu) (pe_lst (pa_cons (pe_int) (pa_cons (pe_int) (pa_cons (pe_int) pa_nil)))) (pe_callF F_law_take (hr.mono (by decide)) (by rfl) pass0 (pa_cons (pv 0) (pa_cons (pe_int) pa_nil))) (fun _ _ => rfl)) pa_nil)) (by rfl))
    (pss_cons (ps_for PassesOwn.never rfl (pi_seq (pv 2)) (pg_name (i := 5) nd (by rfl) (by first | exact Or.inl rfl | exact Or.inr rfl)) (pss_one (ps_for PassesOwn.never rfl (pi_seq (pv 2)) (pg_name (i := 6) nd (by rfl) (by first | exact Or.inl rfl | exact Or.inr rfl)) (pss_one (ps_if (pt_cmpR (op_eqA hu) (pe_callF F_law_take (hr.mono (by decide)) (by rfl) pass0 (pa_cons (pv 0) (pa_cons (pv 4) pa_nil))) (pe_int) (nomark _)) (pss_one (ps_expr (pe_bmW PySem.F.plainAttrs_list PySem.F.slot_list_append PySem.F.type_list_append mt_append (pv 3) (pa_cons (pe_tup (pa_cons (pv 5) (pa_cons (pv 6) pa_nil))) pa_nil)))) pss_nil)))))
    (pss_one (ps_ret (pe_lst (pa_cons (pv 2) (pa_cons (pv 3) pa_nil))))))))
theorem ok_law_modes (T : Txt P w K mg) (FD : ∃ fd, FunD K "_law_modes" "_law_modes" (defArgs s_law_modes) (defBody s_law_modes) (defScope s_law_modes) [] [] (He.ga K "_law_modes") fd) (hm : mg "_law_modes" = some (.ref (He.ga K "_law_modes"))) (F_law_names : Fok P w K mg base CX0 3 "_law_names" ["box", "many"] (sp_law_names K)) (F_law_take : Fok P w K mg base CX0 1 "_law_take" ["box", "many"] (sp_law_take K))  : Fok P w K mg base CX0 4 "_law_modes" ["box", "most"] (sp_law_modes K) := by
  obtain ⟨fd, F⟩ := FD
  exact ⟨⟨fd, okf_law_modes T F F_law_names F_law_take , F.bindsN fun _ _ _ _ _ _ us hl => match us, hl with | [_, _], _ => rfl⟩, hm, F.kp⟩
theorem sc_law_against : FnScope ["model", "mode", "other"] ["model", "mode"] (defScope s_law_against) := ⟨rfl, rfl, rfl, by decide +kernel, rfl, by decide +kernel, by decide +kernel⟩
theorem okf_law_against {fd : FuncData} (T : Txt P w K mg) (F : FunD K "_law_against" "_law_against" (defArgs s_law_against) (defBody s_law_against) (defScope s_law_against) [] [] (He.ga K "_law_against") fd)   : FnOk P w K mg base CX0 1 (He.ga K "_law_against") fd ["model", "mode"] (sp_law_against K) := by
  have nd := sc_law_against.nd
  refine F.ok (k := 0) sc_law_against (len_law_against K) (fun cdv A outer s H vs Q E hr h => ⟨t_law_against K, PSs.nox ?_, pure_law_against K vs H Q E h⟩)
  have hu : (A.deeper (envOfC "_law_against" (defScope s_law_against) s.heap.objs.size (He.ga K "_law_against") cdv)).units + 64 < cLine := by
    have h1 := hr.un
    omega
  skip
  exact (pss_one (ps_ret (pe_lc (own := [("other", 2)]) rfl nd (pi_seq (pe_ix (ix_B hu) (pv 0) (pe_int) (fun _ _ => rfl))) (blkOk_by (own := [("other", 2)]) (N := ["model", "mode", "other"]) (sc := defScope s_law_against) (by decide +kernel)) (fun _ _ _ _ _ => (pg_name (i := 2) nd (by rfl) (by first | exact Or.inl rfl | exact Or.inr rfl))) (fun _ _ _ _ _ => (pts_one (PW.pt (pw_or (pt_cmpR (op_inB hu) (pe_tup (pa_cons (pv 1) (pa_cons (pv 2) pa_nil))) (pe_ix (ix_B hu) (pv 0) (pe_int) (fun _ _ => rfl)) (by rfl)) (pw_or1 (pt_cmpR (op_inB hu) (pe_tup (pa_cons (pv 2) (pa_cons (pv 1) pa_nil))) (pe_ix (ix_B hu) (pv 0) (pe_int) (fun _ _ => rfl)) (by rfl))))))) (fun _ _ _ _ _ => (pv 2)))))
theorem ok_law_against (T : Txt P w K mg) (FD : ∃ fd, FunD K "_law_against" "_law_against" (defArgs s_law_against) (defBody s_law_against) (defScope s_law_against) [] [] (He.ga K "_law_against") fd) (hm : mg "_law_against" = some (.ref (He.ga K "_law_against")))   : Fok P w K mg base CX0 1 "_law_against" ["model", "mode"] (sp_law_against K) := by
  obtain ⟨fd, F⟩ := FD
  exact ⟨⟨fd, okf_law_against T F  , F.bindsN fun _ _ _ _ _ _ us hl => match us, hl with | [_, _], _ => rfl⟩, hm, F.kp⟩
theorem sc_law_pairs : FnScope ["model", "modes", "found", "k", "other"] ["model"] (defScope s_law_pairs) := ⟨rfl, rfl, rfl, by decide +kernel, rfl, by decide +kernel, by decide +kernel⟩
theorem okf_law_pairs {fd : FuncData} (T : Txt P w K mg) (F : FunD K "_law_pairs" "_law_pairs" (defArgs s_law_pairs) (defBody s_law_pairs) (defScope s_law_pairs) [] [] (He.ga K "_law_pairs") fd) (F_law_against : Fok P w K mg base CX0 1 "_law_against" ["model", "mode"] (sp_law_against K))  : FnOk P w K mg base CX0 2 (He.ga K "_law_pairs") fd ["model"] (sp_law_pairs K) := by
  have nd := sc_law_pairs.nd
  refine F.ok (k := 1) sc_law_pairs (len_law_pairs K) (fun cdv A outer s H vs Q E hr h => ⟨t_law_pairs K, PSs.nox ?_, pure_law_pairs K vs H Q E h⟩)
  have hu : (A.deeper (envOfC "_law_pairs" (defScope s_law_pairs) s.heap.objs.size (He.ga K "_law_pairs") cdv)).units + 64 < cLine := by
    have h1 := hr.un
    omega
  skip
  exact (pss_cons (ps_set (i := 1) nd (by rfl) (Or.inr rfl) (pe_ix (ix_B hu) (pv 0) (pe_int) (fun _ _ => rfl)))
    (pss_cons (ps_set (i := 2) nd (by rfl) (Or.inl rfl) (pe_lst pa_nil))
    (pss_cons (ps_for PassesOwn.never rfl (pi_range1 (by rfl) T.b_range (pa_cons (pe_callB call_lenB (by rfl) T.b_len (by decide +kernel) (pa_cons (pv 1) pa_nil)) pa_nil)) (pg_name (i := 3) nd (by rfl) (by first | exact Or.inl rfl | exact Or.inr rfl)) (pss_one (ps_set (i := 2) nd (by rfl) (Or.inl rfl) (pe_op op_addA (pv 2) (pe_lc (own := [("other", 4)]) rfl nd (pi_seq (pe_slice sl_A (pv 1) (po_some (pv 3)) po_none)) (blkOk_by (own := [("other", 4)]) (N := ["model", "modes", "found", "k", "other"]) (sc := defScope s_law_pairs) (by decide +kernel)) (fun _ _ _ _ _ => (pg_name (i := 4) nd (by rfl) (by first | exact Or.inl rfl | exact Or.inr rfl))) (fun _ _ _ _ _ => (pts_one (pt_cmpR (op_inB hu) (pv 4) (pe_callF F_law_against (hr.mono (by decide)) (by rfl) pass0 (pa_cons (pv 0) (pa_cons (pe_ix (ix_B hu) (pv 1) (pv 3) (fun _ _ => rfl)) pa_nil))) (by rfl)))) (fun _ _ _ _ _ => (pe_tup (pa_cons (pe_ix (ix_B hu) (pv 1) (pv 3) (fun _ _ => rfl)) (pa_cons (pv 4) pa_nil)))))))))
    (pss_one (ps_ret (pv 2))))))
theorem ok_law_pairs (T : Txt P w K mg) (FD : ∃ fd, FunD K "_law_pairs" "_law_pairs" (defArgs s_law_pairs) (defBody s_law_pairs) (defScope s_law_pairs) [] [] (He.ga K "_law_pairs") fd) (hm : mg "_law_pairs" = some (.ref (He.ga K "_law_pairs"))) (F_law_against : Fok P w K mg base CX0 1 "_law_against" ["model", "mode"] (sp_law_against K))  : Fok P w K mg base CX0 2 "_law_pairs" ["model"] (sp_law_pairs K) := by
  obtain ⟨fd, F⟩ := FD
  exact ⟨⟨fd, okf_law_pairs T F F_law_against , F.bindsN fun _ _ _ _ _ _ us hl => match us, hl with | [_], _ => rfl⟩, hm, F.kp⟩
theorem sc_law_text : FnScope ["model", "pairs", "one", "other"] ["model"] (defScope s_law_text) := ⟨rfl, rfl, rfl, by decide +kernel, rfl, by decide +kernel, by decide +kernel⟩
theorem okf_law_text {fd : FuncData} (T : Txt P w K mg) (F : FunD K "_law_text" "_law_text" (defArgs s_law_text) (defBody s_law_text) (defScope s_law_text) [] [] (He.ga K "_law_text") fd) (F_law_pairs : Fok P w K mg base CX0 2 "_law_pairs" ["model"] (sp_law_pairs K))  : FnOk P w K mg base CX0 3 (He.ga K "_law_text") fd ["model"] (sp_law_text K) := by
  have nd := sc_law_text.nd
  refine F.ok (k := 2) sc_law_text (len_law_text K) (fun cdv A outer s H vs Q E hr h => ⟨t_law_text K, PSs.nox ?_, pure_law_text K vs H Q E h⟩)
  have hu : (A.deeper (envOfC "_law_text" (defScope s_law_text) s.heap.objs.size (He.ga K "_law_text") cdv)).units + 64 < cLine := by
    have h1 := hr.un
    omega
  skip
  exact (pss_cons (ps_set (i := 1) nd (by rfl) (Or.inl rfl) (pe_bmW PySem.F.plainAttrs_str PySem.F.slot_str_join PySem.F.type_str_join mt_join (pe_str) (pa_cons (pe_lc (own := [("one", 2), ("other", 3)]) rfl nd (pi_seq (pe_callF F_law_pairs (hr.mono (by decide)) (by rfl) pass0 (pa_cons (pv 0) pa_nil))) (blkOk_by (own := [("one", 2), ("other", 3)]) (N := ["model", "pairs", "one", "other"]) (sc := defScope s_law_text) (by decide +kernel)) (fun _ _ _ _ _ => (pg_tup (by rfl) (pgs_cons (pg_name (i := 2) nd (by rfl) (by first | exact Or.inl rfl | exact Or.inr rfl)) (pgs_cons (pg_name (i := 3) nd (by rfl) (by first | exact Or.inl rfl | exact Or.inr rfl)) pgs_nil)))) (fun _ _ _ _ _ => pts_nil) (fun _ _ _ _ _ => (pe_op op_addA (pe_op op_addA (pv 2) (pe_str)) (pv 3)))) pa_nil)))
    (pss_one (ps_ret (pe_op op_addA (pe_bmW PySem.F.plainAttrs_str PySem.F.slot_str_join PySem.F.type_str_join mt_join (pe_str) (pa_cons (pe_ix (ix_B hu) (pv 0) (pe_int) (fun _ _ => rfl)) pa_nil)) (pe_ifExp (pt_cmpR (op_neA hu) (pv 1) (pe_str) (nomark _)) (pe_op op_addA (pe_str) (pv 1)) (pe_str))))))
theorem ok_law_text (T : Txt P w K mg) (FD : ∃ fd, FunD K "_law_text" "_law_text" (defArgs s_law_text) (defBody s_law_text) (defScope s_law_text) [] [] (He.ga K "_law_text") fd) (hm : mg "_law_text" = some (.ref (He.ga K "_law_text"))) (F_law_pairs : Fok P w K mg base CX0 2 "_law_pairs" ["model"] (sp_law_pairs K))  : Fok P w K mg base CX0 3 "_law_text" ["model"] (sp_law_text K) := by
  obtain ⟨fd, F⟩ := FD
  exact ⟨⟨fd, okf_law_text T F F_law_pairs , F.bindsN fun _ _ _ _ _ _ us hl => match us, hl with | [_], _ => rfl⟩, hm, F.kp⟩
theorem sc_law_is_name : FnScope ["value", "sign"] ["value"] (defScope s_law_is_name) := ⟨rfl, rfl, rfl, by decide +kernel, rfl, by decide +kernel, by decide +kernel⟩
theorem okf_law_is_name {fd : FuncData} (T : Txt P w K mg) (F : FunD K "_law_is_name" "_law_is_name" (defArgs s_law_is_name) (defBody s_law_is_name) (defScope s_law_is_name) [] [] (He.ga K "_law_is_name") fd)   : FnOk P w K mg base CX0 1 (He.ga K "_law_is_name") fd ["value"] (sp_law_is_name K) := by
  have nd := sc_law_is_name.nd
  refine F.ok (k := 0) sc_law_is_name (len_law_is_name K) (fun cdv A outer s H vs Q E hr h => ⟨t_law_is_name K, PSs.nox ?_, pure_law_is_name K vs H Q E h⟩)
  have hu : (A.deeper (envOfC "_law_is_name" (defScope s_law_is_name) s.heap.objs.size (He.ga K "_law_is_name") cdv)).units + 64 < cLine := by
    have h1 := hr.un
    omega
  skip
  exact (pss_cons (ps_if (PW.pt (pw_or (pt_cmpR (op_eqA hu) (pv 0) (pe_str) (nomark _)) (pw_or (pt_cmpR op_ltA (pe_callB call_lenB (by rfl) T.b_len (by decide +kernel) (pa_cons (pv 0) pa_nil)) (pe_int) (nomark _)) (pw_or1 (pt_cmpR op_gtA (pe_callB call_lenB (by rfl) T.b_len (by decide +kernel) (pa_cons (pv 0) pa_nil)) (pe_int) (nomark _)))))) (pss_one (ps_ret (pe_bl))) pss_nil)
    (pss_one (ps_ret (pe_cmpR (op_eqA hu) (pe_lc (own := [("sign", 1)]) rfl nd (pi_seq (pv 0)) (blkOk_by (own := [("sign", 1)]) (N := ["value", "sign"]) (sc := defScope s_law_is_name) (by decide +kernel)) (fun _ _ _ _ _ => (pg_name (i := 1) nd (by rfl) (by first | exact Or.inl rfl | exact Or.inr rfl))) (fun _ _ _ _ _ => (pts_one (pt_cmpR (op_ninB hu) (pv 1) (pe_str) (by rfl)))) (fun _ _ _ _ _ => (pv 1))) (pe_lst pa_nil) (nomark _)))))
theorem ok_law_is_name (T : Txt P w K mg) (FD : ∃ fd, FunD K "_law_is_name" "_law_is_name" (defArgs s_law_is_name) (defBody s_law_is_name) (defScope s_law_is_name) [] [] (He.ga K "_law_is_name") fd) (hm : mg "_law_is_name" = some (.ref (He.ga K "_law_is_name")))   : Fok P w K mg base CX0 1 "_law_is_name" ["value"] (sp_law_is_name K) := by
  obtain ⟨fd, F⟩ := FD
  exact ⟨⟨fd, okf_law_is_name T F  , F.bindsN fun _ _ _ _ _ _ us hl => match us, hl with | [_], _ => rfl⟩, hm, F.kp⟩
theorem sc_law_read : FnScope ["text", "halves", "modes", "names", "pairs", "word", "parts", "k"] ["text"] (defScope s_law_read) := ⟨rfl, rfl, rfl, by decide +kernel, rfl, by decide +kernel, by decide +kernel⟩
theorem okf_law_read {fd : FuncData} (T : Txt P w K mg) (F : FunD K "_law_read" "_law_read" (defArgs s_law_read) (defBody s_law_read) (defScope s_law_read) [] [] (He.ga K "_law_read") fd) (F_law_is_name : Fok P w K mg base CX0 1 "_law_is_name" ["value"] (sp_law_is_name K)) (F_law_text : Fok P w K mg base CX0 3 "_law_text" ["model"] (sp_law_text K))  : FnOk P w K mg base CX0 4 (He.ga K "_law_read") fd ["text"] (sp_law_read K) := by
  have nd := sc_law_read.nd
  refine F.ok (k := 3) sc_law_read (len_law_read K) (fun cdv A outer s H vs Q E hr h => ⟨t_law_read K, PSs.nox ?_, pure_law_read K vs H Q E h⟩)
  have hu : (A.deeper (envOfC "_law_read" (defScope s_law_read) s.heap.objs.size (He.ga K "_law_read") cdv)).units + 64 < cLine := by
    have h1 := hr.un
    omega
  skip
  exact (pss_cons (ps_set (i := 1) nd (by rfl) (Or.inl rfl) (pe_bmW PySem.F.plainAttrs_str PySem.F.slot_str_split PySem.F.type_str_split mt_split (pv 0) (pa_cons (pe_str) pa_nil)))
    (pss_cons (ps_set (i := 2) nd (by rfl) (Or.inr rfl) (pe_bmW PySem.F.plainAttrs_str PySem.F.slot_str_split PySem.F.type_str_split mt_split (pe_ix (ix_B hu) (pv 1) (pe_int) (fun _ _ => rfl)) (pa_cons (pe_str) pa_nil)))
    (pss_cons (ps_setLc (own := [("k", 7)]) (i := 3) rfl nd rfl rfl (sw_true rfl rfl rfl (by decide +kernel)) (pi_range1 (by rfl) T.b_range (pa_cons (pe_callB call_lenB (by rfl) T.b_len (by decide +kernel) (pa_cons (pv 2) pa_nil)) pa_nil)) (blkOk_by (own := [("k", 7)]) (N := ["text", "halves", "modes", "names", "pairs", "word", "parts", "k"]) (sc := defScope s_law_read) (by decide +kernel)) (fun _ _ _ _ _ => (pg_name (i := 7) nd (by rfl) (by first | exact Or.inl rfl | exact Or.inr rfl))) (fun _ _ _ _ _ => (pts_one (PW.pt (pw_or (pt_not (pt_val (pe_callF F_law_is_name (hr.mono (by decide)) (by rfl) pass0 (pa_cons (pe_ix (ix_B hu) (pv 2) (pv 7) (fun _ _ => rfl)) pa_nil)))) (pw_or1 (pt_cmpR (op_inB hu) (pe_ix (ix_B hu) (pv 2) (pv 7) (fun _ _ => rfl)) (pe_slice sl_A (pv 2) po_none (po_some (pv 7))) (by rfl))))))) (fun _ _ _ _ _ => (pv 7)))
    (pss_cons (ps_if (PW.pt (pw_or (pt_cmpR op_gtA (pe_callB call_lenB (by rfl) T.b_len (by decide +kernel) (pa_cons (pv 1) pa_nil)) (pe_int) (nomark _)) (pw_or (pt_cmpR (op_neA hu) (pv 3) (pe_lst pa_nil) (nomark _)) (pw_or1 (pt_cmpR op_gtA (pe_callB call_lenB (by rfl) T.b_len (by decide +kernel) (pa_cons (pv 2) pa_nil)) (pe_int) (nomark _)))))) (pss_one (ps_ret (pe_non))) pss_nil)
    (pss_cons (ps_set (i := 4) nd (by rfl) (Or.inl rfl) (pe_lst pa_nil))
    (pss_cons (ps_for PassesOwn.never rfl (pi_seq (pe_ifExp (pt_cmpR (op_eqA hu) (pe_callB call_lenB (by rfl) T.b_len (by decide +kernel) (pa_cons (pv 1) pa_nil)) (pe_int) (nomark _)) (pe_bmW PySem.F.plainAttrs_str PySem.F.slot_str_split PySem.F.type_str_split mt_split (pe_ix (ix_B hu) (pv 1) (pe_int) (fun _ _ => rfl)) (pa_cons (pe_str) pa_nil)) (pe_lst pa_nil))) (pg_name (i := 5) nd (by rfl) (by first | exact Or.inl rfl | exact Or.inr rfl)) (pss_cons (ps_set (i := 6) nd (by rfl) (Or.inl rfl) (pe_bmW PySem.F.plainAttrs_str PySem.F.slot_str_split PySem.F.type_str_split mt_split (pv 5) (pa_cons (pe_str) pa_nil)))
    (pss_cons (ps_if (PW.pt (pw_or (pt_cmpR (op_neA hu) (pe_callB call_lenB (by rfl) T.b_len (by decide +kernel) (pa_cons (pv 6) pa_nil)) (pe_int) (nomark _)) (pw_or (pt_cmpR (op_ninB hu) (pe_ix (ix_B hu) (pv 6) (pe_int) (fun _ _ => rfl)) (pv 2) (by rfl)) (pw_or1 (pt_cmpR (op_ninB hu) (pe_ix (ix_B hu) (pv 6) (pe_int) (fun _ _ => rfl)) (pv 2) (by rfl)))))) (pss_one (ps_ret (pe_non))) pss_nil)
    (pss_one (ps_expr (pe_bmW PySem.F.plainAttrs_list PySem.F.slot_list_append PySem.F.type_list_append mt_append (pv 4) (pa_cons (pe_tup (pa_cons (pe_ix (ix_B hu) (pv 6) (pe_int) (fun _ _ => rfl)) (pa_cons (pe_ix (ix_B hu) (pv 6) (pe_int) (fun _ _ => rfl)) pa_nil))) pa_nil)))))))
    (pss_one (ps_ret (pe_ifExp (pt_cmpR (op_eqA hu) (pe_callF F_law_text (hr.mono (by decide)) (by rfl) pass0 (pa_cons (pe_lst (pa_cons (pv 2) (pa_cons (pv 4) pa_nil))) pa_nil)) (pv 0) (nomark _)) (pe_lst (pa_cons (pv 2) (pa_cons (pv 4) pa_nil))) (pe_non))))))))))
theorem ok_law_read (T : Txt P w K mg) (FD : ∃ fd, FunD K "_law_read" "_law_read" (defArgs s_law_read) (defBody s_law_read) (defScope s_law_read) [] [] (He.ga K "_law_read") fd) (hm : mg "_law_read" = some (.ref (He.ga K "_law_read"))) (F_law_is_name : Fok P w K mg base CX0 1 "_law_is_name" ["value"] (sp_law_is_name K)) (F_law_text : Fok P w K mg base CX0 3 "_law_text" ["model"] (sp_law_text K))  : Fok P w K mg base CX0 4 "_law_read" ["text"] (sp_law_read K) := by
  obtain ⟨fd, F⟩ := FD
  exact ⟨⟨fd, okf_law_read T F F_law_is_name F_law_text , F.bindsN fun _ _ _ _ _ _ us hl => match us, hl with | [_], _ => rfl⟩, hm, F.kp⟩
theorem sc_law_told : FnScope ["value", "e"] ["value"] (defScope s_law_told) := ⟨rfl, rfl, rfl, by decide +kernel, rfl, by decide +kernel, by decide +kernel⟩
theorem okf_law_told {fd : FuncData} (T : Txt P w K mg) (F : FunD K "_law_told" "_law_told" (defArgs s_law_told) (defBody s_law_told) (defScope s_law_told) [] [] (He.ga K "_law_told") fd) (F_read_strengths : Fok P w K mg base (L2.CX P w) 6 "read_strengths" ["text"] (sp_read_strengths K))  : FnOk P w K mg base CX0 7 (He.ga K "_law_told") fd ["value"] (sp_law_told K) := by
  have nd := sc_law_told.nd
  refine F.ok (k := 6) sc_law_told (len_law_told K) (fun cdv A outer s H vs Q E hr h => ⟨t_law_told K, PSs.nox ?_, pure_law_told K vs H Q E T.exm h⟩)
  have hu : (A.deeper (envOfC "_law_told" (defScope s_law_told) s.heap.objs.size (He.ga K "_law_told") cdv)).units + 64 < cLine := by
    have h1 := hr.un
    omega
  skip
  exact (pss_one (ps_try_mix (tb := fun W => (tRet (tLst (tCons (tC (.str "read")) (tCons (tCallS (sp_read_strengths K) (WE W) (tCons (tVar 0) tNil)) tNil))))) (Wout := (fun _ _ _ _ => False)) (l := (.ref (He.ga K "InvalidText"), some 1, fun a cls d => (tRet (tLst (tCons (tC (.str "text")) (tCons (tXf a cls d (He.ga K "InvalidText") "value" (tVar 1)) tNil))))) :: ([])) rfl rfl takes_none5 (fun W pn xe tk po => (pss_one (ps_ret (pe_lst (pa_cons (pe_str) (pa_cons (pe_callG F_read_strengths (hr.mono (by decide)) (by rfl) tk (pa_cons (pv 0) pa_nil)) pa_nil)))))) (HdZ.as_ nd (by rfl) rfl ⟨by rfl, by decide, Or.inl T.g_InvalidText⟩ (fun a oe cls d pn hz hf => (pss_one (ps_ret (pe_lst (pa_cons (pe_str) (pa_cons (pe_xf T.xf_InvalidText T.na_InvalidText_value hz hf (pv 1)) pa_nil)))))) HdZ.nil)))
theorem ok_law_told (T : Txt P w K mg) (FD : ∃ fd, FunD K "_law_told" "_law_told" (defArgs s_law_told) (defBody s_law_told) (defScope s_law_told) [] [] (He.ga K "_law_told") fd) (hm : mg "_law_told" = some (.ref (He.ga K "_law_told"))) (F_read_strengths : Fok P w K mg base (L2.CX P w) 6 "read_strengths" ["text"] (sp_read_strengths K))  : Fok P w K mg base CX0 7 "_law_told" ["value"] (sp_law_told K) := by
  obtain ⟨fd, F⟩ := FD
  exact ⟨⟨fd, okf_law_told T F F_read_strengths , F.bindsN fun _ _ _ _ _ _ us hl => match us, hl with | [_], _ => rfl⟩, hm, F.kp⟩
theorem sc_law_bent : FnScope ["box", "text", "at", "more", "head", "tail"] ["box", "text"] (defScope s_law_bent) := ⟨rfl, rfl, rfl, by decide +kernel, rfl, by decide +kernel, by decide +kernel⟩
theorem okf_law_bent {fd : FuncData} (T : Txt P w K mg) (F : FunD K "_law_bent" "_law_bent" (defArgs s_law_bent) (defBody s_law_bent) (defScope s_law_bent) [] [] (He.ga K "_law_bent") fd) (F_law_take : Fok P w K mg base CX0 1 "_law_take" ["box", "many"] (sp_law_take K))  : FnOk P w K mg base CX0 2 (He.ga K "_law_bent") fd ["box", "text"] (sp_law_bent K) := by
  have nd := sc_law_bent.nd
  refine F.ok (k := 1) sc_law_bent (len_law_bent K) (fun cdv A outer s H vs Q E hr h => ⟨t_law_bent K, PSs.nox ?_, pure_law_bent K vs H Q E h⟩)
  have hu : (A.deeper (envOfC "_law_bent" (defScope s_law_bent) s.heap.objs.size (He.ga K "_law_bent") cdv)).units + 64 < cLine := by
    have h1 := hr.un
    omega
  skip
  exact (pss_cons (ps_set (i := 2) nd (by rfl) (Or.inl rfl) (pe_callF F_law_take (hr.mono (by decide)) (by rfl) pass0 (pa_cons (pv 0) (pa_cons (pe_op op_addA (pe_callB call_lenB (by rfl) T.b_len (by decide +kernel) (pa_cons (pv 1) pa_nil)) (pe_int)) pa_nil))))
    (pss_cons (ps_set (i := 3) nd (by rfl) (Or.inl rfl) (pe_ix (ix_B hu) (pe_lst (pa_cons (pe_str) (pa_cons (pe_str) (pa_cons (pe_str) (pa_cons (pe_str) (pa_cons (pe_str) (pa_cons (pe_str) (pa_cons (pe_str) (pa_cons (pe_str) (pa_cons (pe_str) (pa_cons (pe_str) (pa_cons (pe_str) pa_nil)))))))))))) (pe_callF F_law_take (hr.mono (by decide)) (by rfl) pass0 (pa_cons (pv 0) (pa_cons (pe_int) pa_nil))) (fun _ _ => rfl)))
    (pss_cons (ps_par (by rfl) nd rfl rfl (by decide) rfl rfl (pa_cons (pe_slice sl_A (pv 1) po_none (po_some (pv 2))) (pa_cons (pe_slice sl_A (pv 1) (po_some (pe_op op_addA (pv 2) (pe_int))) po_none) pa_nil)) (by rfl))
    (pss_one (ps_ret (pe_ix (ix_B hu) (pe_lst (pa_cons (pe_op op_addA (pe_op op_addA (pv 4) (pv 3)) (pe_slice sl_A (pv 1) (po_some (pv 2)) po_none)) (pa_cons (pe_op op_addA (pv 4) (pv 5)) (pa_cons (pe_op op_addA (pe_op op_addA (pv 4) (pv 3)) (pv 5)) pa_nil)))) (pe_callF F_law_take (hr.mono (by decide)) (by rfl) pass0 (pa_cons (pv 0) (pa_cons (pe_int) pa_nil))) (fun _ _ => rfl)))))))
theorem ok_law_bent (T : Txt P w K mg) (FD : ∃ fd, FunD K "_law_bent" "_law_bent" (defArgs s_law_bent) (defBody s_law_bent) (defScope s_law_bent) [] [] (He.ga K "_law_bent") fd) (hm : mg "_law_bent" = some (.ref (He.ga K "_law_bent"))) (F_law_take : Fok P w K mg base CX0 1 "_law_take" ["box", "many"] (sp_law_take K))  : Fok P w K mg base CX0 2 "_law_bent" ["box", "text"] (sp_law_bent K) := by
  obtain ⟨fd, F⟩ := FD
  exact ⟨⟨fd, okf_law_bent T F F_law_take , F.bindsN fun _ _ _ _ _ _ us hl => match us, hl with | [_, _], _ => rfl⟩, hm, F.kp⟩
theorem sc_law : FnScope ["script", "k", "box", "model", "strengths", "text", "turn", "bent", "due", "told", "odd"] ["script"] (defScope s_law) := ⟨rfl, rfl, rfl, by decide +kernel, rfl, by decide +kernel, by decide +kernel⟩
theorem okf_law {fd : FuncData} (T : Txt P w K mg) (F : FunD K "law" "law" (defArgs s_law) (defBody s_law) (defScope s_law) [] [] (He.ga K "law") fd) (F_law_box : Fok P w K mg base CX0 1 "_law_box" ["cell"] (sp_law_box K)) (F_law_cell : Fok P w K mg base CX0 1 "_law_cell" ["script", "k"] (sp_law_cell K)) (F_law_modes : Fok P w K mg base CX0 4 "_law_modes" ["box", "most"] (sp_law_modes K)) (F_law_text : Fok P w K mg base CX0 3 "_law_text" ["model"] (sp_law_text K)) (F_read_strengths : Fok P w K mg base (L2.CX P w) 6 "read_strengths" ["text"] (sp_read_strengths K)) (F_law_bent : Fok P w K mg base CX0 2 "_law_bent" ["box", "text"] (sp_law_bent K)) (F_law_read : Fok P w K mg base CX0 4 "_law_read" ["text"] (sp_law_read K)) (F_law_told : Fok P w K mg base CX0 7 "_law_told" ["value"] (sp_law_told K)) (F_law_take : Fok P w K mg base CX0 1 "_law_take" ["box", "many"] (sp_law_take K)) (G_Strengths_init_2_ : FokM P w K mg base (L2N.CX P w) 3 "Strengths" "__init__" ["self", "modes", "clashes"] (sp_Strengths_init K) 2 [] [] [0, 1, 2]) (G_Strengths_str_0_ : FokM P w K mg base CX0 2 "Strengths" "__str__" ["self"] (sp_Strengths_str K) 0 [] [] [0]) (G_Strengths_eq_1_ : FokM P w K mg base CX0 1 "Strengths" "__eq__" ["self", "other"] (sp_Strengths_eq K) 1 [] [] [0, 1]) : FnOk P w K mg base CX0 8 (He.ga K "law") fd ["script"] (sp_law K) := by
  have nd := sc_law.nd
  refine F.ok (k := 7) sc_law (len_law K) (fun cdv A outer s H vs Q E hr h => ⟨t_law K, PSs.nox ?_, pure_law K vs H Q E h⟩)
  have hu : (A.deeper (envOfC "law" (defScope s_law) s.heap.objs.size (He.ga K "law") cdv)).units + 64 < cLine := by
    have h1 := hr.un
    omega
  skip
  exact (pss_cons (ps_for PassesOwn.never rfl (pi_range1 (by rfl) T.b_range (pa_cons (pe_callB (call_maxA rfl) (by rfl) T.b_max (by decide +kernel) (pa_cons (pe_int) (pa_cons (pe_callB (call_minA rfl) (by rfl) T.b_min (by decide +kernel) (pa_cons (pe_int) (pa_cons (pe_callB call_lenB (by rfl) T.b_len (by decide +kernel) (pa_cons (pv 0) pa_nil)) pa_nil))) pa_nil))) pa_nil)) (pg_name (i := 1) nd (by rfl) (by first | exact Or.inl rfl | exact Or.inr rfl)) (pss_cons (ps_set (i := 2) nd (by rfl) (Or.inl rfl) (pe_callF F_law_box (hr.mono (by decide)) (by rfl) pass0 (pa_cons (pe_callF F_law_cell (hr.mono (by decide)) (by rfl) pass0 (pa_cons (pv 0) (pa_cons (pv 1) pa_nil))) pa_nil)))
    (pss_cons (ps_set (i := 3) nd (by rfl) (Or.inl rfl) (pe_callF F_law_modes (hr.mono (by decide)) (by rfl) pass0 (pa_cons (pv 2) (pa_cons (pe_int) pa_nil))))
    (pss_cons (ps_par (by rfl) nd rfl rfl (by decide) rfl rfl (pa_cons (pe_makeP T.mk_Strengths G_Strengths_init_2_ (hr.mono (by decide)) (by rfl) T.g_Strengths passAtLN (pa_cons (pe_ix (ix_B hu) (pv 3) (pe_int) (fun _ _ => rfl)) (pa_cons (pe_ix (ix_B hu) (pv 3) (pe_int) (fun _ _ => rfl)) pa_nil)) pk_nil) (pa_cons (pe_callF F_law_text (hr.mono (by decide)) (by rfl) pass0 (pa_cons (pv 3) pa_nil)) pa_nil)) (by rfl))
    (pss_cons (ps_if (PW.pt (pw_or (pt_cmpR (op_neA hu) (pe_callTy (call_strO T.me_Strengths_str G_Strengths_str_0_ (hr.mono (by decide))) (by rfl) T.b_str (by decide +kernel) (pa_cons (pv 4) pa_nil)) (pv 5) (nomark _)) (pw_or1 (pt_not (pt_cmpR (op_eqO T.me_Strengths_eq G_Strengths_eq_1_ (hr.mono (by decide))) (pe_callF F_read_strengths (hr.mono (by decide)) (by rfl) passL (pa_cons (pv 5) pa_nil)) (pv 4) (nomark _)))))) (pss_one (ps_ret (pe_bl))) pss_nil)
    (pss_cons (ps_for PassesOwn.never rfl (pi_range1 (by rfl) T.b_range (pa_cons (pe_int) pa_nil)) (pg_name (i := 6) nd (by rfl) (by first | exact Or.inl rfl | exact Or.inr rfl)) (pss_cons (ps_set (i := 7) nd (by rfl) (Or.inl rfl) (pe_callF F_law_bent (hr.mono (by decide)) (by rfl) pass0 (pa_cons (pv 2) (pa_cons (pe_ifExp (pt_cmpR op_ltA (pv 6) (pe_int) (nomark _)) (pv 5) (pe_callF F_law_bent (hr.mono (by decide)) (by rfl) pass0 (pa_cons (pv 2) (pa_cons (pv 5) pa_nil)))) pa_nil))))
    (pss_cons (ps_set (i := 8) nd (by rfl) (Or.inl rfl) (pe_callF F_law_read (hr.mono (by decide)) (by rfl) pass0 (pa_cons (pv 7) pa_nil)))
    (pss_cons (ps_set (i := 9) nd (by rfl) (Or.inl rfl) (pe_callF F_law_told (hr.mono (by decide)) (by rfl) pass0 (pa_cons (pv 7) pa_nil)))
    (pss_cons (ps_if (PW.pt (pw_or (PW.pt (pw_and (pt_cmpR op_isA (pv 8) (pe_non) (nomark _)) (pw_and1 (pt_cmpR (op_neA hu) (pv 9) (pe_lst (pa_cons (pe_str) (pa_cons (pv 7) pa_nil))) (nomark _))))) (pw_or1 (PW.pt (pw_and (pt_cmpR op_notA (pv 8) (pe_non) (nomark _)) (pw_and1 (pt_cmpR (op_neA hu) (pe_ix (ix_B hu) (pv 9) (pe_int) (fun _ _ => rfl)) (pe_str) (nomark _)))))))) (pss_one (ps_ret (pe_bl))) pss_nil)
    (pss_cons (ps_if (PW.pt (pw_and (pt_cmpR op_notA (pv 8) (pe_non) (nomark _)) (pw_and1 (pt_cmpR (op_neA hu) (pe_callTy (call_strO T.me_Strengths_str G_Strengths_str_0_ (hr.mono (by decide))) (by rfl) T.b_str (by decide +kernel) (pa_cons (pe_ix (ix_B hu) (pv 9) (pe_int) (fun _ _ => rfl)) pa_nil)) (pv 7) (nomark _))))) (pss_one (ps_ret (pe_bl))) pss_nil)
    (pss_one (ps_if (PW.pt (pw_and (pt_cmpR op_notA (pv 8) (pe_non) (nomark _)) (pw_and1 (pt_not (pt_cmpR (op_eqO T.me_Strengths_eq G_Strengths_eq_1_ (hr.mono (by decide))) (pe_ix (ix_B hu) (pv 9) (pe_int) (fun _ _ => rfl)) (pe_makeP T.mk_Strengths G_Strengths_init_2_ (hr.mono (by decide)) (by rfl) T.g_Strengths passAtLN (pa_cons (pe_ix (ix_B hu) (pv 8) (pe_int) (fun _ _ => rfl)) (pa_cons (pe_ix (ix_B hu) (pv 8) (pe_int) (fun _ _ => rfl)) pa_nil)) pk_nil) (nomark _)))))) (pss_one (ps_ret (pe_bl))) pss_nil))))))))
    (pss_cons (ps_set (i := 10) nd (by rfl) (Or.inl rfl) (pe_ix (ix_B hu) (pe_lst (pa_cons (pe_non) (pa_cons (pe_int) (pa_cons (pe_bl) (pa_cons (pe_lst (pa_cons (pv 5) pa_nil)) (pa_cons (pe_str) (pa_cons (pe_str) (pa_cons (pv 4) (pa_cons (pe_dnewK) (pa_cons (pe_str) (pa_cons (pe_str) pa_nil))))))))))) (pe_callF F_law_take (hr.mono (by decide)) (by rfl) pass0 (pa_cons (pv 2) (pa_cons (pe_int) pa_nil))) (fun _ _ => rfl)))
    (pss_one (ps_if (pt_cmpR (op_neE hu) (pe_callF F_law_told (hr.mono (by decide)) (by rfl) pass0 (pa_cons (pv 10) pa_nil)) (pe_lst (pa_cons (pe_str) (pa_cons (pv 10) pa_nil))) (nomark _)) (pss_one (ps_ret (pe_bl))) pss_nil)))))))))
    (pss_one (ps_ret (pe_bl))))
theorem ok_law (T : Txt P w K mg) (FD : ∃ fd, FunD K "law" "law" (defArgs s_law) (defBody s_law) (defScope s_law) [] [] (He.ga K "law") fd) (hm : mg "law" = some (.ref (He.ga K "law"))) (F_law_box : Fok P w K mg base CX0 1 "_law_box" ["cell"] (sp_law_box K)) (F_law_cell : Fok P w K mg base CX0 1 "_law_cell" ["script", "k"] (sp_law_cell K)) (F_law_modes : Fok P w K mg base CX0 4 "_law_modes" ["box", "most"] (sp_law_modes K)) (F_law_text : Fok P w K mg base CX0 3 "_law_text" ["model"] (sp_law_text K)) (F_read_strengths : Fok P w K mg base (L2.CX P w) 6 "read_strengths" ["text"] (sp_read_strengths K)) (F_law_bent : Fok P w K mg base CX0 2 "_law_bent" ["box", "text"] (sp_law_bent K)) (F_law_read : Fok P w K mg base CX0 4 "_law_read" ["text"] (sp_law_read K)) (F_law_told : Fok P w K mg base CX0 7 "_law_told" ["value"] (sp_law_told K)) (F_law_take : Fok P w K mg base CX0 1 "_law_take" ["box", "many"] (sp_law_take K)) (G_Strengths_init_2_ : FokM P w K mg base (L2N.CX P w) 3 "Strengths" "__init__" ["self", "modes", "clashes"] (sp_Strengths_init K) 2 [] [] [0, 1, 2]) (G_Strengths_str_0_ : FokM P w K mg base CX0 2 "Strengths" "__str__" ["self"] (sp_Strengths_str K) 0 [] [] [0]) (G_Strengths_eq_1_ : FokM P w K mg base CX0 1 "Strengths" "__eq__" ["self", "other"] (sp_Strengths_eq K) 1 [] [] [0, 1]) : Fok P w K mg base CX0 8 "law" ["script"] (sp_law K) := by
  obtain ⟨fd, F⟩ := FD
  exact ⟨⟨fd, okf_law T F F_law_box F_law_cell F_law_modes F_law_text F_read_strengths F_law_bent F_law_read F_law_told F_law_take G_Strengths_init_2_ G_Strengths_str_0_ G_Strengths_eq_1_, F.bindsN fun _ _ _ _ _ _ us hl => match us, hl with | [_], _ => rfl⟩, hm, F.kp⟩
end
/-! ### the head's facts -/
theorem all_ok {P : Program} {w : World} {K : PySem.W.Frag} {h : Heap} {mg : Str → Option Value} {f : Addr} (hPf : P.main.file = PySem.Challenge.pw_shiftparts_k18_texts_of_strengths.main.file) (hPs : (P.main.scope.names.lookup ("super" : Str)).isSome = false) (X : K.In h) (G : h.Ns mainGlobals mg) (hfa : mg ("law" : Str) = some (.ref f)) (c : SaysX fa fn fs cu ts pr w K) :
    ∃ fd : FuncData, (∀ (s : Shared) (v : Value), BindsTo s fd ⟨[v], []⟩ [("script", v)]) ∧ ∀ base : Heap, K.In base → base.Ns mainGlobals mg → FnOk P w K mg base CX0 8 f fd ["script"] (sp_law K) := by
  have T : Txt P w K mg := ⟨(He.free_ok X G (c.fact 0 (f := .free "all") rfl)),
    (He.free_ok X G (c.fact 1 (f := .free "enumerate") rfl)),
    (He.free_ok X G (c.fact 2 (f := .free "isinstance") rfl)),
    (He.free_ok X G (c.fact 3 (f := .free "len") rfl)),
    (He.free_ok X G (c.fact 4 (f := .free "list") rfl)),
    (He.free_ok X G (c.fact 5 (f := .free "max") rfl)),
    (He.free_ok X G (c.fact 6 (f := .free "min") rfl)),
    (He.free_ok X G (c.fact 7 (f := .free "range") rfl)),
    (He.free_ok X G (c.fact 8 (f := .free "str") rfl)),
    (He.free_ok X G (c.fact 9 (f := .free "super") rfl)),
    (He.free_ok X G (c.fact 10 (f := .free "tuple") rfl)),
    (He.glo_ok X G (c.fact 11 (f := .glo "Duplicate") rfl)),
    (He.glo_ok X G (c.fact 12 (f := .glo "InvalidClash") rfl)),
    (He.glo_ok X G (c.fact 13 (f := .glo "InvalidModes") rfl)),
    (He.glo_ok X G (c.fact 14 (f := .glo "InvalidName") rfl)),
    (He.glo_ok X G (c.fact 15 (f := .glo "InvalidStrengths") rfl)),
    (He.glo_ok X G (c.fact 16 (f := .glo "InvalidText") rfl)),
    (He.str_ok X G (c.fact 17 (f := .str "LETTERS" "abcdefghijklmnopqrstuvwxyz") rfl)),
    (He.int_ok X G (c.fact 18 (f := .int "MOST_LETTERS" 8) rfl)),
    (He.int_ok X G (c.fact 19 (f := .int "MOST_MODES" 8) rfl)),
    (He.int_ok X G (c.fact 20 (f := .int "MOST_SIGNS" 4000) rfl)),
    (He.glo_ok X G (c.fact 21 (f := .glo "PartsError") rfl)),
    (He.str_ok X G (c.fact 22 (f := .str "SIGN" "!") rfl)),
    (He.glo_ok X G (c.fact 23 (f := .glo "Strengths") rfl)),
    (He.str_ok X G (c.fact 24 (f := .str "TABLE" "table") rfl)),
    (He.glo_ok X G (c.fact 25 (f := .glo "UnknownMode") rfl)),
    (He.cls_ok (c.fact 26 (f := .cls "Strengths") rfl)),
    (He.mkr_ok (c.fact 29 (f := .mkr "Strengths") rfl)),
    (He.meth_ok (c.fact 30 (f := .meth "Strengths" "__eq__") rfl)),
    (He.meth_ok (c.fact 31 (f := .meth "Strengths" "__str__") rfl)),
    (He.meth_ok (c.fact 32 (f := .meth "Strengths" "clashes") rfl)),
    (He.meth_ok (c.fact 33 (f := .meth "Strengths" "need") rfl)),
    ⟨(He.cls_ok (c.fact 26 (f := .cls "Strengths") rfl)), (isoB_ok (He.cls_ok (c.fact 26 (f := .cls "Strengths") rfl)) (c.own 0 (f := fun K => isoB K (He.ga K "Strengths")) rfl)), (He.noat_ok (c.fact 27 (f := .noat "Strengths" "own_modes") rfl)), (He.noat_ok (c.fact 28 (f := .noat "Strengths" "against") rfl))⟩,
    (chkname_ok (P0 := PySem.Challenge.pw_shiftparts_k18_texts_of_strengths) (He.glo_ok X G (c.fact 11 (f := .glo "Duplicate") rfl)) (He.free_ok X G (c.fact 9 (f := .free "super") rfl)) hPf hPs (c.init 0 (f := (("Duplicate", some "__init__"), some ("__init__", "Duplicate.__init__", (PySem.Sxname.iA ⟨34, 17, 34, 21⟩ ⟨34, 23, 34, 27⟩), FuncBody.stmts (PySem.Sxname.iB "the name comes twice" ⟨35, 8, 35, 13⟩ ⟨35, 8, 35, 15⟩ ⟨35, 8, 35, 24⟩ ⟨35, 25, 35, 47⟩ ⟨35, 8, 35, 48⟩ ⟨35, 8, 35, 48⟩ ⟨36, 8, 36, 12⟩ ⟨36, 8, 36, 17⟩ ⟨36, 20, 36, 24⟩ ⟨36, 8, 36, 24⟩), PySem.Sxname.iS, mainGlobals, [("__class__" : Str)], builtinsNs))) rfl) (by decide) (c.own 1 (f := fun K => Chkname PySem.Challenge.pw_shiftparts_k18_texts_of_strengths K "Duplicate") rfl)),
    (chkvalue_ok (P0 := PySem.Challenge.pw_shiftparts_k18_texts_of_strengths) (He.glo_ok X G (c.fact 12 (f := .glo "InvalidClash") rfl)) (He.free_ok X G (c.fact 9 (f := .free "super") rfl)) hPf hPs (c.init 1 (f := (("InvalidClash", some "__init__"), some ("__init__", "InvalidClash.__init__", (PySem.Sxvalue.iA ⟨19, 17, 19, 21⟩ ⟨19, 23, 19, 28⟩), FuncBody.stmts (PySem.Sxvalue.iB "the value is not a clash" ⟨20, 8, 20, 13⟩ ⟨20, 8, 20, 15⟩ ⟨20, 8, 20, 24⟩ ⟨20, 25, 20, 51⟩ ⟨20, 8, 20, 52⟩ ⟨20, 8, 20, 52⟩ ⟨21, 8, 21, 12⟩ ⟨21, 8, 21, 18⟩ ⟨21, 21, 21, 26⟩ ⟨21, 8, 21, 26⟩), PySem.Sxvalue.iS, mainGlobals, [("__class__" : Str)], builtinsNs))) rfl) (by decide) (c.own 2 (f := fun K => Chkvalue PySem.Challenge.pw_shiftparts_k18_texts_of_strengths K "InvalidClash") rfl)),
    (chkvalue_ok (P0 := PySem.Challenge.pw_shiftparts_k18_texts_of_strengths) (He.glo_ok X G (c.fact 13 (f := .glo "InvalidModes") rfl)) (He.free_ok X G (c.fact 9 (f := .free "super") rfl)) hPf hPs (c.init 2 (f := (("InvalidModes", some "__init__"), some ("__init__", "InvalidModes.__init__", (PySem.Sxvalue.iA ⟨14, 17, 14, 21⟩ ⟨14, 23, 14, 28⟩), FuncBody.stmts (PySem.Sxvalue.iB "the value is not a list of modes" ⟨15, 8, 15, 13⟩ ⟨15, 8, 15, 15⟩ ⟨15, 8, 15, 24⟩ ⟨15, 25, 15, 59⟩ ⟨15, 8, 15, 60⟩ ⟨15, 8, 15, 60⟩ ⟨16, 8, 16, 12⟩ ⟨16, 8, 16, 18⟩ ⟨16, 21, 16, 26⟩ ⟨16, 8, 16, 26⟩), PySem.Sxvalue.iS, mainGlobals, [("__class__" : Str)], builtinsNs))) rfl) (by decide) (c.own 3 (f := fun K => Chkvalue PySem.Challenge.pw_shiftparts_k18_texts_of_strengths K "InvalidModes") rfl)),
    (chkvalue_ok (P0 := PySem.Challenge.pw_shiftparts_k18_texts_of_strengths) (He.glo_ok X G (c.fact 14 (f := .glo "InvalidName") rfl)) (He.free_ok X G (c.fact 9 (f := .free "super") rfl)) hPf hPs (c.init 3 (f := (("InvalidName", some "__init__"), some ("__init__", "InvalidName.__init__", (PySem.Sxvalue.iA ⟨9, 17, 9, 21⟩ ⟨9, 23, 9, 28⟩), FuncBody.stmts (PySem.Sxvalue.iB "the value is not a name" ⟨10, 8, 10, 13⟩ ⟨10, 8, 10, 15⟩ ⟨10, 8, 10, 24⟩ ⟨10, 25, 10, 50⟩ ⟨10, 8, 10, 51⟩ ⟨10, 8, 10, 51⟩ ⟨11, 8, 11, 12⟩ ⟨11, 8, 11, 18⟩ ⟨11, 21, 11, 26⟩ ⟨11, 8, 11, 26⟩), PySem.Sxvalue.iS, mainGlobals, [("__class__" : Str)], builtinsNs))) rfl) (by decide) (c.own 4 (f := fun K => Chkvalue PySem.Challenge.pw_shiftparts_k18_texts_of_strengths K "InvalidName") rfl)),
    (chkvalue_ok (P0 := PySem.Challenge.pw_shiftparts_k18_texts_of_strengths) (He.glo_ok X G (c.fact 15 (f := .glo "InvalidStrengths") rfl)) (He.free_ok X G (c.fact 9 (f := .free "super") rfl)) hPf hPs (c.init 4 (f := (("InvalidStrengths", some "__init__"), some ("__init__", "InvalidStrengths.__init__", (PySem.Sxvalue.iA ⟨24, 17, 24, 21⟩ ⟨24, 23, 24, 28⟩), FuncBody.stmts (PySem.Sxvalue.iB "the value is not strengths or clashes" ⟨25, 8, 25, 13⟩ ⟨25, 8, 25, 15⟩ ⟨25, 8, 25, 24⟩ ⟨25, 25, 25, 64⟩ ⟨25, 8, 25, 65⟩ ⟨25, 8, 25, 65⟩ ⟨26, 8, 26, 12⟩ ⟨26, 8, 26, 18⟩ ⟨26, 21, 26, 26⟩ ⟨26, 8, 26, 26⟩), PySem.Sxvalue.iS, mainGlobals, [("__class__" : Str)], builtinsNs))) rfl) (by decide) (c.own 5 (f := fun K => Chkvalue PySem.Challenge.pw_shiftparts_k18_texts_of_strengths K "InvalidStrengths") rfl)),
    (chkvalue_ok (P0 := PySem.Challenge.pw_shiftparts_k18_texts_of_strengths) (He.glo_ok X G (c.fact 16 (f := .glo "InvalidText") rfl)) (He.free_ok X G (c.fact 9 (f := .free "super") rfl)) hPf hPs (c.init 5 (f := (("InvalidText", some "__init__"), some ("__init__", "InvalidText.__init__", (PySem.Sxvalue.iA ⟨29, 17, 29, 21⟩ ⟨29, 23, 29, 28⟩), FuncBody.stmts (PySem.Sxvalue.iB "the value is not a text that is asked for" ⟨30, 8, 30, 13⟩ ⟨30, 8, 30, 15⟩ ⟨30, 8, 30, 24⟩ ⟨30, 25, 30, 68⟩ ⟨30, 8, 30, 69⟩ ⟨30, 8, 30, 69⟩ ⟨31, 8, 31, 12⟩ ⟨31, 8, 31, 18⟩ ⟨31, 21, 31, 26⟩ ⟨31, 8, 31, 26⟩), PySem.Sxvalue.iS, mainGlobals, [("__class__" : Str)], builtinsNs))) rfl) (by decide) (c.own 6 (f := fun K => Chkvalue PySem.Challenge.pw_shiftparts_k18_texts_of_strengths K "InvalidText") rfl)),
    (chkname_ok (P0 := PySem.Challenge.pw_shiftparts_k18_texts_of_strengths) (He.glo_ok X G (c.fact 25 (f := .glo "UnknownMode") rfl)) (He.free_ok X G (c.fact 9 (f := .free "super") rfl)) hPf hPs (c.init 6 (f := (("UnknownMode", some "__init__"), some ("__init__", "UnknownMode.__init__", (PySem.Sxname.iA ⟨39, 17, 39, 21⟩ ⟨39, 23, 39, 27⟩), FuncBody.stmts (PySem.Sxname.iB "there is no such mode" ⟨40, 8, 40, 13⟩ ⟨40, 8, 40, 15⟩ ⟨40, 8, 40, 24⟩ ⟨40, 25, 40, 48⟩ ⟨40, 8, 40, 49⟩ ⟨40, 8, 40, 49⟩ ⟨41, 8, 41, 12⟩ ⟨41, 8, 41, 17⟩ ⟨41, 20, 41, 24⟩ ⟨41, 8, 41, 24⟩), PySem.Sxname.iS, mainGlobals, [("__class__" : Str)], builtinsNs))) rfl) (by decide) (c.own 7 (f := fun K => Chkname PySem.Challenge.pw_shiftparts_k18_texts_of_strengths K "UnknownMode") rfl)),
    (xfB_ok (c.own 8 (f := fun K => xfB K (He.ga K "InvalidText")) rfl)),
    (eqB_ok (c.own 9 (f := fun K => eqB (PySem.W.findIn K (.ref (He.ga K "InvalidText")) "value") (some none)) rfl)),
    ⟨He.exm_ok (c.fact 34 (f := .exm "Duplicate" "InvalidText" false) rfl), He.exm_ok (c.fact 35 (f := .exm "Duplicate" "PartsError" true) rfl), He.exm_ok (c.fact 36 (f := .exm "InvalidClash" "InvalidText" false) rfl), He.exm_ok (c.fact 37 (f := .exm "InvalidClash" "PartsError" true) rfl), He.exm_ok (c.fact 38 (f := .exm "InvalidModes" "InvalidText" false) rfl), He.exm_ok (c.fact 39 (f := .exm "InvalidModes" "PartsError" true) rfl), He.exm_ok (c.fact 40 (f := .exm "InvalidName" "InvalidText" false) rfl), He.exm_ok (c.fact 41 (f := .exm "InvalidName" "PartsError" true) rfl), He.exm_ok (c.fact 42 (f := .exm "InvalidStrengths" "InvalidText" false) rfl), He.exm_ok (c.fact 43 (f := .exm "InvalidStrengths" "PartsError" true) rfl), He.exm_ok (c.fact 44 (f := .exm "InvalidText" "InvalidText" true) rfl), He.exm_ok (c.fact 45 (f := .exm "InvalidText" "PartsError" true) rfl), He.exm_ok (c.fact 46 (f := .exm "UnknownMode" "InvalidText" false) rfl), He.exm_ok (c.fact 47 (f := .exm "UnknownMode" "PartsError" true) rfl)⟩⟩
  have hml := He.glo_ok X G (c.fact 66 (f := .glo "law") rfl)
  have e := hfa.symm.trans hml
  cases e
  obtain ⟨fdL, FL⟩ := c.def_ 26 (d := ⟨("law", none), "law", "law", defArgs s_law, defBody s_law, defScope s_law, [], []⟩) rfl
  have b := FunD.bindsA (ps := ["script"]) FL fun _ _ _ _ _ _ us hl => match us, hl with | [_], _ => rfl
  refine ⟨fdL, fun s v => b s [v] rfl, fun base _ _ => ?_⟩
  have O_is_name := ok_is_name (P := P) (w := w) (base := base) T (c.def_ 0 (d := ⟨("is_name", none), "is_name", "is_name", defArgs s_is_name, defBody s_is_name, defScope s_is_name, [], []⟩) rfl) (He.glo_ok X G (c.fact 48 (f := .glo "is_name") rfl)) 
  have O_need_modes := ok_need_modes (P := P) (w := w) (base := base) T (c.def_ 1 (d := ⟨("need_modes", none), "need_modes", "need_modes", defArgs s_need_modes, defBody s_need_modes, defScope s_need_modes, [], []⟩) rfl) (He.glo_ok X G (c.fact 49 (f := .glo "need_modes") rfl)) O_is_name
  have O_need_clashes := ok_need_clashes (P := P) (w := w) (base := base) T (c.def_ 2 (d := ⟨("need_clashes", none), "need_clashes", "need_clashes", defArgs s_need_clashes, defBody s_need_clashes, defScope s_need_clashes, [], []⟩) rfl) (He.glo_ok X G (c.fact 50 (f := .glo "need_clashes") rfl)) 
  have O_Strengths_init_2_ := okmG_Strengths_init_2_ (P := P) (w := w) (base := base) T (c.def_ 3 (d := ⟨("Strengths", some "__init__"), "__init__", "Strengths.__init__", defArgs s_Strengths_init, defBody s_Strengths_init, defScope s_Strengths_init, [], []⟩) rfl) O_need_modes O_need_clashes
  have O_Strengths_need_1_ := okmG_Strengths_need_1_ (P := P) (w := w) (base := base) T (c.def_ 5 (d := ⟨("Strengths", some "need"), "need", "Strengths.need", defArgs s_Strengths_need, defBody s_Strengths_need, defScope s_Strengths_need, [], []⟩) rfl) 
  have O_Strengths_clashes_0_ := okmG_Strengths_clashes_0_ (P := P) (w := w) (base := base) T (c.def_ 7 (d := ⟨("Strengths", some "clashes"), "clashes", "Strengths.clashes", defArgs s_Strengths_clashes, defBody s_Strengths_clashes, defScope s_Strengths_clashes, [], []⟩) rfl) 
  have O_Strengths_eq_1_ := okmG_Strengths_eq_1_ (P := P) (w := w) (base := base) T (c.def_ 9 (d := ⟨("Strengths", some "__eq__"), "__eq__", "Strengths.__eq__", defArgs s_Strengths_eq, defBody s_Strengths_eq, defScope s_Strengths_eq, [], []⟩) rfl) 
  have O_Strengths_str_0_ := okmG_Strengths_str_0_ (P := P) (w := w) (base := base) T (c.def_ 10 (d := ⟨("Strengths", some "__str__"), "__str__", "Strengths.__str__", defArgs s_Strengths_str, defBody s_Strengths_str, defScope s_Strengths_str, [], []⟩) rfl) O_Strengths_clashes_0_
  have O_read_modes := ok_read_modes (P := P) (w := w) (base := base) T (c.def_ 11 (d := ⟨("read_modes", none), "read_modes", "read_modes", defArgs s_read_modes, defBody s_read_modes, defScope s_read_modes, [], []⟩) rfl) (He.glo_ok X G (c.fact 51 (f := .glo "read_modes") rfl)) O_Strengths_init_2_
  have O_read_strengths := ok_read_strengths (P := P) (w := w) (base := base) T (c.def_ 12 (d := ⟨("read_strengths", none), "read_strengths", "read_strengths", defArgs s_read_strengths, defBody s_read_strengths, defScope s_read_strengths, [], []⟩) rfl) (He.glo_ok X G (c.fact 52 (f := .glo "read_strengths") rfl)) O_read_modes O_Strengths_str_0_
  have O_law_cell := ok_law_cell (P := P) (w := w) (base := base) T (c.def_ 13 (d := ⟨("_law_cell", none), "_law_cell", "_law_cell", defArgs s_law_cell, defBody s_law_cell, defScope s_law_cell, [], []⟩) rfl) (He.glo_ok X G (c.fact 53 (f := .glo "_law_cell") rfl)) 
  have O_law_box := ok_law_box (P := P) (w := w) (base := base) T (c.def_ 14 (d := ⟨("_law_box", none), "_law_box", "_law_box", defArgs s_law_box, defBody s_law_box, defScope s_law_box, [], []⟩) rfl) (He.glo_ok X G (c.fact 54 (f := .glo "_law_box") rfl)) 
  have O_law_take := ok_law_take (P := P) (w := w) (base := base) T (c.def_ 15 (d := ⟨("_law_take", none), "_law_take", "_law_take", defArgs s_law_take, defBody s_law_take, defScope s_law_take, [], []⟩) rfl) (He.glo_ok X G (c.fact 55 (f := .glo "_law_take") rfl)) 
  have O_law_mixed := ok_law_mixed (P := P) (w := w) (base := base) T (c.def_ 16 (d := ⟨("_law_mixed", none), "_law_mixed", "_law_mixed", defArgs s_law_mixed, defBody s_law_mixed, defScope s_law_mixed, [], []⟩) rfl) (He.glo_ok X G (c.fact 56 (f := .glo "_law_mixed") rfl)) O_law_take
  have O_law_names := ok_law_names (P := P) (w := w) (base := base) T (c.def_ 17 (d := ⟨("_law_names", none), "_law_names", "_law_names", defArgs s_law_names, defBody s_law_names, defScope s_law_names, [], []⟩) rfl) (He.glo_ok X G (c.fact 57 (f := .glo "_law_names") rfl)) O_law_take O_law_mixed
  have O_law_modes := ok_law_modes (P := P) (w := w) (base := base) T (c.def_ 18 (d := ⟨("_law_modes", none), "_law_modes", "_law_modes", defArgs s_law_modes, defBody s_law_modes, defScope s_law_modes, [], []⟩) rfl) (He.glo_ok X G (c.fact 58 (f := .glo "_law_modes") rfl)) O_law_names O_law_take
  have O_law_against := ok_law_against (P := P) (w := w) (base := base) T (c.def_ 19 (d := ⟨("_law_against", none), "_law_against", "_law_against", defArgs s_law_against, defBody s_law_against, defScope s_law_against, [], []⟩) rfl) (He.glo_ok X G (c.fact 59 (f := .glo "_law_against") rfl)) 
  have O_law_pairs := ok_law_pairs (P := P) (w := w) (base := base) T (c.def_ 20 (d := ⟨("_law_pairs", none), "_law_pairs", "_law_pairs", defArgs s_law_pairs, defBody s_law_pairs, defScope s_law_pairs, [], []⟩) rfl) (He.glo_ok X G (c.fact 60 (f := .glo "_law_pairs") rfl)) O_law_against
  have O_law_text := ok_law_text (P := P) (w := w) (base := base) T (c.def_ 21 (d := ⟨("_law_text", none), "_law_text", "_law_text", defArgs s_law_text, defBody s_law_text, defScope s_law_text, [], []⟩) rfl) (He.glo_ok X G (c.fact 61 (f := .glo "_law_text") rfl)) O_law_pairs
  have O_law_is_name := ok_law_is_name (P := P) (w := w) (base := base) T (c.def_ 22 (d := ⟨("_law_is_name", none), "_law_is_name", "_law_is_name", defArgs s_law_is_name, defBody s_law_is_name, defScope s_law_is_name, [], []⟩) rfl) (He.glo_ok X G (c.fact 62 (f := .glo "_law_is_name") rfl)) 
  have O_law_read := ok_law_read (P := P) (w := w) (base := base) T (c.def_ 23 (d := ⟨("_law_read", none), "_law_read", "_law_read", defArgs s_law_read, defBody s_law_read, defScope s_law_read, [], []⟩) rfl) (He.glo_ok X G (c.fact 63 (f := .glo "_law_read") rfl)) O_law_is_name O_law_text
  have O_law_told := ok_law_told (P := P) (w := w) (base := base) T (c.def_ 24 (d := ⟨("_law_told", none), "_law_told", "_law_told", defArgs s_law_told, defBody s_law_told, defScope s_law_told, [], []⟩) rfl) (He.glo_ok X G (c.fact 64 (f := .glo "_law_told") rfl)) O_read_strengths
  have O_law_bent := ok_law_bent (P := P) (w := w) (base := base) T (c.def_ 25 (d := ⟨("_law_bent", none), "_law_bent", "_law_bent", defArgs s_law_bent, defBody s_law_bent, defScope s_law_bent, [], []⟩) rfl) (He.glo_ok X G (c.fact 65 (f := .glo "_law_bent") rfl)) O_law_take
  exact okf_law (P := P) (w := w) (base := base) T FL O_law_box O_law_cell O_law_modes O_law_text O_read_strengths O_law_bent O_law_read O_law_told O_law_take O_Strengths_init_2_ O_Strengths_str_0_ O_Strengths_eq_1_
def lawLevel : Nat := 8
def lawAt : Nat := 38

end Z

open PySem PySem.W PySem.Calls PyProof.Rows
theorem PySem.Challenge.cw_shiftparts_k18_texts_of_strengths_holds : PySem.Challenge.rw_shiftparts_k18_texts_of_strengths.Holds := by
  w_on; o_law
  refine HandSHeadRun.head_any (r := OpenLaw.row PySem.Challenge.rw_shiftparts_k18_texts_of_strengths) (q := view (OpenLaw.row PySem.Challenge.rw_shiftparts_k18_texts_of_strengths).prog [38]) (H := Z.hk) (ob := Z.ob) (M := 4000) (loose := Z.loose) (d := HandSHeadRun.topDef (OpenLaw.row PySem.Challenge.rw_shiftparts_k18_texts_of_strengths).prog 38) (kwd := []) Z.ob_eq
    (by kernel_rfl) (fun s => by kernel_rfl) Z.run (by kernel_rfl) (by kernel_rfl) (by kernel_rfl) (by rfl) (by first | assumption | decide +kernel) (by decide +kernel) ⟨rfl, rfl, rfl, rfl, rfl, by decide +kernel⟩ ?hw ?hc
  case hw => w_witness2
  case hc =>
    refine L2.walk_ofE (l := PySem.Challenge.rw_shiftparts_k18_texts_of_strengths) (n := 63) (k := 8) (x := "script") (CX := L2.CX0) rfl (by decide) (by kernel_rfl) ⟨rfl, by decide, by decide⟩ ?F (fun _ _ _ _ z => z)
    intro w mg fa h Y G hmg0
    obtain ⟨K, KX, c⟩ := Y
    have hmg : mg ("law" : PySem.Str) = some (.ref fa) := by
      have e : (HandSHeadRun.topDef (OpenLaw.row PySem.Challenge.rw_shiftparts_k18_texts_of_strengths).prog 38).name = ("law" : PySem.Str) := by kernel_rfl
      rw [← e]
      exact hmg0
    obtain ⟨fd, hb, hF⟩ := Z.all_ok (P := (PySem.Challenge.rw_shiftparts_k18_texts_of_strengths).prog) (w := w) (by rfl) (by decide +kernel) KX G hmg c
    exact ⟨K, fd, Z.sp_law0 K, KX, hb, fun H a ns hl _ hS => ⟨a, ns, rfl, hS, hl, fun _ => rfl⟩, fun b h1 h2 => (hF b h1 h2).imp (Z.law_up K Z.law_true)⟩
#print axioms PySem.Challenge.cw_shiftparts_k18_texts_of_strengths_holds

