import PyProof.Rows.All
import Wide.All
import OpenK.AllK
import Wide.FinOn
import HandS.ForMost
import HandS.Flow
import HandS.Style
import HandS.Wide
import HandS.WideMore
import HandS.IsInst
import HandS.Evl
import HandS.Walk
import HandS.Defaults
import HandS.Head0
import HandS.Head1
import HandS.Head2
import HandS.HeadEnd
import HandS.HeadHook1
import HandS.HeadHook2
import HandS.HeadHook3
import KE.KExcSuper
import KE.KExcPX
import HandS.Exc
import HandS.ExcSuper
import HandS.ExcInit
import HandS.ExcField
import HandS.TryMany
import HandS.TryOnly
import HandS.SuiteRaise
import HandS.ExcInitHot
import HandS.RaiseFrom
import HandS.FStr
import HandS.TupAny
import KE.KUnpackStar
import HandS.Star
import HandS.More
import HandS.Small
import HandS.RaiseMore
import HandS.WordsExc
import HandS.DeepEq
import HandS.DictComp
import HandS.Codes
import HandS.MakeKwOnly
import HandS.Property
import HandS.OwnEq
import HandS.ListEq
import HandS.DictEq
import KE.KEqNest
import KE.KCallOwn
import KE.GoesMore
import KE.GoesEnum
import HandS.TupLe
import HandS.StrSplit
import HandS.RaiseFrom
import HandS.SortInts
import HandS.SortOrd
import HandS.Zip
import HandS.Text
import HandS.StrMore
import HandS.Set
import HandS.SetFor
import HandS.SetIn
import HandS.Replace
import HandS.Remove
import HandS.Conv
import KE.DatumIndex
import KE.KSortTupAny
import HandS.Deep
import PySem.Challenge.RW_shiftparts_k45_whole_key_by_key
set_option Elab.async false
set_option linter.all false
set_option maxRecDepth 100000
set_option maxHeartbeats 4000000
namespace Z
open PySem PySem.Spec PyProof.Rows L2 Evl
def scB : V → V → Bool
  | .non, .non | .non, .int _ | .int _, .non | .non, .bl _ | .bl _, .non | .non, .str _ | .str _, .non => true
  | .int _, .int _ | .bl _, .bl _ | .str _, .str _ | .int _, .str _ | .str _, .int _ | .bl _, .str _ | .str _, .bl _ => true
  | _, _ => false
def isS : V → Bool
  | .non | .bl _ | .int _ | .str _ => true
  | _ => false
/-- items one by one, as far as both go -/
inductive EqZ (E : V → V → Bool → Prop) : List V → List V → List Bool → Prop
  | nil : EqZ E [] [] []
  | nilL {y : V} {ys : List V} : EqZ E [] (y :: ys) []
  | nilR {x : V} {xs : List V} : EqZ E (x :: xs) [] []
  | cons {x y : V} {xs ys : List V} {b : Bool} {e : List Bool} : E x y b → EqZ E xs ys e → EqZ E (x :: xs) (y :: ys) (b :: e)
/-- x == y gives b, items by E -/
inductive EqR (K : PySem.W.Frag) (H : Hp) (E : V → V → Bool → Prop) : V → V → Bool → Prop
  | sc {x y : V} : scB x y = true → EqR K H E x y (decide (x = y))
  | bi (a : Bool) (j : Int) : EqR K H E (.bl a) (.int j) ((if a then 1 else 0) == j)
  | ib (i : Int) (b : Bool) : EqR K H E (.int i) (.bl b) (i == (if b then 1 else 0))
  | ll {a b : Addr} {xs ys : List V} : SqL K H a xs → SqL K H b ys → xs.length ≠ ys.length → EqR K H E (.ref a) (.ref b) false
  | lst {a b : Addr} {xs ys : List V} {e : List Bool} : SqL K H a xs → SqL K H b ys → xs.length = ys.length → EqZ E xs ys e → EqR K H E (.ref a) (.ref b) (e.all id)
  | tup {a b : Addr} {xs ys : List V} {e : List Bool} : SqT K H a xs → SqT K H b ys → EqZ E xs ys e → EqR K H E (.ref a) (.ref b) (e.all id && decide (xs.length = ys.length))
  | lt {a b : Addr} {xs ys : List V} : SqL K H a xs → SqT K H b ys → EqR K H E (.ref a) (.ref b) false
  | tl {a b : Addr} {xs ys : List V} : SqT K H a xs → SqL K H b ys → EqR K H E (.ref a) (.ref b) false
  | ls {a : Addr} {xs : List V} {y : V} : SqL K H a xs → isS y = true → EqR K H E (.ref a) y false
  | sl {a : Addr} {xs : List V} {y : V} : SqL K H a xs → isS y = true → EqR K H E y (.ref a) false
  | ts {a : Addr} {xs : List V} {y : V} : SqT K H a xs → isS y = true → EqR K H E (.ref a) y false
  | st {a : Addr} {xs : List V} {y : V} : SqT K H a xs → isS y = true → EqR K H E y (.ref a) false
/-- two items: the same object, or equal by == -/
def EqI (K : PySem.W.Frag) (H : Hp) : Nat → V → V → Bool → Prop
  | 0 => fun _ _ _ => False
  | n + 1 => fun x y b => (∃ a, x = .ref a ∧ y = .ref a ∧ b = true) ∨ (EqR K H (EqI K H n) x y b ∧ ∀ a, x = .ref a → y ≠ .ref a)
theorem EqI.same {K : PySem.W.Frag} {H : Hp} {n : Nat} (a : Addr) : EqI K H (n + 1) (.ref a) (.ref a) true := .inl ⟨a, rfl, rfl, rfl⟩
theorem EqI.sc {K : PySem.W.Frag} {H : Hp} {n : Nat} {x y : V} (h : scB x y = true) : EqI K H (n + 1) x y (decide (x = y)) := .inr ⟨.sc h, fun a e => by
  subst e
  cases h⟩
theorem EqI.rc {K : PySem.W.Frag} {H : Hp} {n : Nat} {a b : Addr} {k : Bool} (h : EqR K H (EqI K H n) (.ref a) (.ref b) k) (ne : a ≠ b) : EqI K H (n + 1) (.ref a) (.ref b) k := .inr ⟨h, fun c e f => by
  injection e with e
  injection f with f
  exact ne (e.trans f.symm)⟩
section
variable {X : Cx} {pins : List (Addr × Obj)} {σ : L2.St} {H : Hp} {s : Shared}
theorem sc_rc {A : Around} {x y : V} {v u : Value} (h : scB x y = true) (rx : RelV x v) (ry : RelV y u) : SeqAt.RcAt A s v u (decide (x = y)) := by
  have beqd : ∀ (a b : Bool), decide (V.bl a = V.bl b) = (a == b) := fun a b => by cases a <;> cases b <;> rfl
  have beqi : ∀ (a b : Int), decide (V.int a = V.int b) = (a == b) := fun a b => by
    rw [Bool.beq_eq_decide_eq]
    simp
  have beqs : ∀ (a b : Str), decide (V.str a = V.str b) = (a == b) := fun a b => by
    rw [Bool.beq_eq_decide_eq]
    simp
  cases x <;> cases y <;> first | (exact absurd (show false = true from h) Bool.false_ne_true) | skip
  · cases rx; cases ry; exact SeqAt.RcAt.none_none
  · cases rx; cases ry; exact SeqAt.RcAt.none_bool _
  · cases rx; obtain ⟨t, rfl⟩ := ry; exact SeqAt.RcAt.none_int _ _
  · cases rx; obtain ⟨t, rfl⟩ := ry; exact SeqAt.RcAt.none_str _ _
  · cases rx; cases ry; exact SeqAt.RcAt.bool_none _
  · cases rx; cases ry; rw [beqd]; exact SeqAt.RcAt.bool_bool _ _
  · cases rx; obtain ⟨t, rfl⟩ := ry; exact SeqAt.RcAt.bool_str _ _ _
  · cases ry; obtain ⟨t, rfl⟩ := rx; exact SeqAt.RcAt.int_none _ _
  · obtain ⟨t, rfl⟩ := rx; obtain ⟨t', rfl⟩ := ry; rw [beqi]; exact SeqAt.RcAt.int_int _ _ _ _
  · obtain ⟨t, rfl⟩ := rx; obtain ⟨t', rfl⟩ := ry; exact SeqAt.RcAt.int_str _ _ _ _
  · cases ry; obtain ⟨t, rfl⟩ := rx; exact SeqAt.RcAt.str_none _ _
  · cases ry; obtain ⟨t, rfl⟩ := rx; exact SeqAt.RcAt.str_bool _ _ _
  · obtain ⟨t, rfl⟩ := rx; obtain ⟨t', rfl⟩ := ry; exact SeqAt.RcAt.str_int _ _ _ _
  · obtain ⟨t, rfl⟩ := rx; obtain ⟨t', rfl⟩ := ry; rw [beqs]; exact SeqAt.RcAt.str_str _ _ _ _
theorem sc_eq {A : Around} {x y : V} {v u : Value} (h : scB x y = true) (rx : RelV x v) (ry : RelV y u) : SeqAt.EqAt A s v u (decide (x = y)) := by
  have beqd : ∀ (a b : Bool), decide (V.bl a = V.bl b) = (a == b) := fun a b => by cases a <;> cases b <;> rfl
  have beqi : ∀ (a b : Int), decide (V.int a = V.int b) = (a == b) := fun a b => by
    rw [Bool.beq_eq_decide_eq]
    simp
  have beqs : ∀ (a b : Str), decide (V.str a = V.str b) = (a == b) := fun a b => by
    rw [Bool.beq_eq_decide_eq]
    simp
  cases x <;> cases y <;> first | (exact absurd (show false = true from h) Bool.false_ne_true) | skip
  · cases rx; cases ry; exact SeqAt.EqAt.same _
  · cases rx; cases ry; exact SeqAt.EqAt.none_bool _
  · cases rx; obtain ⟨t, rfl⟩ := ry; exact SeqAt.EqAt.none_int _ _
  · cases rx; obtain ⟨t, rfl⟩ := ry; exact SeqAt.EqAt.none_str _ _
  · cases rx; cases ry; exact SeqAt.EqAt.bool_none _
  · cases rx; cases ry; rw [beqd]; exact SeqAt.EqAt.bool_bool _ _
  · cases rx; obtain ⟨t, rfl⟩ := ry; exact SeqAt.EqAt.bool_str _ _ _
  · cases ry; obtain ⟨t, rfl⟩ := rx; exact SeqAt.EqAt.int_none _ _
  · obtain ⟨t, rfl⟩ := rx; obtain ⟨t', rfl⟩ := ry; rw [beqi]; exact SeqAt.EqAt.int_int _ _ _ _
  · obtain ⟨t, rfl⟩ := rx; obtain ⟨t', rfl⟩ := ry; exact SeqAt.EqAt.int_str _ _ _ _
  · cases ry; obtain ⟨t, rfl⟩ := rx; exact SeqAt.EqAt.str_none _ _
  · cases ry; obtain ⟨t, rfl⟩ := rx; exact SeqAt.EqAt.str_bool _ _ _
  · obtain ⟨t, rfl⟩ := rx; obtain ⟨t', rfl⟩ := ry; exact SeqAt.EqAt.str_int _ _ _ _
  · obtain ⟨t, rfl⟩ := rx; obtain ⟨t', rfl⟩ := ry; rw [beqs]; exact SeqAt.EqAt.str_str _ _ _ _
theorem sc_ne {A : Around} {x y : V} {v u : Value} (h : scB x y = true) (rx : RelV x v) (ry : RelV y u) : SeqAt.RcNeAt A s v u (!decide (x = y)) := by
  have beqd : ∀ (a b : Bool), decide (V.bl a = V.bl b) = (a == b) := fun a b => by cases a <;> cases b <;> rfl
  have beqi : ∀ (a b : Int), decide (V.int a = V.int b) = (a == b) := fun a b => by
    rw [Bool.beq_eq_decide_eq]
    simp
  have beqs : ∀ (a b : Str), decide (V.str a = V.str b) = (a == b) := fun a b => by
    rw [Bool.beq_eq_decide_eq]
    simp
  cases x <;> cases y <;> first | (exact absurd (show false = true from h) Bool.false_ne_true) | skip
  · cases rx; cases ry; exact SeqAt.RcNeAt.none_none
  · cases rx; cases ry; exact SeqAt.RcNeAt.none_bool _
  · cases rx; obtain ⟨t, rfl⟩ := ry; exact SeqAt.RcNeAt.none_int _ _
  · cases rx; obtain ⟨t, rfl⟩ := ry; exact SeqAt.RcNeAt.none_str _ _
  · cases rx; cases ry; exact SeqAt.RcNeAt.bool_none _
  · cases rx; cases ry; rw [beqd]; exact SeqAt.RcNeAt.bool_bool _ _
  · cases rx; obtain ⟨t, rfl⟩ := ry; exact SeqAt.RcNeAt.bool_str _ _ _
  · cases ry; obtain ⟨t, rfl⟩ := rx; exact SeqAt.RcNeAt.int_none _ _
  · obtain ⟨t, rfl⟩ := rx; obtain ⟨t', rfl⟩ := ry; rw [beqi]; exact SeqAt.RcNeAt.int_int _ _ _ _
  · obtain ⟨t, rfl⟩ := rx; obtain ⟨t', rfl⟩ := ry; exact SeqAt.RcNeAt.int_str _ _ _ _
  · cases ry; obtain ⟨t, rfl⟩ := rx; exact SeqAt.RcNeAt.str_none _ _
  · cases ry; obtain ⟨t, rfl⟩ := rx; exact SeqAt.RcNeAt.str_bool _ _ _
  · obtain ⟨t, rfl⟩ := rx; obtain ⟨t', rfl⟩ := ry; exact SeqAt.RcNeAt.str_int _ _ _ _
  · obtain ⟨t, rfl⟩ := rx; obtain ⟨t', rfl⟩ := ry; rw [beqs]; exact SeqAt.RcNeAt.str_str _ _ _ _
theorem range_all : ∀ e : List Bool, (List.range e.length).all (fun i => e.getD i false) = e.all id
  | [] => rfl
  | b :: e => by
    rw [List.length_cons, List.range_succ_eq_map, List.all_cons, List.all_map, List.all_cons, ← range_all e]
    rfl
theorem EqZ.len {E : V → V → Bool → Prop} {xs ys : List V} {e : List Bool} (h : EqZ E xs ys e) : e.length = min xs.length ys.length := by
  induction h with
  | nil => rfl
  | nilL => simp
  | nilR => simp
  | cons _ _ ih =>
    simp only [List.length_cons]
    omega
theorem EqZ.run {E : V → V → Bool → Prop} {A : Around} (ih : ∀ {x y : V} {b : Bool} {v u : Value}, E x y b → RelV x v → RelV y u → SeqAt.EqAt A s v u b) {xs ys : List V} {e : List Bool} (h : EqZ E xs ys e) : ∀ {us ws : List Value}, Vals xs us → Vals ys ws →
    ∀ j (h1 : j < us.length) (h2 : j < ws.length), SeqAt.EqAt A s us[j] ws[j] (e.getD j false) := by
  induction h with
  | nil => intro us ws r1 r2 j h1 h2; cases r1; exact absurd h1 (Nat.not_lt_zero j)
  | nilL => intro us ws r1 r2 j h1 h2; cases r1; exact absurd h1 (Nat.not_lt_zero j)
  | nilR => intro us ws r1 r2 j h1 h2; cases r2; exact absurd h2 (Nat.not_lt_zero j)
  | cons h _ k =>
    intro us ws r1 r2 j h1 h2
    cases r1 with
    | cons a1 b1 =>
      cases r2 with
      | cons a2 b2 =>
        cases j with
        | zero => exact ih h a1 a2
        | succ j => exact k b1 b2 j (Nat.lt_of_succ_lt_succ h1) (Nat.lt_of_succ_lt_succ h2)
theorem EqR.run (I : Inv X pins σ H s) {E : V → V → Bool → Prop} {A : Around} (hu : A.units < cLine) (ih : ∀ {x y : V} {b : Bool} {v u : Value}, E x y b → RelV x v → RelV y u → SeqAt.EqAt A.in1 s v u b)
    {x y : V} {b : Bool} {v u : Value} (h : EqR X.K H E x y b) (rx : RelV x v) (ry : RelV y u) : SeqAt.RcAt A s v u b := by
  cases h with
  | sc h => exact sc_rc h rx ry
  | bi a j => cases rx; obtain ⟨t, rfl⟩ := ry; exact SeqAt.RcAt.bool_int _ _ _
  | ib i b => cases ry; obtain ⟨t, rfl⟩ := rx; exact SeqAt.RcAt.int_bool _ _ _
  | ll h1 h2 hn =>
    cases rx; cases ry
    obtain ⟨i1, r1, p1, _⟩ := I.list h1
    obtain ⟨i2, r2, p2, _⟩ := I.list h2
    refine SeqAt.RcAt.lists_lengths p1.isList p2.isList ?_ hu
    have e1 := r1.length
    have e2 := r2.length
    simp only [List.size_toArray, bne_iff_ne]
    omega
  | @lst a b xs ys e h1 h2 hl hz =>
    cases rx; cases ry
    obtain ⟨i1, r1, p1, _⟩ := I.list h1
    obtain ⟨i2, r2, p2, _⟩ := I.list h2
    have e1 := r1.length
    have e2 := r2.length
    have el := hz.len
    have q := SeqAt.RcAt.lists (A := A) (e := fun i => e.getD i false) p1.isList p2.isList (by simp only [List.size_toArray]; omega) hu
      (fun j h1 h2 => hz.run ih r1 r2 j (by simpa using h1) (by simpa using h2))
    rw [show i1.toArray.size = e.length by simp only [List.size_toArray]; omega, range_all] at q
    exact q
  | @tup a b xs ys e h1 h2 hz =>
    cases rx; cases ry
    obtain ⟨i1, r1, p1, _⟩ := I.tuple h1
    obtain ⟨i2, r2, p2, _⟩ := I.tuple h2
    have e1 := r1.length
    have e2 := r2.length
    have el := hz.len
    have q := SeqAt.RcAt.tuples (A := A) (e := fun i => e.getD i false) p1 p2 hu
      (fun j h1 h2 => hz.run ih r1 r2 j (by simpa using h1) (by simpa using h2))
    rw [show min i1.toArray.size i2.toArray.size = e.length by simp only [List.size_toArray]; omega, range_all] at q
    have q2 : (i1.toArray.size == i2.toArray.size) = decide (xs.length = ys.length) := by
      rw [Bool.beq_eq_decide_eq]
      simp only [List.size_toArray]
      rw [e1, e2]
    rw [q2] at q
    exact q
  | lt h1 h2 =>
    cases rx; cases ry
    obtain ⟨i1, r1, p1, _⟩ := I.list h1
    obtain ⟨i2, r2, p2, _⟩ := I.tuple h2
    exact SeqAt.RcAt.list_tuple p1.isList p2 hu
  | tl h1 h2 =>
    cases rx; cases ry
    obtain ⟨i1, r1, p1, _⟩ := I.tuple h1
    obtain ⟨i2, r2, p2, _⟩ := I.list h2
    exact SeqAt.RcAt.tuple_list p1 p2.isList hu
  | ls h1 hs =>
    cases rx
    obtain ⟨i1, r1, p1, _⟩ := I.list h1
    cases y with
    | non => cases ry; exact SeqAt.RcAt.list_none p1.isList hu
    | bl b => cases ry; exact SeqAt.RcAt.list_bool _ p1.isList hu
    | int i => obtain ⟨t, rfl⟩ := ry; exact SeqAt.RcAt.list_int _ _ p1.isList hu
    | str z => obtain ⟨t, rfl⟩ := ry; exact SeqAt.RcAt.list_str _ _ p1.isList hu
    | _ => cases hs
  | sl h1 hs =>
    cases ry
    obtain ⟨i1, r1, p1, _⟩ := I.list h1
    cases x with
    | non => cases rx; exact SeqAt.RcAt.none_list p1.isList hu
    | bl b => cases rx; exact SeqAt.RcAt.bool_list _ p1.isList hu
    | int i => obtain ⟨t, rfl⟩ := rx; exact SeqAt.RcAt.int_list _ _ p1.isList hu
    | str z => obtain ⟨t, rfl⟩ := rx; exact SeqAt.RcAt.str_list _ _ p1.isList hu
    | _ => cases hs
  | ts h1 hs =>
    cases rx
    obtain ⟨i1, r1, p1, _⟩ := I.tuple h1
    cases y with
    | non => cases ry; exact SeqAt.RcAt.tuple_none p1 hu
    | bl b => cases ry; exact SeqAt.RcAt.tuple_bool _ p1 hu
    | int i => obtain ⟨t, rfl⟩ := ry; exact SeqAt.RcAt.tuple_int _ _ p1 hu
    | str z => obtain ⟨t, rfl⟩ := ry; exact SeqAt.RcAt.tuple_str _ _ p1 hu
    | _ => cases hs
  | st h1 hs =>
    cases ry
    obtain ⟨i1, r1, p1, _⟩ := I.tuple h1
    cases x with
    | non => cases rx; exact SeqAt.RcAt.none_tuple p1 hu
    | bl b => cases rx; exact SeqAt.RcAt.bool_tuple _ p1 hu
    | int i => obtain ⟨t, rfl⟩ := rx; exact SeqAt.RcAt.int_tuple _ _ p1 hu
    | str z => obtain ⟨t, rfl⟩ := rx; exact SeqAt.RcAt.str_tuple _ _ p1 hu
    | _ => cases hs
theorem EqR.runNe (I : Inv X pins σ H s) {E : V → V → Bool → Prop} {A : Around} (hu : A.units < cLine) (ih : ∀ {x y : V} {b : Bool} {v u : Value}, E x y b → RelV x v → RelV y u → SeqAt.EqAt A.in1 s v u b)
    {x y : V} {b : Bool} {v u : Value} (h : EqR X.K H E x y b) (rx : RelV x v) (ry : RelV y u) : SeqAt.RcNeAt A s v u (!b) := by
  cases h with
  | sc h => exact sc_ne h rx ry
  | bi a j => cases rx; obtain ⟨t, rfl⟩ := ry; exact SeqAt.RcNeAt.bool_int _ _ _
  | ib i b => cases ry; obtain ⟨t, rfl⟩ := rx; exact SeqAt.RcNeAt.int_bool _ _ _
  | ll h1 h2 hn =>
    cases rx; cases ry
    obtain ⟨i1, r1, p1, _⟩ := I.list h1
    obtain ⟨i2, r2, p2, _⟩ := I.list h2
    refine SeqAt.RcNeAt.lists_lengths p1.isList p2.isList ?_ hu
    have e1 := r1.length
    have e2 := r2.length
    simp only [List.size_toArray, bne_iff_ne]
    omega
  | @lst a b xs ys e h1 h2 hl hz =>
    cases rx; cases ry
    obtain ⟨i1, r1, p1, _⟩ := I.list h1
    obtain ⟨i2, r2, p2, _⟩ := I.list h2
    have e1 := r1.length
    have e2 := r2.length
    have el := hz.len
    have q := SeqAt.RcNeAt.lists (A := A) (e := fun i => e.getD i false) p1.isList p2.isList (by simp only [List.size_toArray]; omega) hu
      (fun j h1 h2 => hz.run ih r1 r2 j (by simpa using h1) (by simpa using h2))
    rw [show i1.toArray.size = e.length by simp only [List.size_toArray]; omega, range_all] at q
    exact q
  | @tup a b xs ys e h1 h2 hz =>
    cases rx; cases ry
    obtain ⟨i1, r1, p1, _⟩ := I.tuple h1
    obtain ⟨i2, r2, p2, _⟩ := I.tuple h2
    have e1 := r1.length
    have e2 := r2.length
    have el := hz.len
    have q := SeqAt.RcNeAt.tuples (A := A) (e := fun i => e.getD i false) p1 p2 hu
      (fun j h1 h2 => hz.run ih r1 r2 j (by simpa using h1) (by simpa using h2))
    rw [show min i1.toArray.size i2.toArray.size = e.length by simp only [List.size_toArray]; omega, range_all] at q
    have q2 : (i1.toArray.size == i2.toArray.size) = decide (xs.length = ys.length) := by
      rw [Bool.beq_eq_decide_eq]
      simp only [List.size_toArray]
      rw [e1, e2]
    rw [q2] at q
    exact q
  | lt h1 h2 =>
    cases rx; cases ry
    obtain ⟨i1, r1, p1, _⟩ := I.list h1
    obtain ⟨i2, r2, p2, _⟩ := I.tuple h2
    exact SeqAt.RcNeAt.list_tuple p1.isList p2 hu
  | tl h1 h2 =>
    cases rx; cases ry
    obtain ⟨i1, r1, p1, _⟩ := I.tuple h1
    obtain ⟨i2, r2, p2, _⟩ := I.list h2
    exact SeqAt.RcNeAt.tuple_list p1 p2.isList hu
  | ls h1 hs =>
    cases rx
    obtain ⟨i1, r1, p1, _⟩ := I.list h1
    cases y with
    | non => cases ry; exact SeqAt.RcNeAt.list_none p1.isList hu
    | bl b => cases ry; exact SeqAt.RcNeAt.list_bool _ p1.isList hu
    | int i => obtain ⟨t, rfl⟩ := ry; exact SeqAt.RcNeAt.list_int _ _ p1.isList hu
    | str z => obtain ⟨t, rfl⟩ := ry; exact SeqAt.RcNeAt.list_str _ _ p1.isList hu
    | _ => cases hs
  | sl h1 hs =>
    cases ry
    obtain ⟨i1, r1, p1, _⟩ := I.list h1
    cases x with
    | non => cases rx; exact SeqAt.RcNeAt.none_list p1.isList hu
    | bl b => cases rx; exact SeqAt.RcNeAt.bool_list _ p1.isList hu
    | int i => obtain ⟨t, rfl⟩ := rx; exact SeqAt.RcNeAt.int_list _ _ p1.isList hu
    | str z => obtain ⟨t, rfl⟩ := rx; exact SeqAt.RcNeAt.str_list _ _ p1.isList hu
    | _ => cases hs
  | ts h1 hs =>
    cases rx
    obtain ⟨i1, r1, p1, _⟩ := I.tuple h1
    cases y with
    | non => cases ry; exact SeqAt.RcNeAt.tuple_none p1 hu
    | bl b => cases ry; exact SeqAt.RcNeAt.tuple_bool _ p1 hu
    | int i => obtain ⟨t, rfl⟩ := ry; exact SeqAt.RcNeAt.tuple_int _ _ p1 hu
    | str z => obtain ⟨t, rfl⟩ := ry; exact SeqAt.RcNeAt.tuple_str _ _ p1 hu
    | _ => cases hs
  | st h1 hs =>
    cases ry
    obtain ⟨i1, r1, p1, _⟩ := I.tuple h1
    cases x with
    | non => cases rx; exact SeqAt.RcNeAt.none_tuple p1 hu
    | bl b => cases rx; exact SeqAt.RcNeAt.bool_tuple _ p1 hu
    | int i => obtain ⟨t, rfl⟩ := rx; exact SeqAt.RcNeAt.int_tuple _ _ p1 hu
    | str z => obtain ⟨t, rfl⟩ := rx; exact SeqAt.RcNeAt.str_tuple _ _ p1 hu
    | _ => cases hs
theorem EqI.run (I : Inv X pins σ H s) : ∀ {n : Nat} {A : Around}, A.units + n < cLine → ∀ {x y : V} {b : Bool} {v u : Value}, EqI X.K H n x y b → RelV x v → RelV y u → SeqAt.EqAt A s v u b
  | 0, _, _, _, _, _, _, _, h, _, _ => h.elim
  | n + 1, A, hu, x, y, b, v, u, h, rx, ry => by
    have hu1 : A.units < cLine := by omega
    rcases h with ⟨a, rfl, rfl, rfl⟩ | ⟨h, hn⟩
    · cases rx; cases ry; exact SeqAt.EqAt.same _
    · have ih : ∀ {x y : V} {b : Bool} {v u : Value}, EqI X.K H n x y b → RelV x v → RelV y u → SeqAt.EqAt A.in1 s v u b := EqI.run I (by show A.units + 1 + n < cLine; omega)
      by_cases hr : ∃ a b, x = V.ref a ∧ y = V.ref b
      · obtain ⟨a, b, rfl, rfl⟩ := hr
        have k := h.run I hu1 ih rx ry
        cases rx; cases ry
        exact SeqAt.EqAt.of_refs (fun e => hn a rfl (by rw [e])) k
      · have hu := hu1
        cases h with
        | sc h => exact sc_eq h rx ry
        | bi a j => cases rx; obtain ⟨t, rfl⟩ := ry; exact SeqAt.EqAt.bool_int _ _ _
        | ib i b => cases ry; obtain ⟨t, rfl⟩ := rx; exact SeqAt.EqAt.int_bool _ _ _
        | ll _ _ _ => exact absurd ⟨_, _, rfl, rfl⟩ hr
        | lst _ _ _ _ => exact absurd ⟨_, _, rfl, rfl⟩ hr
        | tup _ _ _ => exact absurd ⟨_, _, rfl, rfl⟩ hr
        | lt _ _ => exact absurd ⟨_, _, rfl, rfl⟩ hr
        | tl _ _ => exact absurd ⟨_, _, rfl, rfl⟩ hr
        | ls h1 hs =>
          cases rx
          obtain ⟨i1, r1, p1, _⟩ := I.list h1
          cases y with
          | non => cases ry; exact SeqAt.EqAt.list_none p1.isList hu
          | bl b => cases ry; exact SeqAt.EqAt.list_bool _ p1.isList hu
          | int i => obtain ⟨t, rfl⟩ := ry; exact SeqAt.EqAt.list_int _ _ p1.isList hu
          | str z => obtain ⟨t, rfl⟩ := ry; exact SeqAt.EqAt.list_str _ _ p1.isList hu
          | _ => cases hs
        | sl h1 hs =>
          cases ry
          obtain ⟨i1, r1, p1, _⟩ := I.list h1
          cases x with
          | non => cases rx; exact SeqAt.EqAt.none_list p1.isList hu
          | bl b => cases rx; exact SeqAt.EqAt.bool_list _ p1.isList hu
          | int i => obtain ⟨t, rfl⟩ := rx; exact SeqAt.EqAt.int_list _ _ p1.isList hu
          | str z => obtain ⟨t, rfl⟩ := rx; exact SeqAt.EqAt.str_list _ _ p1.isList hu
          | _ => cases hs
        | ts h1 hs =>
          cases rx
          obtain ⟨i1, r1, p1, _⟩ := I.tuple h1
          cases y with
          | non => cases ry; exact SeqAt.EqAt.tuple_none p1 hu
          | bl b => cases ry; exact SeqAt.EqAt.tuple_bool _ p1 hu
          | int i => obtain ⟨t, rfl⟩ := ry; exact SeqAt.EqAt.tuple_int _ _ p1 hu
          | str z => obtain ⟨t, rfl⟩ := ry; exact SeqAt.EqAt.tuple_str _ _ p1 hu
          | _ => cases hs
        | st h1 hs =>
          cases ry
          obtain ⟨i1, r1, p1, _⟩ := I.tuple h1
          cases x with
          | non => cases rx; exact SeqAt.EqAt.none_tuple p1 hu
          | bl b => cases rx; exact SeqAt.EqAt.bool_tuple _ p1 hu
          | int i => obtain ⟨t, rfl⟩ := rx; exact SeqAt.EqAt.int_tuple _ _ p1 hu
          | str z => obtain ⟨t, rfl⟩ := rx; exact SeqAt.EqAt.str_tuple _ _ p1 hu
          | _ => cases hs
/-- x == y, x != y -/
def rEqG (K : PySem.W.Frag) : R2 := fun x y H Q => ∃ b, EqR K H (EqI K H 60) x y b ∧ Q (.bl b) H
def rNeG (K : PySem.W.Frag) : R2 := fun x y H Q => ∃ b, EqR K H (EqI K H 60) x y b ∧ Q (.bl (!b)) H
theorem op_eqG (hu : X.A.units + 64 < cLine) : OpR X (compareOp .Eq) (rEqG X.K) := by
  intro pins s σ H x y v u Q I rx ry h
  obtain ⟨b, e, q⟩ := h
  exact e.run I (A := X.A) (by omega) (EqI.run I (by show X.A.units + 1 + 60 < cLine; omega)) rx ry X.prog X.w _ _ ⟨.bl b, H, I, rfl, q⟩
theorem op_neG (hu : X.A.units + 64 < cLine) : OpR X (compareOp .NotEq) (rNeG X.K) := by
  intro pins s σ H x y v u Q I rx ry h
  obtain ⟨b, e, q⟩ := h
  exact e.runNe I (A := X.A) (by omega) (EqI.run I (by show X.A.units + 1 + 60 < cLine; omega)) rx ry X.prog X.w _ _ ⟨.bl (!b), H, I, rfl, q⟩
end
end Z
namespace Z
open PySem PySem.Spec PyProof.Rows L2 Evl
def rAddA (K : PySem.W.Frag) : R2 := fun x y H Q => (∃ i j, x = .int i ∧ y = .int j ∧ Q (.int (i + j)) H) ∨ (∃ i j, x = .str i ∧ y = .str j ∧ i.length + j.length ≤ sizeLine ∧ Q (.str (i ++ j)) H) ∨ rCat x y H Q ∨ L2.rCatA K x y H Q
def rSubA : R2 := fun x y H Q => ∃ i j, x = .int i ∧ y = .int j ∧ Q (.int (i - j)) H
def rMulS : R2 := fun x y H Q => ∃ z n, x = .str z ∧ y = .int n ∧ MulOk z n ∧ Q (.str (Txt.mul z n)) H
def rMulA : R2 := fun x y H Q => (∃ i j, x = .int i ∧ y = .int j ∧ CMulW i j ∧ Q (.int (i * j)) H) ∨ rMulS x y H Q ∨ rRep x y H Q
def rDivA : R2 := fun x y H Q => ∃ i j, x = .int i ∧ y = .int j ∧ CDivW i j ∧ Q (.int (i / j)) H
def rModA : R2 := fun x y H Q => ∃ i j, x = .int i ∧ y = .int j ∧ 0 < j ∧ Q (.int (i % j)) H
def rPowA : R2 := fun x y H Q => ∃ i j, x = .int i ∧ y = .int j ∧ CPow i j ∧ Q (.int (i ^ j.toNat)) H
def rEqA (K : PySem.W.Frag) : R2 := fun x y H Q => rEq x y H Q ∨ rEqG K x y H Q ∨ rEqD K x y H Q
def rNeA (K : PySem.W.Frag) : R2 := fun x y H Q => rNe x y H Q ∨ rNeG K x y H Q ∨ rNeD K x y H Q
def rLtA : R2 := fun x y H Q => (∃ i j, x = .int i ∧ y = .int j ∧ Q (.bl (decide (i < j))) H) ∨ (∃ i j, x = .str i ∧ y = .str j ∧ Q (.bl (decide (i.cps.toList < j.cps.toList))) H)
def rGtA : R2 := fun x y H Q => (∃ i j, x = .int i ∧ y = .int j ∧ Q (.bl (decide (j < i))) H) ∨ (∃ i j, x = .str i ∧ y = .str j ∧ Q (.bl (decide (j.cps.toList < i.cps.toList))) H)
def rGeA : R2 := fun x y H Q => (∃ i j, x = .int i ∧ y = .int j ∧ Q (.bl (decide (j ≤ i))) H) ∨ (∃ i j, x = .str i ∧ y = .str j ∧ Q (.bl (!decide (i.cps.toList < j.cps.toList))) H)
def rIsA : R2 := fun x y H Q => (y = .non ∧ Q (.bl (decide (x = .non))) H) ∨ rIsB x y H Q ∨ (∃ a b oa ob, x = .ref a ∧ y = .ref b ∧ H a = some oa ∧ isObj oa = true ∧ H b = some ob ∧ isObj ob = true ∧ Q (.bl (decide (a = b))) H)
def rNotA : R2 := fun x y H Q => (y = .non ∧ Q (.bl (!decide (x = .non))) H) ∨ rNotB x y H Q ∨ (∃ a b oa ob, x = .ref a ∧ y = .ref b ∧ H a = some oa ∧ isObj oa = true ∧ H b = some ob ∧ isObj ob = true ∧ Q (.bl (!decide (a = b))) H)
def rInA (K : PySem.W.Frag) : R2 := fun x y H Q => (∃ (c : Nat) (z : Str), x = .str ⟨#[c]⟩ ∧ y = .str z ∧ Q (.bl (decide (c ∈ z.cps.toList))) H) ∨ rIn K false x y H Q ∨ (∃ i j, x = .str i ∧ y = .str j ∧ Q (.bl (!(Builtin.Str.occurrences j i 0 j.length 1).isEmpty)) H)
def rNinA (K : PySem.W.Frag) : R2 := fun x y H Q => (∃ (c : Nat) (z : Str), x = .str ⟨#[c]⟩ ∧ y = .str z ∧ Q (.bl (!decide (c ∈ z.cps.toList))) H) ∨ rIn K true x y H Q ∨ (∃ i j, x = .str i ∧ y = .str j ∧ Q (.bl (!(!(Builtin.Str.occurrences j i 0 j.length 1).isEmpty))) H)
def rSlA (K : PySem.W.Frag) : V → Option Int → Option Int → Hp → VK → Prop := fun x lo hi H Q => rSlS x lo hi H Q ∨ rSlL K x lo hi H Q ∨ L2.rSlA K x lo hi H Q
def rLenA (K : PySem.W.Frag) : List V → Hp → VK → Prop := fun xs H Q => (∃ x n, xs = [x] ∧ LenV K x H n ∧ Q (.int n) H) ∨ (∃ a kvs, xs = [V.ref a] ∧ H a = some (.dK kvs) ∧ Q (.int kvs.length) H)
def rMinA (K : PySem.W.Frag) : List V → Hp → VK → Prop := fun xs H Q => (∃ i j, xs = [.int i, .int j] ∧ Q (.int (if j < i then j else i)) H) ∨ rMin K xs H Q
section
variable {X : Cx}
theorem op_addA : OpR X (binaryOp .Add) (rAddA X.K) := op_add.or (op_add_str.or (op_cat.or op_catA))
theorem op_subA : OpR X (binaryOp .Sub) rSubA := op_sub
theorem op_mulS : OpR X (binaryOp .Mult) rMulS := by
  intro pins s σ H x y v u Q I rx ry h
  obtain ⟨i, j, rfl, rfl, hz, q⟩ := h
  obtain ⟨t, rfl⟩ := rx
  obtain ⟨t', rfl⟩ := ry
  exact SB.mul hz fun t' k => ⟨.str _, H, I.tok _, ⟨_, rfl⟩, q⟩
theorem op_mulA : OpR X (binaryOp .Mult) rMulA := op_mulW.or (op_mulS.or op_rep)
theorem op_divA : OpR X (binaryOp .FloorDiv) rDivA := op_fdivW
theorem op_modA : OpR X (binaryOp .Mod) rModA := op_mod
theorem op_powA : OpR X (binaryOp .Pow) rPowA := op_pow
theorem op_eqA (hu : X.A.units + 64 < cLine) : OpR X (compareOp .Eq) (rEqA X.K) := op_eq.or ((op_eqG hu).or (op_eqD hu))
theorem op_neA (hu : X.A.units + 64 < cLine) : OpR X (compareOp .NotEq) (rNeA X.K) := op_ne.or ((op_neG hu).or (op_neD hu))
theorem op_ltA : OpR X (compareOp .Lt) rLtA := op_lt.or op_lt_str
theorem op_gtA : OpR X (compareOp .Gt) rGtA := op_gt.or op_gt_str
theorem op_geA : OpR X (compareOp .GtE) rGeA := op_ge.or op_ge_str
theorem op_isA : OpR X (compareOp .Is) rIsA := op_isN.or (op_isBl.or op_is_ref)
theorem op_notA : OpR X (compareOp .IsNot) rNotA := op_notN.or (op_notBl.or op_isnot_ref)
theorem op_inA : OpR X (compareOp .In) (rInA X.K) := op_in_sign.or (op_in_seq.or op_in_str)
theorem op_ninA : OpR X (compareOp .NotIn) (rNinA X.K) := op_notIn_sign.or (op_notIn_seq.or op_notIn_str)
theorem sl_A : SlR X (rSlA X.K) := sl_str.or (sl_list.or sl_tupA)
theorem call_lenA : CallR X (.builtin "len") (rLenA X.K) := call_len.or call_lenD
theorem call_minA (hc : X.calm = true) : CallR X (.builtin "min") (rMinA X.K) := (call_min2 hc).or (cr_min hc)
theorem PI.or {tg iter : Expr} {w1 w2 : TI} (h1 : PI X tg iter w1) (h2 : PI X tg iter w2) : PI X tg iter (fun σ H R => w1 σ H R ∨ w2 σ H R) :=
  ⟨fun pins s σ H R I h => h.elim (h1.run pins s σ H R I) (h2.run pins s σ H R I)⟩
theorem pe_gint {x : Str} {i : Int} {pos : Pos} (hg : Gl X x) (hm : ∃ t, X.mg x = some (.int i t)) (hd : (x == ("__debug__" : Str)) = false := by decide) : PE X (.Name x pos) (tC (.int i)) :=
  let ⟨t, h⟩ := hm
  pe_glob hg h ⟨t, rfl⟩ hd
theorem pe_gstr {x : Str} {i : Str} {pos : Pos} (hg : Gl X x) (hm : ∃ t, X.mg x = some (.str i t)) (hd : (x == ("__debug__" : Str)) = false := by decide) : PE X (.Name x pos) (tC (.str i)) :=
  let ⟨t, h⟩ := hm
  pe_glob hg h ⟨t, rfl⟩ hd
end
structure Fok (P : Program) (w : World) (K : PySem.W.Frag) (mg : Str → Option Value) (base : Heap) (CX : CXT) (k : Nat) (x : Str) (ps : List Str) (sp : Sp) : Prop where
  ex : ∃ fd, FnOk P w K mg base CX k (He.ga K x) fd ps sp ∧ Binds K fd ps []
  hm : mg x = some (.ref (He.ga K x))
  kp : PySem.W.keepIn K (.ref (He.ga K x)) = true
theorem pe_callF {X : Cx} {CX : CXT} {k : Nat} {x : Str} {ps : List Str} {sp : Sp} {E : XK} {e : Expr} {es : List Expr} {t : TA} {p pos : Pos} (F : Fok X.prog X.w X.K X.mg X.base CX k x ps sp) (hr : Room k X.A) (hg : Gl X x) (hx : Passes CX X E)
    (ha : PA X (e :: es) t) (hdb : (x == ("__debug__" : Str)) = false := by decide) (he : starEach (e :: es) X.env = (false, eval e X.env) :: starEach es X.env := by rfl) (hpl : (backTo pos (starEach es X.env)).any (·.1) = false := by rfl) :
    PE X (.Call (.Name x p) (e :: es) [] pos) (tCall sp [] E t) :=
  let ⟨_, h1, h2⟩ := F.ex
  pe_call h1 hr hg F.hm F.kp h2 .nil hx ha hdb he hpl
/-- all but the object at p is as it was -/
def But (p : Addr) (H H' : Hp) : Prop := ∀ a o, H a = some o → a ≠ p → H' a = some o
theorem But.refl {p : Addr} {H : Hp} : But p H H := fun _ _ h _ => h
theorem But.trans {p : Addr} {H H1 H2 : Hp} (a : But p H H1) (b : But p H1 H2) : But p H H2 := fun x o h n => b x o (a x o h n) n
theorem But.ex {p : Addr} {H H1 H2 : Hp} (a : But p H H1) (b : Ex H1 H2) : But p H H2 := fun x o h n => b x o (a x o h n)
theorem But.new {p q : Addr} {H H1 : Hp} {o : HO} (a : But p H H1) (h : H1 q = none) : But p H (upd H1 q o) := a.ex (Ex.new h)
theorem But.set {p : Addr} {H H1 : Hp} {o : HO} (a : But p H H1) : But p H (upd H1 p o) := fun x o h n => by
  rw [upd_ne n]
  exact a x o h n
section
variable {K : PySem.W.Frag} {σ : L2.St} {H : Hp} {Q : VK} {ta tb : TE} {x y v : V}
/-- a list against the empty one -/
theorem eq_nil {K : PySem.W.Frag} {H : Hp} {a b : Addr} {xs : List V} {E : V → V → Bool → Prop} (ha : H a = some (.lst xs)) (hb : H b = some (.lst [])) : EqR K H E (.ref a) (.ref b) xs.isEmpty := by
  cases xs with
  | nil => exact .lst (e := []) (SqL.of ha) (SqL.of hb) rfl .nil
  | cons x xs => exact .ll (SqL.of ha) (SqL.of hb) (by simp)
end
end Z
namespace Z
open PySem PySem.Spec PyProof.Rows L2
def eqB {α : Type} [DecidableEq α] (a b : α) : Bool := decide (a = b)
theorem eqB_ok {α : Type} [DecidableEq α] {a b : α} (h : eqB a b = true) : a = b := of_decide_eq_true h
/-- a class over ValueError, by whatever classes of the module -/
def clsB (K : PySem.W.Frag) (C : Addr) : Bool := match K.lookup C with
  | some ⟨.type "type", _, .cls cd, sl⟩ => (match cd.mro, sl.toList with
    | .ref C' :: bm, [_, _, _, _, some (.builtin n), _] => C' == C && (n == "ValueError.__new__" && (!cd.hasDel && (cd.hasDict && PySem.HandSPX.refsVE bm)))
    | _, _ => false)
  | _ => false
theorem clsB_ok {K : PySem.W.Frag} {C : Addr} (q : clsB K C = true) : ∃ nm q N bs bm sn sub ab col dd k0 k1 k2 k3 k5, K.lookup C = some (excClassObj nm q C N bs bm true sn sub ab col dd k0 k1 k2 k3 k5 "ValueError.__new__") ∧ PySem.HandSPX.refsVE bm = true := by
  unfold clsB at q
  split at q
  · rename_i dd cd sl ho
    split at q
    · rename_i C' bm k0 k1 k2 k3 n k5 hm hs
      simp only [Bool.and_eq_true, beq_iff_eq, Bool.not_eq_true'] at q
      obtain ⟨rfl, rfl, hdel, hdict, ht⟩ := q
      obtain ⟨nm, bs, mro, ns, qn, hd, sn, sub, ab, col, del⟩ := cd
      dsimp only at hm hdel hdict
      subst hm hdel hdict
      have hsl : sl = #[k0, k1, k2, k3, some (.builtin "ValueError.__new__"), k5] := by
        obtain ⟨l⟩ := sl
        simp only at hs
        rw [hs]
      subst hsl
      exact ⟨nm, qn, ns, bs, bm, sn, sub, ab, col, dd, k0, k1, k2, k3, k5, ho, ht⟩
    · cases q
  · cases q
abbrev FnS : Type := Option (Str × Str × Arguments × FuncBody × Scope × Addr × List Str × Addr)
/-- a function that closes over cells: the cells' names -/
def fnS (K : PySem.W.Frag) (p : Str × Option Str) : FnS := match K.lookup (He.fAd K p) with
  | some ⟨_, _, .func fd, _⟩ => some (fd.name, fd.qualname, fd.params, fd.body, fd.scope, fd.globals, fd.closure.map (·.1), fd.builtins)
  | _ => none
def initC (P0 : Program) (K : PySem.W.Frag) (C fI : Addr) : Bool := match K.lookup fI with
  | some ⟨_, _, .func fd, _⟩ => (match fd.code, fd.closure, fd.defaults, fd.kwdefaults with
    | .ref cda, [(_, cc)], .none, .none => PySem.W.codeIn K (.ref cda) fd.qualname && ((match K.lookup cc with
      | some ⟨_, _, .cell (some (.ref D)), _⟩ => D == C
      | _ => false) && (match K.lookup cda with
      | some ⟨_, _, .fields vs, _⟩ => (match (vs : Array Value)[2]? with
        | some (Value.str file _) => (P0.main.file : Str) == file
        | _ => false)
      | _ => false))
    | _, _, _, _ => false)
  | _ => false
def initB (P0 : Program) (K : PySem.W.Frag) (x : Str) : Bool :=
  eqB (PySem.W.findIn K (.ref (He.ga K x)) "__init__") (some (some (.ref (He.ma K (He.ga K x) "__init__")))) && (eqB (PySem.W.typeIn K (.ref (He.ma K (He.ga K x) "__init__"))) (some (.type "function")) &&
  ((PySem.W.keepIn K (.ref (He.ga K x)) && (eqB (PySem.W.subIn K (.ref (He.ga K x)) (.type "BaseException")) (some true) && (eqB (PySem.W.subIn K (.ref (He.ga K x)) (.type "ValueError")) (some true) && (eqB (PySem.W.typeIn K (.ref (He.ga K x))) (some (.type "type")) &&
    (eqB (PySem.W.mroIn K (He.ga K x) (.ref (He.ga K x))) (some true) && (eqB (PySem.W.nsIn K cStatics "thirdparty.any") (some none) && eqB (PySem.W.ks_superIn K (He.ga K x) (He.ga K x) "__init__") (some (some (.builtin "ValueError.__init__"))))))))) && initC P0 K (He.ga K x) (He.ma K (He.ga K x) "__init__")))
theorem initB_ok {P0 : Program} {K : PySem.W.Frag} {x : Str} (c : initB P0 K x = true) :
    PySem.W.findIn K (.ref (He.ga K x)) "__init__" = some (some (.ref (He.ma K (He.ga K x) "__init__"))) ∧ PySem.W.typeIn K (.ref (He.ma K (He.ga K x) "__init__")) = some (.type "function") ∧ True ∧ True ∧ True ∧
    (PySem.W.keepIn K (.ref (He.ga K x)) = true ∧ PySem.W.subIn K (.ref (He.ga K x)) (.type "BaseException") = some true ∧ PySem.W.subIn K (.ref (He.ga K x)) (.type "ValueError") = some true ∧ PySem.W.typeIn K (.ref (He.ga K x)) = some (.type "type") ∧
      PySem.W.mroIn K (He.ga K x) (.ref (He.ga K x)) = some true ∧ PySem.W.nsIn K cStatics "thirdparty.any" = some none ∧ PySem.W.ks_superIn K (He.ga K x) (He.ga K x) "__init__" = some (some (.builtin "ValueError.__init__"))) ∧
    ∀ (nm qu : Str) (ps : Arguments) (body : List Stmt) (sc : Scope), fnS K (x, some "__init__") = some (nm, qu, ps, FuncBody.stmts body, sc, mainGlobals, [("__class__" : Str)], builtinsNs) →
      ∃ oc od osl doc pm an cda ct cc, K.lookup (He.ma K (He.ga K x) "__init__") = some ⟨oc, od, .func (PySem.W.ksFn nm qu ps body sc .none .none doc pm an (.ref cda) ct cc), osl⟩ ∧ PySem.W.codeIn K (.ref cda) qu = true ∧
        (∃ cl cld csl, K.lookup cc = some ⟨cl, cld, .cell (some (.ref (He.ga K x))), csl⟩) ∧ (∃ ccl cdd vs ccs file tf, K.lookup cda = some ⟨ccl, cdd, .fields vs, ccs⟩ ∧ vs[2]? = some (.str file tf) ∧ ((P0.main.file : Str) == file) = true) := by
  obtain ⟨c1, c⟩ := He.ba c
  obtain ⟨c2, c⟩ := He.ba c
  obtain ⟨c3, c4⟩ := He.ba c
  obtain ⟨k1, c3⟩ := He.ba c3
  obtain ⟨k2, c3⟩ := He.ba c3
  obtain ⟨k3, c3⟩ := He.ba c3
  obtain ⟨k4, c3⟩ := He.ba c3
  obtain ⟨k5, c3⟩ := He.ba c3
  obtain ⟨k6, k7⟩ := He.ba c3
  refine ⟨eqB_ok c1, eqB_ok c2, trivial, trivial, trivial, ⟨k1, eqB_ok k2, eqB_ok k3, eqB_ok k4, eqB_ok k5, eqB_ok k6, eqB_ok k7⟩, fun nm qu ps body sc e => ?_⟩
  unfold initC at c4
  unfold fnS He.fAd at e
  dsimp only at e
  cases q : K.lookup (He.ma K (He.ga K x) "__init__") with
  | none =>
    rw [q] at c4
    cases c4
  | some o =>
    obtain ⟨oc, od, dt, osl⟩ := o
    rw [q] at c4 e
    cases dt with
    | func fd =>
      obtain ⟨n1, n2, n3, n4, n5, n6, n7, n8, n9, n10, n11, n12, n13, n14, n15⟩ := fd
      have e2 : (some (n1, n2, n3, n4, n5, n6, n7.map (·.1), n15) : FnS) = some (nm, qu, ps, FuncBody.stmts body, sc, mainGlobals, [("__class__" : Str)], builtinsNs) := e
      simp only [Option.some.injEq, Prod.mk.injEq] at e2
      obtain ⟨h1, h2, h3, h4, h5, h6, h7, h8⟩ := e2
      subst h1 h2 h3 h4 h5 h6 h8
      dsimp only at c4
      split at c4
      · rename_i cda cn cc
        obtain ⟨m1, c4⟩ := He.ba c4
        obtain ⟨m2, m3⟩ := He.ba c4
        have hcn : cn = "__class__" := by simpa using h7
        subst hcn
        refine ⟨oc, od, osl, n10, n11, n12, cda, n14, cc, rfl, m1, ?_, ?_⟩
        · split at m2
          · rename_i cl cld D csl hc
            have hD : D = He.ga K x := by simpa using m2
            rw [hD] at hc
            exact ⟨_, _, _, hc⟩
          · cases m2
        · split at m3
          · rename_i ccl cdd vs ccs hc
            split at m3
            · rename_i file tf hv
              exact ⟨_, _, _, _, _, _, hc, hv, m3⟩
            · cases m3
          · cases m3
      · cases c4
    | _ => cases c4
/-- the getter behind a property -/
def prA (K : PySem.W.Frag) (p : Str × Option Str) : Addr := match PySem.W.recIn K (He.fAd K p) "property" with
  | some (.ref g :: _) => g
  | _ => 0
def fnWP (K : PySem.W.Frag) (p : Str × Option Str) : He.FnW := match K.lookup (prA K p) with
  | some ⟨_, _, .func fd, _⟩ => some (fd.name, fd.qualname, fd.params, fd.body, fd.scope, fd.globals, fd.closure, fd.builtins)
  | _ => none
def okP (K : PySem.W.Frag) (d : He.DefD) : Bool := PySem.W.keepIn K (.ref (prA K d.at_)) && (match K.lookup (prA K d.at_) with
  | some ⟨_, _, .func fd, _⟩ => PySem.W.codeIn K fd.code d.qual && (He.dflB K fd.defaults (d.dvs K) && He.kwdB K fd.kwdefaults (d.kws K))
  | _ => false)
abbrev AlX : Type := Bool × (List He.FnW × (List FnS × (List (Option (List (Option (Str × Int)))) × List He.FnW)))
/-- fs: functions that close over cells, with what they must be; cu: facts of one's own; ts: dicts of the module with text keys -/
def obsX (fa : List He.Fa) (fn : List He.DefD) (fs : List ((Str × Option Str) × FnS)) (cu : List (PySem.W.Frag → Bool)) (ts : List He.Tab) (pr : List He.DefD) (K : PySem.W.Frag) : AlX :=
  ((fa.all fun f => f.ok K) && ((fn.all fun d => d.ok K) && ((cu.all fun c => c K) && pr.all fun d => okP K d)), (fn.map fun d => He.fnW K d.at_, (fs.map fun f => fnS K f.1, (ts.map fun t => He.dicW K (t.1 K), pr.map fun d => fnWP K d.at_))))
def valX (fn : List He.DefD) (fs : List ((Str × Option Str) × FnS)) (ts : List He.Tab) (pr : List He.DefD) (w : World) : AlX := (true, (fn.map He.DefD.val, (fs.map (·.2), (ts.map fun t => some (He.keysIn w.params t.2), pr.map He.DefD.val))))
def SaysX (fa : List He.Fa) (fn : List He.DefD) (fs : List ((Str × Option Str) × FnS)) (cu : List (PySem.W.Frag → Bool)) (ts : List He.Tab) (pr : List He.DefD) (w : World) (K : PySem.W.Frag) : Prop := obsX fa fn fs cu ts pr K = valX fn fs ts pr w
/-- the addresses that the module's names reach in n steps, those met told by the bits of a number -/
def addB (p : Nat × List Addr) (a : Addr) : Nat × List Addr := match p with
  | (m, l) => match Nat.land 1 (Nat.shiftRight m a) with
    | 0 => (Nat.lor m (Nat.shiftLeft 1 a), a :: l)
    | _ => (m, l)
def refsG (g : Addr → Option Obj) (a : Addr) : List Addr := match g a with
  | some o => He.refsD o
  | none => []
def bfsB (g : Addr → Option Obj) : Nat → Nat → List Addr → List Addr
  | 0, _, fr => fr
  | n + 1, m, fr => match (fr.flatMap (refsG g)).foldl addB (m, []) with
    | (m', fr') => fr ++ bfsB g n m' fr'
def asB (g : Addr → Option Obj) (n : Nat) : List Addr := bfsB g n (Nat.shiftLeft 1 mainGlobals) [mainGlobals]
def obsXG (n : Nat) (fa : List He.Fa) (fn : List He.DefD) (fs : List ((Str × Option Str) × FnS)) (cu : List (PySem.W.Frag → Bool)) (ts : List He.Tab) (pr : List He.DefD) (g : Addr → Option Obj) : AlX := obsX fa fn fs cu ts pr (He.frG g (cStatics :: asB g n))
def hookX (n : Nat) (fa : List He.Fa) (fn : List He.DefD) (fs : List ((Str × Option Str) × FnS)) (cu : List (PySem.W.Frag → Bool)) (ts : List He.Tab) (pr : List He.DefD) : PySem.W.Hook where
  α := AlX
  obs := fun s => obsXG n fa fn fs cu ts pr s.heap.get?
  val := fun w => valX fn fs ts pr w
  says := fun w h => ∃ K : PySem.W.Frag, K.In h ∧ SaysX fa fn fs cu ts pr w K
  of := fun _ _ e => ⟨_, He.frG_in, e⟩
  keeps := fun _ _ _ ⟨K, hK, c⟩ k => ⟨K, PySem.W.Frag.In.keeps hK k, c⟩
theorem obsXG_eq {n : Nat} {fa : List He.Fa} {fn : List He.DefD} {fs : List ((Str × Option Str) × FnS)} {cu : List (PySem.W.Frag → Bool)} {ts : List He.Tab} {pr : List He.DefD} {g : Addr → Option Obj} {s : Shared} (h : ∀ a, g a = s.heap.get? a) : obsXG n fa fn fs cu ts pr g = (hookX n fa fn fs cu ts pr).obs s := by
  have e : g = s.heap.get? := funext h
  rw [e] <;> rfl
section
variable {fa : List He.Fa} {fn : List He.DefD} {fs : List ((Str × Option Str) × FnS)} {cu : List (PySem.W.Frag → Bool)} {ts : List He.Tab} {pr : List He.DefD} {w : World} {K : PySem.W.Frag}
theorem SaysX.all (c : SaysX fa fn fs cu ts pr w K) : (fa.all fun f => f.ok K) = true ∧ (fn.all fun d => d.ok K) = true ∧ (cu.all fun c => c K) = true ∧ (pr.all fun d => okP K d) = true := by
  have c1 : ((fa.all fun f => f.ok K) && ((fn.all fun d => d.ok K) && ((cu.all fun c => c K) && pr.all fun d => okP K d))) = true := congrArg (fun z : AlX => z.1) c
  obtain ⟨a, b⟩ := He.ba c1
  obtain ⟨b, d⟩ := He.ba b
  obtain ⟨d, e⟩ := He.ba d
  exact ⟨a, b, d, e⟩
theorem SaysX.fact (c : SaysX fa fn fs cu ts pr w K) (i : Nat) {f : He.Fa} (h : fa[i]? = some f := by rfl) : f.ok K = true := List.all_eq_true.mp c.all.1 f (List.mem_of_getElem? h)
theorem SaysX.own (c : SaysX fa fn fs cu ts pr w K) (i : Nat) {f : PySem.W.Frag → Bool} (h : cu[i]? = some f := by rfl) : f K = true := List.all_eq_true.mp c.all.2.2.1 f (List.mem_of_getElem? h)
theorem SaysX.init (c : SaysX fa fn fs cu ts pr w K) (i : Nat) {f : (Str × Option Str) × FnS} (h : fs[i]? = some f := by rfl) : fnS K f.1 = f.2 := by
  have e : fs.map (fun f => fnS K f.1) = fs.map (·.2) := congrArg (fun z : AlX => z.2.2.1) c
  have e2 : (fs.map fun f => fnS K f.1)[i]? = (fs.map (·.2))[i]? := by rw [e]
  rw [List.getElem?_map, List.getElem?_map, h] at e2
  exact Option.some.inj e2
theorem SaysX.def_ (c : SaysX fa fn fs cu ts pr w K) (i : Nat) {d : He.DefD} (h : fn[i]? = some d := by rfl) : ∃ fd, FunD K d.name d.qual d.params d.body d.scope (d.dvs K) (d.kws K) (He.fAd K d.at_) fd := by
  have e : fn.map (fun d => He.fnW K d.at_) = fn.map He.DefD.val := congrArg (fun z : AlX => z.2.1) c
  have e2 : (fn.map fun d => He.fnW K d.at_)[i]? = (fn.map He.DefD.val)[i]? := by rw [e]
  rw [List.getElem?_map, List.getElem?_map, h] at e2
  exact He.DefD.funD (Option.some.inj e2) (List.all_eq_true.mp c.all.2.1 d (List.mem_of_getElem? h))
end
/-- at a: a tuple of these -/
def tupK (K : PySem.W.Frag) (a : Addr) (vs : List He.Dv) : Bool := match K.lookup a with
  | some ⟨.type c, _, .seq its _, _⟩ => decide (c = "tuple") && (decide (its.size ≤ sizeLine) && He.relAll (vs.map (He.Dv.v K)) its.toList)
  | _ => false
theorem tupK_ok {K : PySem.W.Frag} {a : Addr} {vs : List He.Dv} (h : tupK K a vs = true) (H : Hp) : SqT K H a (vs.map (He.Dv.v K)) := by
  unfold tupK at h
  cases q : K.lookup a with
  | none => rw [q] at h; cases h
  | some o =>
    obtain ⟨oc, od, dt, osl⟩ := o
    rw [q] at h
    cases oc with
    | type c =>
      cases dt with
      | seq its n =>
        obtain ⟨h1, h2⟩ := He.ba (show (decide (c = "tuple") && (decide (its.size ≤ sizeLine) && He.relAll (vs.map (He.Dv.v K)) its.toList)) = true from h)
        obtain ⟨h3, h4⟩ := He.ba h2
        exact .inr ⟨_, its, n, q, congrArg Value.type (of_decide_eq_true h1), rfl, of_decide_eq_true h3, He.relAll_ok h4⟩
      | _ => cases h
    | _ => cases dt <;> cases h
end Z
namespace Z
open PySem PySem.Spec PyProof.Rows L2 Evl
/-- a call of a def that may raise, by its promise (Fok); W: what is wanted of the exception -/
theorem pe_callG {X : Cx} {W : WX} {k : Nat} {x : Str} {ps : List Str} {sp : Sp} {e : Expr} {es : List Expr} {t : TA} {p pos : Pos} (F : Fok X.prog X.w X.K X.mg X.base (L2.CX X.prog X.w) k x ps sp) (hr : Room k X.A) (hg : Gl X x) (tk : Takes X W)
    (ha : PA X (e :: es) t) (hdb : (x == ("__debug__" : Str)) = false := by decide) (he : starEach (e :: es) X.env = (false, eval e X.env) :: starEach es X.env := by rfl) (hpl : (backTo pos (starEach es X.env)).any (·.1) = false := by rfl) :
    PE X (.Call (.Name x p) (e :: es) [] pos) (tCallS sp (WE W) t) :=
  let ⟨_, h1, h2⟩ := F.ex
  pe_callS h1 hr hg F.hm F.kp h2 (fun σ => passAt tk σ) ha hdb he hpl
/-- what an exception's way out is owed: of the class x, its field f holding v, all that was there kept -/
def Rz (K : PySem.W.Frag) (x f : Str) (v : V) (H : Hp) (E : XK) : Prop := ∀ H' d, Ex H H' → H' d = some (.xd [(f, v)]) → E (.ref (He.ga K x)) (some d) H'
end Z
namespace Z
open PySem PySem.Spec PyProof.Rows L2 Evl
def perm {α : Type} (p : List Nat) (l : List α) : List α := p.filterMap fun i => l[i]?
theorem perm_rel {vs : List V} {us : List Value} (r : Vals vs us) : ∀ p : List Nat, Vals (perm p vs) (perm p us)
  | [] => .nil
  | i :: p => by
    have ih := perm_rel r p
    unfold perm at ih ⊢
    rw [List.filterMap_cons, List.filterMap_cons]
    cases e : vs[i]? with
    | none =>
      have hl : us[i]? = none := by
        rw [List.getElem?_eq_none_iff] at e ⊢
        rw [← r.length]
        exact e
      rw [hl]
      exact ih
    | some v =>
      obtain ⟨u, hu, ru⟩ := Vals.get r e
      rw [hu]
      exact .cons ru ih
structure FokK (P : Program) (w : World) (K : PySem.W.Frag) (mg : Str → Option Value) (base : Heap) (CX : CXT) (k : Nat) (x : Str) (ps : List Str) (sp : Sp) (n : Nat) (ks : List Str) (p : List Nat) : Prop where
  ex : ∃ fd, FnOk P w K mg base CX k (He.ga K x) fd ps sp ∧ ∀ (s : Shared) (us ws : List Value), us.length = n → ws.length = ks.length → BindsTo s fd ⟨us, ks.zip ws⟩ (ps.zip (perm p (us ++ ws)))
  hm : mg x = some (.ref (He.ga K x))
  kp : PySem.W.keepIn K (.ref (He.ga K x)) = true
theorem kbinds {K : PySem.W.Frag} {x qual : Str} {params : Arguments} {body : List Stmt} {scope : Scope} {kws : List (Str × V)} {f : Addr} {fd : FuncData} {ps ks : List Str} {n : Nat} {p : List Nat} (F : FunD K x qual params body scope [] kws f fd)
    (h : ∀ (kV doc pm : Value) (an : Option Addr) (cdv ct : Value) (us ws : List Value), us.length = n → ws.length = ks.length → bindArgs (PySem.W.fnOf x qual params body scope .none kV doc pm an cdv ct) ⟨us, ks.zip ws⟩ = pure (ps.zip (perm p (us ++ ws)))) :
    ∀ (s : Shared) (us ws : List Value), us.length = n → ws.length = ks.length → BindsTo s fd ⟨us, ks.zip ws⟩ (ps.zip (perm p (us ++ ws))) := by
  obtain ⟨oc, od, dV, kV, doc, pm, an, cdv, ct, osl, rfl, lk, hcd, hD, hK⟩ := F.ex
  rcases hD with ⟨_, rfl⟩ | ⟨e, _⟩
  · exact fun s us ws l1 l2 => BindsTo.of_eq (h kV doc pm an cdv ct us ws l1 l2)
  · exact absurd rfl e
/-- f(e, .., k = v, ..) -/
def tCallP (p : List Nat) (n m : Nat) (sp : Sp) (E : L2.St → XK) (t tk : TA) : TE := fun σ H Q => t σ H fun vs H1 => tk σ H1 fun zs H2 => vs.length = n ∧ zs.length = m ∧ sp (perm p (vs ++ zs)) H2 Q (E σ)
section
variable {X : Cx} {CX : CXT} {k n : Nat} {ps ks : List Str} {sp : Sp} {E : L2.St → XK} {x : Str} {p pos : Pos} {e : Expr} {es : List Expr} {kws : List Keyword} {t tk : TA} {pm : List Nat}
theorem run_fnP {pins : List (Addr × Obj)} {σ : L2.St} {H : Hp} {s : Shared} {Q : VK} {us ws : List Value} {vs zs : List V} (F : FokK X.prog X.w X.K X.mg X.base CX k x ps sp n ks pm) (hr : Room k X.A) (hx : PassesAt CX X σ (E σ))
    (I : Inv X pins σ H s) (r : Vals vs us) (rz : Vals zs ws) (l1 : vs.length = n) (l2 : zs.length = ks.length) (h : sp (perm pm (vs ++ zs)) H Q (E σ)) : wpAny (model X.prog X.w) X.A (call (.ref (He.ga X.K x)) us (ks.zip ws)) (EP X pins σ Q) X.xe s := by
  obtain ⟨fd, F1, b⟩ := F.ex
  refine wpAny_call (codeAny_mono (F1.run X.A X.stack s H ⟨us, ks.zip ws⟩ (perm pm (us ++ ws)) (perm pm (vs ++ zs)) Q (E σ) hr I.env0 (b s us ws (r.length.symm.trans l1) (rz.length.symm.trans l2)) (perm_rel (r.append rz) pm) h) fun r s' hq => ?_)
  cases r with
  | error e => exact hx pins H s e s' I hq
  | ok fl =>
    cases fl with
    | ret u => exact I.after hq
    | next => exact False.elim hq
    | brk => exact False.elim hq
    | cont => exact False.elim hq
/-- f(k = v, ..) -/
theorem pe_callP0 (F : FokK X.prog X.w X.K X.mg X.base CX k x ps sp 0 ks pm) (hr : Room k X.A) (hg : Gl X x) (hx : ∀ σ, PassesAt CX X σ (E σ))
    (hkw : PK X kws tk) (hall : (backToKw pos (keywordEach kws X.env)).all (·.1.isSome) = true := by rfl) (hks : (backToKw pos (keywordEach kws X.env)).filterMap (·.1) = ks := by rfl)
    (hdb : (x == ("__debug__" : Str)) = false := by decide)
    (hpl : ((backTo pos (starEach [] X.env)).any (·.1) || (backToKw pos (keywordEach kws X.env)).any (·.1.isNone)) = false := by rfl) {m : Nat} (hm : ks.length = m := by rfl) :
    PE X (.Call (.Name x p) [] kws pos) (tCallP pm 0 m sp E tNil tk) := by
  subst hm
  refine ⟨fun pins s σ H Q I h => ?_⟩
  refine wpAny_Call_Name_kw (ld_glob I hg F.hm ?_ hdb)
  refine PySem.W.callWith_KW0 (h₀ := X.base) I.ok.mod.kin F.kp hall ?_ hpl
  have h' : tk σ H fun zs H2 => ([] : List V).length = 0 ∧ zs.length = ks.length ∧ sp (perm pm ([] ++ zs)) H2 Q (E σ) := h
  refine thn (hkw.run pos pins s σ H _ I h') fun ws s2 ⟨zs, H2, I2, rz, l1, l2, q2⟩ => ⟨I2.kIn, ?_⟩
  rw [hks]
  exact run_fnP F hr (hx σ) I2 .nil rz l1 l2 q2
end
end Z
namespace Z
open PySem PySem.Spec PyProof.Rows L2 Evl
theorem passAtL {X : Cx} (σ : L2.St) : PassesAt (L2.CX X.prog X.w) X σ E0 := fun pins H s e s' I h => passL pins σ H s e s' I h
end Z
namespace Z
open PySem PySem.Spec PyProof.Rows L2 Evl
theorem Rz.of {K : PySem.W.Frag} {x f : Str} {v : V} {H H1 : Hp} {E : XK} (h : Rz K x f v H E) (e : Ex H H1) : Rz K x f v H1 E := fun H' d e' hd => h H' d (e.trans e') hd
end Z
namespace Z
open PySem PySem.Spec PyProof.Rows L2 Evl
end Z
namespace PySem
namespace Sxvalue
open PySem.W PySem.Calls PyProof.Rows PySem.HandSPX
def iA (p1 p2 : Pos) : Arguments := { posonlyargs := [], args := [{ arg := "self", annotation := none, pos := p1 }, { arg := "value", annotation := none, pos := p2 }], vararg := none, kwonlyargs := [], kw_defaults := [], kwarg := none, defaults := [] }
def iB (txt : Str) (q1 q2 q3 q4 q5 q6 r1 r2 r3 r4 : Pos) : List Stmt := [.Expr (.Call (.Attribute (.Call (.Name "super" q1) [] [] q2) "__init__" q3) [.Constant (.str txt) 0 q4] [] q5) q6, .Assign [.Attribute (.Name "self" r1) "value" r2] (.Name "value" r3) r4]
def iS : Scope := { kind := .function, names := [(PySem.Str.ofString "self", .local), (PySem.Str.ofString "value", .local), (PySem.Str.ofString "__class__", .free), (PySem.Str.ofString "super", .globalImplicit)], isGenerator := false, isCoroutine := false, more := [] }
/-- what the written part says of the class x at C, of its `__init__` at fI -/
structure Txt (P : Program) (K : Frag) (mg : Str → Option Value) (x : Str) (C fI : Addr) : Prop where
  gC : mg x = some (.ref C)
  noS : mg "super" = none
  cls : ∃ nm q N bs bm sn sub ab col dd k0 k1 k2 k3 k5, K.lookup C = some (excClassObj nm q C N bs bm true sn sub ab col dd k0 k1 k2 k3 k5 "ValueError.__new__") ∧ refsVE bm = true
  sa : findIn K (.ref C) "__setattr__" = some (some (.builtin "object.__setattr__"))
  noN : findIn K (.ref C) "value" = some none
  iC : findIn K (.ref C) "__init__" = some (some (.ref fI))
  tC : typeIn K (.ref fI) = some (.type "function")
  kC : keepIn K (.ref C) = true
  exC : subIn K (.ref C) (.type "BaseException") = some true
  veC : subIn K (.ref C) (.type "ValueError") = some true
  tyC : typeIn K (.ref C) = some (.type "type")
  mroC : mroIn K C (.ref C) = some true
  opq : nsIn K cStatics "thirdparty.any" = some none
  sup : ks_superIn K C C "__init__" = some (some (.builtin "ValueError.__init__"))
  top : (P.main.scope.names.lookup ("super" : Str)).isSome = false
  fn : ∃ (qu txt : Str) (oc : Value) (od : Option Addr) (doc pm : Value) (an : Option Addr) (cda : Addr) (ct : Value) (osl : Array (Option Value)) (cc : Addr) (p1 p2 q1 q2 q3 q4 q5 q6 r1 r2 r3 r4 : Pos),
    K.lookup fI = some ⟨oc, od, .func (ksFn "__init__" qu (iA p1 p2) (iB txt q1 q2 q3 q4 q5 q6 r1 r2 r3 r4) iS .none .none doc pm an (.ref cda) ct cc), osl⟩ ∧ codeIn K (.ref cda) qu = true ∧
    (∃ cl cld csl, K.lookup cc = some ⟨cl, cld, .cell (some (.ref C)), csl⟩) ∧ (∃ ccl cdd vs ccs file tf, K.lookup cda = some ⟨ccl, cdd, .fields vs, ccs⟩ ∧ vs[2]? = some (.str file tf) ∧ ((P.main.file : Str) == file) = true) ∧ (q3.endLine == q5.line) = true
theorem one_size (v : Value) : [v].length ≤ sizeLine := by
  rw [sizeLine_eq]
  exact (by decide : 1 ≤ 16777216)
theorem he_of {env : Env} {txt : Str} {q1 q2 q3 q4 q5 : Pos} (hl : (q3.endLine == q5.line) = true) :
    eval (.Call (.Attribute (.Call (.Name "super" q1) [] [] q2) "__init__" q3) [.Constant (.str txt) 0 q4] [] q5) env = (do
      let ov ← attributeBase (.Call (.Name "super" q1) [] [] q2) "__init__" env (eval (.Call (.Name "super" q1) [] [] q2) env)
      standAt q3.atName
      let (f, first) ← holding [ov] (getMethod ov "__init__" (do return (← importBound (.Call (.Name "super" q1) [] [] q2) env).getD true))
      callWith q5 f first (backTo q5 (starEach [.Constant (.str txt) 0 q4] env)) []) := by
  have hp : methodCallPos true (.Call (.Name "super" q1) [] [] q2) env q3 q5 = pure q5 := by
    unfold methodCallPos
    rw [if_pos (by rw [hl]; rfl)]
  show (do
      let ov ← attributeBase (.Call (.Name "super" q1) [] [] q2) "__init__" env (eval (.Call (.Name "super" q1) [] [] q2) env)
      standAt q3.atName
      let (f, first) ← holding [ov] (getMethod ov "__init__" (do return (← importBound (.Call (.Name "super" q1) [] [] q2) env).getD true))
      let p ← methodCallPos true (.Call (.Name "super" q1) [] [] q2) env q3 q5
      callWith p f first (backTo q5 (starEach [.Constant (.str txt) 0 q4] env)) []) = _
  rw [hp]
  rfl
structure InitEnd (h h' : Heap) (x C dx t1 : Addr) (v : Value) : Prop where
  keep : ∀ b o, b ≠ x → h.get? b = some o → h'.get? b = some o
  obj : h'.get? x = some { cls := .ref C, dict := some dx, data := .fields #[.ref t1, .none, .none, .none, .bool false, .none] }
  dbig : h.objs.size ≤ dx
  dne : dx ≠ x
  ns : h'.Ns1 dx (fun y => if y = "value" then some v else none)
structure OwnMade (h h' : Heap) (e C d : Addr) (v : Value) : Prop where
  keep : ∀ b o, h.get? b = some o → h'.get? b = some o
  new : h.objs.size ≤ e
  obj : ∃ oe vs, h'.get? e = some oe ∧ oe.cls = .ref C ∧ oe.dict = some d ∧ oe.data = .fields vs ∧ vs[1]? = some .none ∧ vs[2]? = some .none ∧ vs.size = 6
  dbig : h.objs.size ≤ d
  dne : d ≠ e
  ns : h'.Ns1 d (fun y => if y = "value" then some v else none)
section
variable {prog : Program} {w : World} {A : Around} {E : Value → Shared → Prop} {R : Result → Shared → Prop} {s : Shared} {K : Frag} {mg mb : Str → Option Value} {C fI : Addr} {n : Str}
theorem init (T : Txt prog K mg n C fI) {x t0 : Addr} {v : Value} (X : K.In s.heap) (hG : s.heap.Ns mainGlobals mg) (hB : s.heap.Ns builtinsNs mb) (hb : mb "super" = some (.type "super")) (hlim : s.heap.NoLimit) (hx : s.heap.get? x = some (excO C t0)) (hnx : K.lookup x = none) (hroom : A.depth < recursionLimit)
    (hq : ∀ h' tk t1 dx, InitEnd s.heap h' x C dx t1 v → R (.ok (.ret .none)) { s with heap := h', toks := tk }) :
    codeAny (model prog w) A (.call (.ref fI) ⟨[.ref x, v], []⟩) R s := by
  obtain ⟨qu, txt, oc, od, doc, pm, an, cda, ct, osl, cc, p1, p2, q1, q2, q3, q4, q5, q6, r1, r2, r3, r4, ho, hcd, ⟨cl, cld, csl, hcell⟩, ⟨ccl, cdd, vs, ccs, file, tf, hcode, hvs, hfile⟩, hline⟩ := T.fn
  obtain ⟨nm, q, N, bs, bm, sn, sub, ab, col, dd, k0, k1, k2, k3, k5, hC, hbm⟩ := T.cls
  have hcl : clsIn K C = some { name := nm, bases := bs, mro := .ref C :: bm, ns := N, qualname := q, hasDict := true, slotNames := sn, subclasses := sub, abstract := ab, collection := col, hasDel := false } := by unfold clsIn; rw [hC] <;> rfl
  have hsup := T.sup
  have hxC : x ≠ C := fun z => by
    have y := X _ _ hC
    rw [← z, hx] at y
    cases y
  refine ks_codeAny_call_defAt (fd := ksFn "__init__" qu (iA p1 p2) (iB txt q1 q2 q3 q4 q5 q6 r1 r2 r3 r4) iS .none .none doc pm an (.ref cda) ct cc) (body := iB txt q1 q2 q3 q4 q5 q6 r1 r2 r3 r4) (binds := [("self", .ref x), ("value", v)]) hroom (X _ _ ho) rfl hlim (codeRec_of X hcd) rfl
    (BindsTo.of_eq (by first | rfl | with_unfolding_all rfl)) (by show ∀ x ∈ iS.names, x.2 ≠ NameKind.cell; decide) (by exact locs rfl) (fun h₁ hns k₁ => ?_) rfl rfl rfl
  have hxL : s.heap.objs.size ≠ x := Nat.ne_of_gt (Heap.lt_size hx)
  have X₁ : K.In h₁ := X.keeps k₁
  have hx₁ := k₁ _ _ hx
  have hG₁ := hG.keeps k₁
  have hB₁ := hB.keeps k₁
  -- super().__init__(text)
  show wpAt _ _ _ (execs (iB txt q1 q2 q3 q4 q5 q6 r1 r2 r3 r4) (ksEnv qu iS s.heap.objs.size fI (.ref cda) cc)) _ _ _
  refine ks_wpAt_execs_cons (ks_wpAt_Expr_any (ks_wpAt_MethodCall ?_ (he_of hline)))
  refine ks_wpAt_super_base (env := ksEnv qu iS s.heap.objs.size fI (.ref cda) cc) (ar := { arg := "self", annotation := none, pos := p1 }) rfl rfl (by decide) rfl (X₁ _ _ ho) rfl rfl rfl (X₁ _ _ hcode) rfl hvs hfile T.top ?_
  refine ks_loadName_global rfl rfl (loadGlobal_builtin (env := ksEnv qu iS s.heap.objs.size fI (.ref cda) cc) hG₁ T.noS hB₁ hb ⟨rfl, ?_⟩)
  refine wpAny_loadName_free rfl rfl rfl ⟨_, X₁ _ _ hcell, rfl⟩ ?_
  refine wpAny_loadName_local (v := .ref x) rfl rfl hns (by first | rfl | with_unfolding_all rfl) ?_
  refine ks_wpAny_isType_cls (X₁ _ _ hC) rfl ⟨rfl, ?_⟩
  refine ks_wpAny_call_super (X₁ _ _ hC) rfl hx₁ rfl (fun c e => by cases e) (looks_mroIn X₁ T.mroC) (fun h₂ hso k₂ => ?_)
  have X₂ : K.In h₂ := X₁.keeps k₂
  have I₂ : PySem.W.InstAt h₂ x (excO C t0) C none := ⟨k₂ _ _ hx₁, rfl, rfl, trivial⟩
  have hI : Looks (model prog w) h₂ (isInstance (.ref x) (.type "ValueError")) true := I₂.type.andThen (looks_subIn X₂ T.veC)
  unfold ks_superIn at hsup
  rw [hcl] at hsup
  refine kxs_getMethod kxs_ValueError hso (looks_opaque X₂ T.opq) (l₀ := .ref C :: bm) (fun A Q E s k q => wpAny_bind ((looks_clsIn X₂ hcl) A _ E s k (wpAny_pure q))) rfl X₂ hsup hI hxC (by decide) ?_
  have up₃ : ∀ b o, h₂.get? b = some o → (h₂.push (kxs_mw "ValueError.__init__" x)).get? b = some o := fun b o e => Heap.get?_push_of_some _ e
  have hu : (h₂.push (kxs_mw "ValueError.__init__" x)).get? h₂.objs.size = some (kxs_mw "ValueError.__init__" x) := Heap.get?_push_at rfl rfl
  refine kxs_callWith (i := "ValueError.__init__") (x := x) (by rfl) ?_
  refine evalArgs_plain (spliced_cons (wpAny_Constant_str (k := 0) (pos := q4) (spliced_nil ?_)))
  refine ⟨hu, ?_⟩
  refine wpAny_call (codeAny_of_tree ?_)
  show wpAny _ _ (callAny (.ref h₂.objs.size) ⟨[.str txt _], []⟩) _ _ _
  simp only [callAny]
  refine wpAny_bind (wpAny_load hu ?_)
  simp only [kxs_mw, show (Value.type "method-wrapper" == Value.type "method" || Value.type "method-wrapper" == Value.type "builtin_function_or_method" || Value.type "method-wrapper" == Value.type "method-wrapper") = true by decide, if_true]
  refine KFB.if_so (by decide) ?_
  have hC₃ := up₃ _ _ (X₂ _ _ hC)
  have hx₃ := up₃ _ _ I₂.at_
  refine wpAny_bind (check_bound_init F.excBase_ValueError.toExcCallFacts hC₃ hx₃ rfl ?_)
  refine wpAny_bind (wpAny_pure (wpAny_pure ?_))
  refine ⟨plainId_quiet F.excBase_ValueError.init.plain _, codeAny_builtin F.excBase_ValueError.initEntry ?_⟩
  refine exc_init_tree (cls := .ref C) (t0 := t0) (dv := none) (c2 := .none) (c3 := .none) (b4 := .bool false) hx₃ (one_size _) fun h₄ k₄ hx₄ ht₄ => ?_
  have k14 : ∀ b o, b ≠ x → h₁.get? b = some o → h₄.get? b = some o := fun b o hb e => k₄ b o hb (up₃ _ _ (k₂ _ _ e))
  have k04 : ∀ b o, b ≠ x → s.heap.get? b = some o → h₄.get? b = some o := fun b o hb e => k14 b o hb (k₁ _ _ e)
  have X₄ : K.In h₄ := fun a o e => k04 a o (fun z => by rw [z, hnx] at e; cases e) (X _ _ e)
  have hns₄ : h₄.Ns s.heap.objs.size (fun y => (([("self", .ref x), ("value", v)] : List (Str × Value)).reverse.lookup y)) := by
    obtain ⟨oL, es, ep, hL, r⟩ := hns
    exact ⟨oL, es, ep, k14 _ _ hxL hL, r⟩
  have sz : s.heap.objs.size < h₁.objs.size := hns.lt
  -- self.value = value
  show wpAt _ _ _ _ _ _ _
  refine wpAt_of_wpAny ?_
  refine wpAny_execs_cons (plainObj_wpAny_Assign_Attribute ?_)
  refine ESX.ldL (env := ksEnv qu iS s.heap.objs.size fI (.ref cda) cc) (v := v) hns₄ (by first | rfl | with_unfolding_all rfl | kernel_rfl) (ESX.ldL (env := ksEnv qu iS s.heap.objs.size fI (.ref cda) cc) (v := .ref x) hns₄ (by first | rfl | with_unfolding_all rfl | kernel_rfl) ?_)
  refine set_plain X₄ (ox := excO C (h₂.push (kxs_mw "ValueError.__init__" x)).objs.size) (od := none) ⟨hx₄, rfl, rfl, trivial⟩ T.sa ?_
  refine exc_osa X₄ hx₄ hcl (show refsVE (.ref C :: bm) = true from hbm) rfl T.noN (fun h₅ tk₅ dx k₅ dn dne hx₅ hn₅ => ?_)
  have le4 : h₁.objs.size ≤ h₄.objs.size := by
    have a1 := Heap.lt_size hso
    have a2 := Heap.lt_size ht₄
    have a3 := Heap.lt_size hu
    exact Nat.le_of_lt (Nat.lt_trans a1 (Nat.lt_trans a3 a2))
  exact wpAny_execs_nil (hq h₅ tk₅ _ dx ⟨fun b o hb e => k₅ b o hb (k04 b o hb e), hx₅, Nat.le_of_lt (Nat.lt_of_lt_of_le sz (Nat.le_trans le4 dn)), dne, hn₅⟩)
theorem made (T : Txt prog K mg n C fI) {v : Value} (X : K.In s.heap) (hG : s.heap.Ns mainGlobals mg) (hB : s.heap.Ns builtinsNs mb) (hb : mb "super" = some (.type "super")) (hlim : s.heap.NoLimit) (hroom : A.depth + 1 < recursionLimit)
    (hq : ∀ h' tk e d, OwnMade s.heap h' e C d v → R (.ok (.ret (.ref e))) { s with heap := h', toks := tk }) :
    codeAny (model prog w) A (.call (.ref C) ⟨[v], []⟩) R s := by
  obtain ⟨nm, q, N, bs, bm, sn, sub, ab, col, dd, k0, k1, k2, k3, k5, hC, hbm⟩ := T.cls
  obtain ⟨hp, g, dr, tk, os⟩ := s
  have k : ∀ b o, hp.get? b = some o → ((hp.push (kdv_tup [v])).push (excO C hp.objs.size)).get? b = some o := fun b o e => Heap.get?_push_of_some _ (Heap.get?_push_of_some _ e)
  have hget : ((hp.push (kdv_tup [v])).push (excO C hp.objs.size)).get? (hp.objs.size + 1) = some (excO C hp.objs.size) := by heap_get
  have hnx : K.lookup (hp.objs.size + 1) = none := by
    cases e : K.lookup (hp.objs.size + 1) with
    | none => rfl
    | some o =>
      have z : hp.get? (hp.objs.size + 1) = some o := X _ _ e
      exact absurd (Nat.lt_of_succ_lt (Heap.lt_size z)) (Nat.lt_irrefl _)
  refine call_own F.excBase_ValueError (fun X => refsVE_contains X bm hbm) (X _ _ hC) (looks_findIn X T.iC) (fun self => bind_fn X self T.tC) (one_size v) ?_
  refine init (s := ⟨(hp.push (kdv_tup [v])).push (excO C hp.objs.size), g, dr, tk, os⟩) T (X.keeps k) (hG.keeps k) (hB.keeps k) hb (hlim.keeps k) hget hnx ?_ fun h' tk' t1 dx ⟨k', hx, dn, dne, hns⟩ => ?_
  · show A.depth + 1 < recursionLimit
    exact hroom
  · have old : ∀ b o, hp.get? b = some o → h'.get? b = some o := fun b o e => k' b o (Nat.ne_of_lt (Nat.lt_succ_of_lt (Heap.lt_size e))) (k b o e)
    have z : hp.objs.size + 1 + 1 ≤ dx := by
      first
        | (simpa only [Heap.size_push] using dn)
        | exact dn
        | (have q := dn; rw [Heap.size_push, Heap.size_push] at q; exact q)
    exact ⟨rfl, hq h' tk' (hp.objs.size + 1) dx ⟨old, Nat.le_succ _, ⟨_, _, hx, rfl, rfl, rfl, rfl, rfl, rfl⟩, Nat.le_trans (Nat.le_trans (Nat.le_succ _) (Nat.le_succ _)) z, dne, hns⟩⟩
end
end Sxvalue
end PySem
namespace L2
open PySem PySem.Spec PyProof.Rows
theorem relO_value {v : V} {v' : Value} (r : RelV v v') (f : Str) : RelO (List.lookup f [(("value" : Str), v)]) (if f = "value" then some v' else none) := by
  by_cases hw : f = "value"
  · subst hw
    rw [if_pos rfl]
    have q : List.lookup ("value" : Str) [(("value" : Str), v)] = some v := by simp [List.lookup]
    rw [q]
    exact r
  · rw [if_neg hw]
    have qw : (f == ("value" : Str)) = false := by simpa using hw
    have q2 : List.lookup f [(("value" : Str), v)] = none := by simp [List.lookup, qw]
    rw [q2]
    trivial
section
variable {X : Cx} {C fI : Addr}
/-- x(e) : an exception of the class at C, its dict d new -/
def tMkvalue (C : Addr) (ta : TA) : St → Hp → XK → Prop := fun σ H Q => ta σ H fun vs H1 => ∃ v, vs = [v] ∧ ∀ d, H1 d = none → Q (.ref C) (some d) (upd H1 d (.xd [(("value" : Str), v)]))
theorem pmkvalue {x : Str} {a : Expr} {ta : TA} {p pos : Pos} {k : Nat} (T : PySem.Sxvalue.Txt X.prog X.K X.mg x C fI) (hr : Room k X.A) (ha : PA X [a] ta) (hg : Gl X x := by rfl) (hdb : (x == ("__debug__" : Str)) = false := by decide)
    (he : starEach (a :: []) X.env = (false, eval a X.env) :: starEach [] X.env := by rfl) (hpl : (backTo pos (starEach [] X.env)).any (·.1) = false := by rfl) :
    PMk X (.Call (.Name x p) [a] [] pos) (tMkvalue C ta) := by
  intro pins s σ H Q I h
  refine wpAny_Call_Name_kw (ld_glob I hg T.gC ?_ hdb)
  refine PySem.W.callWith_K (h₀ := X.base) I.ok.mod.kin T.kC (thn (ha.run pos pins s σ H _ I h) fun us s1 hh => ?_) he hpl
  obtain ⟨vs, H1, I1, r1, v, ev, q1⟩ := hh
  subst ev
  refine ⟨I1.kIn, ?_⟩
  cases r1 with
  | cons rv rn =>
    rename_i v' us'
    cases rn
    show wpAny _ _ (call (.ref C) [v']) _ _ _
    have hlim := I1.nolimit
    obtain ⟨mb, b1, b2⟩ := I1.mod.blt
    have hG1 := I1.mod.glob.keeps I1.bk
    have hB1 := b1.keeps I1.bk
    obtain ⟨hp, g, dr, tk, os⟩ := s1
    refine wpAny_call (PySem.Sxvalue.made T I1.kIn hG1 hB1 ((b2 _ (by decide)).trans (by first | boot_by_name | rfl | kernel_rfl)) hlim (by have := hr.dp; omega) fun h' tk' e d M => ?_)
    show MkP X pins σ Q (.ref e) ⟨h', g, dr, tk', os⟩
    obtain ⟨oe, fv, hoe, hc, hd, hdat, h1, _, _⟩ := M.obj
    have hns := M.ns
    obtain ⟨G', g1, g2⟩ := restrict h' fun b => decide (b ≠ e)
    have gk : ∀ b, b ≠ e → G'.get? b = h'.get? b := fun b hb => g1 b (decide_eq_true hb)
    have ge : G'.get? e = none := g2 e (by simp)
    have old : ∀ b o, hp.get? b = some o → G'.get? b = some o := fun b o q => (gk b (Nat.ne_of_lt (Nat.lt_of_lt_of_le (Heap.lt_size q) M.new))).trans (M.keep b o q)
    have ob : ObjOk X.prog X.w (upd H1 d (.xd [(("value" : Str), v)])) G' d (.xd [(("value" : Str), v)]) :=
      ⟨_, hns.at (fun o q => (gk d M.dne).trans q), fun f => relO_value rv f⟩
    have J : Inv X pins σ (upd H1 d (.xd [(("value" : Str), v)])) ⟨G', g, dr, tk', os⟩ := I1.laid (t' := tk') old M.dbig ob
    refine ⟨e, oe, fv, ⟨G', g, dr, tk', os⟩, _, .ref C, some d, rfl, J, fun b o q => ?_, ge, hoe, ⟨hc, hd⟩, hdat, h1, ?_, rfl, I1.bare, raises_own T.exC T.tyC, q1 d (I1.hok.fresh M.dbig)⟩
    · by_cases hb : b = e
      · have q' : G'.get? b = some o := q
        rw [hb, ge] at q'; cases q'
      · exact (gk b hb).symm.trans q
    · rw [upd_ne (Ne.symm M.dne)]
      exact I1.hok.fresh M.new
/-- raise x(e) -/
def tRaisevalue (C : Addr) (W : WX) (ta : TA) : TS := fun _ σ H => tMkvalue C ta σ H fun cls d H' => W cls d σ H'
theorem ps_raisevalue {x : Str} {a : Expr} {ta : TA} {W : WX} {p pos pos2 : Pos} {k : Nat} (hc : X.calm = true) (T : PySem.Sxvalue.Txt X.prog X.K X.mg x C fI) (hr : Room k X.A) (tk : Takes X W) (ha : PA X [a] ta) (hg : Gl X x := by rfl) (hdb : (x == ("__debug__" : Str)) = false := by decide)
    (he : starEach (a :: []) X.env = (false, eval a X.env) :: starEach [] X.env := by rfl) (hpl : (backTo pos (starEach [] X.env)).any (·.1) = false := by rfl) :
    PS X (.Raise (some (.Call (.Name x p) [a] [] pos)) none pos2) (tRaisevalue C W ta) := ps_raise hc tk (pmkvalue T hr ha hg hdb he hpl)
end
end L2
namespace Z
open PySem PySem.Spec PyProof.Rows L2
/-- the init's params, body as the text has them -/
def Chkvalue (P0 : Program) (K : PySem.W.Frag) (x : Str) : Bool :=
  eqB (PySem.W.findIn K (.ref (He.ga K x)) "__setattr__") (some (some (.builtin "object.__setattr__"))) && (eqB (PySem.W.findIn K (.ref (He.ga K x)) "value") (some none) && (clsB K (He.ga K x) && initB P0 K x))
theorem chkvalue_ok {P P0 : Program} {K : PySem.W.Frag} {mg : Str → Option Value} {x : Str} {qu txt : Str} {p1 p2 q1 q2 q3 q4 q5 q6 r1 r2 r3 r4 : Pos} (g : mg x = some (.ref (He.ga K x))) (ns : mg "super" = none)
    (hf : P.main.file = P0.main.file) (hs : (P.main.scope.names.lookup ("super" : Str)).isSome = false)
    (e : fnS K (x, some "__init__") = (some ("__init__", qu, PySem.Sxvalue.iA p1 p2, FuncBody.stmts (PySem.Sxvalue.iB txt q1 q2 q3 q4 q5 q6 r1 r2 r3 r4), PySem.Sxvalue.iS, mainGlobals, [("__class__" : Str)], builtinsNs) : FnS)) (hl : (q3.endLine == q5.line) = true)
    (c : Chkvalue P0 K x = true) : PySem.Sxvalue.Txt P K mg x (He.ga K x) (He.ma K (He.ga K x) "__init__") := by
  obtain ⟨c1, c⟩ := He.ba c
  obtain ⟨c2, c⟩ := He.ba c
  obtain ⟨c3, c4⟩ := He.ba c
  obtain ⟨d1, d2, d3, d4, d5, d6, d7⟩ := initB_ok c4
  obtain ⟨oc, od, osl, doc, pm, an, cda, ct, cc, hL, hq, hcell, hcode⟩ := d7 _ _ _ _ _ e
  obtain ⟨k1, k2, k3, k4, k5, k6, k7⟩ := d6
  exact ⟨g, ns, clsB_ok c3, eqB_ok c1, eqB_ok c2, d1, d2, k1, k2, k3, k4, k5, k6, k7, hs,
    ⟨qu, txt, oc, od, doc, pm, an, cda, ct, osl, cc, p1, p2, q1, q2, q3, q4, q5, q6, r1, r2, r3, r4, hL, hq, hcell, (by rw [hf]; exact hcode), hl⟩⟩
end Z
namespace Z
open PySem PySem.Spec PyProof.Rows L2 Evl
end Z
namespace Z
open PySem PySem.Spec PySem.Calls PyProof.Rows L2 Evl
end Z
namespace Z
open PySem PySem.Spec PyProof.Rows L2 Evl
def vOf : Value → V
  | .none => .non
  | .bool b => .bl b
  | .int i _ => .int i
  | .str x _ => .str x
  | .bytes b _ => .byt b
  | .float b _ => .flt b
  | .ref a => .ref a
  | .type n => .ty n
  | _ => .non
theorem vOf_rel {y : V} {u : Value} (r : RelV y u) : vOf u = y := by
  cases y with
  | int i => obtain ⟨t, rfl⟩ := r; rfl
  | str i => obtain ⟨t, rfl⟩ := r; rfl
  | byt i => obtain ⟨t, rfl⟩ := r; rfl
  | flt i => obtain ⟨t, rfl⟩ := r; rfl
  | _ => cases r; rfl
/-- x in a list or tuple: g tells which items it equals -/
def rInG (K : PySem.W.Frag) (neg : Bool) : R2 := fun x y H Q => ∃ (p : Addr) (xs : List V) (g : V → Bool), y = .ref p ∧ (SqL K H p xs ∨ SqT K H p xs) ∧ (∀ z ∈ xs, EqI K H 60 z x (g z)) ∧ Q (.bl (if neg then !xs.any g else xs.any g)) H
theorem any_vOf (g : V → Bool) : ∀ {xs : List V} {us : List Value}, Vals xs us → us.any (fun u => g (vOf u)) = xs.any g
  | _, _, .nil => rfl
  | _, _, .cons r t => by rw [List.any_cons, List.any_cons, vOf_rel r, any_vOf g t]
theorem mem_vOf {A : Around} {s : Shared} {x : V} {v : Value} {g : V → Bool} : ∀ {xs : List V} {us : List Value}, Vals xs us → (∀ z ∈ xs, ∀ u, RelV z u → SeqAt.EqAt A s u v (g z)) → ∀ u ∈ us, SeqAt.EqAt A s u v (g (vOf u))
  | _, _, .nil, _ => fun u hu => by cases hu
  | z :: xs, u :: us, .cons r t, h => fun w hw => by
    rcases List.mem_cons.mp hw with rfl | hw
    · rw [vOf_rel r]; exact h z (List.mem_cons_self ..) _ r
    · exact mem_vOf (x := x) t (fun z hz => h z (List.mem_cons_of_mem _ hz)) w hw
section
variable {X : Cx}
theorem op_inG (hu : X.A.units + 64 < cLine) : OpR X (compareOp .In) (rInG X.K false) := by
  intro pins s σ H x y v u Q I rx ry h
  obtain ⟨p, xs, g, rfl, hq, he, q⟩ := h
  cases ry
  have run : ∀ z ∈ xs, ∀ w, RelV z w → SeqAt.EqAt X.A.in1 s w v (g z) := fun z hz w rw' => EqI.run I (A := X.A.in1) (by show X.A.units + 1 + 60 < cLine; omega) (he z hz) rw' rx
  rcases hq with hq | hq
  · obtain ⟨its, r, pl, hz⟩ := I.list hq
    refine SeqAt.in_listAt (fun u => g (vOf u)) pl.isList (fun w hw => mem_vOf (x := x) r run w (by simpa using hw)) ⟨.bl _, H, I, rfl, ?_⟩
    rw [show its.toArray.any (fun u => g (vOf u)) = its.any (fun u => g (vOf u)) by simp, any_vOf g r]
    exact q
  · obtain ⟨its, r, pl, hz⟩ := I.tuple hq
    refine SeqAt.in_tupleAt (fun u => g (vOf u)) pl (fun w hw => mem_vOf (x := x) r run w (by simpa using hw)) ⟨.bl _, H, I, rfl, ?_⟩
    rw [show its.toArray.any (fun u => g (vOf u)) = its.any (fun u => g (vOf u)) by simp, any_vOf g r]
    exact q
theorem op_ninG (hu : X.A.units + 64 < cLine) : OpR X (compareOp .NotIn) (rInG X.K true) := by
  intro pins s σ H x y v u Q I rx ry h
  obtain ⟨p, xs, g, rfl, hq, he, q⟩ := h
  cases ry
  have run : ∀ z ∈ xs, ∀ w, RelV z w → SeqAt.EqAt X.A.in1 s w v (g z) := fun z hz w rw' => EqI.run I (A := X.A.in1) (by show X.A.units + 1 + 60 < cLine; omega) (he z hz) rw' rx
  rcases hq with hq | hq
  · obtain ⟨its, r, pl, hz⟩ := I.list hq
    refine SeqAt.notIn_listAt (fun u => g (vOf u)) pl.isList (fun w hw => mem_vOf (x := x) r run w (by simpa using hw)) ⟨.bl _, H, I, rfl, ?_⟩
    rw [show its.toArray.any (fun u => g (vOf u)) = its.any (fun u => g (vOf u)) by simp, any_vOf g r]
    exact q
  · obtain ⟨its, r, pl, hz⟩ := I.tuple hq
    refine SeqAt.notIn_tupleAt (fun u => g (vOf u)) pl (fun w hw => mem_vOf (x := x) r run w (by simpa using hw)) ⟨.bl _, H, I, rfl, ?_⟩
    rw [show its.toArray.any (fun u => g (vOf u)) = its.any (fun u => g (vOf u)) by simp, any_vOf g r]
    exact q
def rInDc : R2 := fun x y H Q => ∃ a o, y = .ref a ∧ DGet H a x o ∧ Q (.bl o.isSome) H
def rNinDc : R2 := fun x y H Q => ∃ a o, y = .ref a ∧ DGet H a x o ∧ Q (.bl (!o.isSome)) H
theorem op_inDc (hu : X.A.units + 64 < cLine) : OpR X (compareOp .In) rInDc := by
  intro pins s σ H x y v u Q I rx ry h
  obtain ⟨a, o, rfl, g, q⟩ := h
  cases ry
  exact d_in (by omega) I g rx fun s3 I3 => ⟨.bl o.isSome, H, I3, rfl, q⟩
theorem op_ninDc (hu : X.A.units + 64 < cLine) : OpR X (compareOp .NotIn) rNinDc := by
  intro pins s σ H x y v u Q I rx ry h
  obtain ⟨a, o, rfl, g, q⟩ := h
  cases ry
  exact d_notIn (by omega) I g rx fun s3 I3 => ⟨.bl (!o.isSome), H, I3, rfl, q⟩
def rInB (K : PySem.W.Frag) : R2 := fun x y H Q => rInA K x y H Q ∨ rInG K false x y H Q ∨ rInDc x y H Q
def rNinB (K : PySem.W.Frag) : R2 := fun x y H Q => rNinA K x y H Q ∨ rInG K true x y H Q ∨ rNinDc x y H Q
theorem op_inB (hu : X.A.units + 64 < cLine) : OpR X (compareOp .In) (rInB X.K) := op_inA.or ((op_inG hu).or (op_inDc hu))
theorem op_ninB (hu : X.A.units + 64 < cLine) : OpR X (compareOp .NotIn) (rNinB X.K) := op_ninA.or ((op_ninG hu).or (op_ninDc hu))
def rIxDc : R2 := fun x y H Q => ∃ a v, x = .ref a ∧ DGet H a y (some v) ∧ Q v H
theorem ix_Dc (hu : X.A.units + 64 < cLine) : IxR X rIxDc := by
  intro value slice pins s σ H x y v u Q I rx ry h hs
  obtain ⟨a, r, rfl, g, q⟩ := h
  obtain rfl : v = Value.ref a := rx
  exact tail_any (dict_typeIs I g) PySem.F.slot_dict_getitem.lookup (d_getItem (by omega) I g ry fun w' s3 I3 rw' => ⟨r, H, I3, rw', q⟩) hs
def rIxB (K : PySem.W.Frag) : R2 := fun x y H Q => rIx K x y H Q ∨ rIxDc x y H Q
theorem ix_B (hu : X.A.units + 64 < cLine) : IxR X (rIxB X.K) := ix_seq.or (ix_Dc hu)
def rSetB : TSet := fun o i v H Q => rSetL o i v H Q ∨ rSetD o i v H Q
theorem set_B (hu : X.A.units + 64 < cLine) : PSet X rSetB := by
  intro pins s σ H o i v ov iv u Q I ro ri rv h
  rcases h with h | h
  · exact set_list pins s σ H o i v ov iv u Q I ro ri rv h
  · exact set_dict (by omega) pins s σ H o i v ov iv u Q I ro ri rv h
def rListA (K : PySem.W.Frag) : List V → Hp → VK → Prop := fun xs H Q => ∃ p ys, xs = [.ref p] ∧ (SqL K H p ys ∨ SqT K H p ys) ∧ ∀ l, H l = none → Q (.ref l) (upd H l (.lst ys))
theorem call_listA : CallR X (.type "list") (rListA X.K) := call_list_of
def rTupA (K : PySem.W.Frag) : List V → Hp → VK → Prop := fun xs H Q => ∃ p ys, xs = [.ref p] ∧ ((SqL K H p ys ∧ ∀ l, H l = none → Q (.ref l) (upd H l (.tup ys))) ∨ (SqT K H p ys ∧ Q (.ref p) H))
theorem call_tupA : CallR X (.type "tuple") (rTupA X.K) := call_tuple_of
def rIntA : List V → Hp → VK → Prop := fun xs H Q => (∃ i, xs = [.int i] ∧ Q (.int i) H) ∨ ∃ k, xs = [.bl k] ∧ Q (.int (if k then 1 else 0)) H
theorem call_intA : CallR X (.type "int") rIntA := call_int1
def rPopA : V → List V → Hp → VK → Prop := fun x vs H Q => rPop x vs H Q ∨ rPopAt x vs H Q
theorem mt_popA : MtR X "list.pop" rPopA := MtR.or mt_pop mt_popAt
end
end Z
namespace Z
open PySem PySem.Spec PyProof.Rows L2 Evl
end Z
namespace Z
open PySem PySem.Spec PyProof.Rows L2 Evl
end Z
namespace Z
open PySem PySem.Spec PyProof.Rows L2 Evl
end Z
namespace Z
open PySem PySem.Spec PyProof.Rows L2 Evl
def tyW (K : PySem.W.Frag) (T : String) (x : V) (H : Hp) : Prop := tyV K T x H ∨ ∃ p kvs, T = "dict" ∧ x = .ref p ∧ Rd H p (.dK kvs)
theorem tyW_is {X : Cx} {pins : List (Addr × Obj)} {σ : L2.St} {H : Hp} {s : Shared} {T : String} {x : V} {v : Value} (I : Inv X pins σ H s) (r : RelV x v) (ty : tyW X.K T x H) :
    s.TypeIs v T ∧ ∀ a, v = .ref a → ∃ ob, s.heap.get? a = some ob ∧ ob.dict = none := by
  rcases ty with ty | ⟨p, kvs, rfl, rfl, h⟩
  · exact tyV_is I r ty
  · cases r
    obtain ⟨_, _, vs, _, dd⟩ := dk_rd I.hok h
    refine ⟨dd.typeIs, fun a e => ?_⟩
    cases e
    obtain ⟨ob, _, _, h1, h2, _⟩ := dd
    exact ⟨ob, h1, h2.2.1⟩
def tBM0W (K : PySem.W.Frag) (T : String) (r : V → List V → Hp → VK → Prop) (to : TE) : TE := fun σ H Q => to σ H fun x H1 => tyW K T x H1 ∧ r x [] H1 Q
def tBMW (K : PySem.W.Frag) (T : String) (r : V → List V → Hp → VK → Prop) (to : TE) (t : TA) : TE := fun σ H Q => to σ H fun x H1 => tyW K T x H1 ∧ t σ H1 fun xs H2 => r x xs H2 Q
section
variable {X : Cx} {o e : Expr} {es : List Expr} {to : TE} {t : TA} {name : Str} {apos cpos : Pos} {T id : String} {r : V → List V → Hp → VK → Prop}
theorem pe_bm0W (pa : PlainAttrs T) (slot : Slot T name id) (hty : typeOf (.builtin id) = pure (.type "method_descriptor")) (hm : MtR X id r) (ho : PE X o to)
    (hbase : attributeBase o name X.env (eval o X.env) = eval o X.env := by rfl) (hline : (apos.endLine == cpos.line) = true := by rfl) : PE X (.Call (.Attribute o name apos) [] [] cpos) (tBM0W X.K T r to) := by
  refine ⟨fun pins s σ H Q I h => ?_⟩
  refine wpAny_Call_method0_late hbase hline (thn (ho.run pins s σ H _ I h) fun v s1 ⟨x, H1, I1, r1, ty, q1⟩ => ?_)
  obtain ⟨h1, h2⟩ := tyW_is I1 r1 ty
  exact ⟨T, id, pa, slot, hty, h1, h2, Calls.callWith_builtin rfl (PySem.evalArgs_none (hm pins s1 σ H1 x [] v [] Q I1 r1 .nil q1))⟩
theorem pe_bmW (pa : PlainAttrs T) (slot : Slot T name id) (hty : typeOf (.builtin id) = pure (.type "method_descriptor")) (hm : MtR X id r) (ho : PE X o to) (ha : PA X (e :: es) t)
    (hbase : attributeBase o name X.env (eval o X.env) = eval o X.env := by rfl)
    (hfew : ((backTo cpos (starEach (e :: es) X.env)).all (fun x => !x.1) && (backToKw cpos (keywordEach [] X.env)).all (fun x => x.1.isSome)
      && decide ((e :: es).length + ([] : List Keyword).length + (if ([] : List Keyword).isEmpty then 0 else 1) < 30)) = true := by rfl)
    (hline : (apos.endLine == cpos.line) = true := by rfl) (hs : starEach (e :: es) X.env = (false, eval e X.env) :: starEach es X.env := by rfl) (hplain : (backTo cpos (starEach es X.env)).any (·.1) = false := by rfl) :
    PE X (.Call (.Attribute o name apos) (e :: es) [] cpos) (tBMW X.K T r to t) := by
  refine ⟨fun pins s σ H Q I h => ?_⟩
  refine wpAny_Call_method_late hbase hfew hline rfl (thn (ho.run pins s σ H _ I h) fun v s1 ⟨x, H1, I1, r1, ty, q1⟩ => ?_)
  obtain ⟨h1, h2⟩ := tyW_is I1 r1 ty
  refine ⟨T, id, pa, slot, hty, h1, h2, ?_⟩
  have hA := ha.run cpos pins s1 σ H1 _ I1 q1
  rw [hs] at hA ⊢
  refine Calls.callWith_builtin (by show (false || (backTo cpos (starEach es X.env)).any (·.1)) = false; rw [hplain] <;> rfl) (Calls.evalArgs_plain ?_)
  exact thn hA fun us s2 ⟨vs, H2, I2, r2, q2⟩ => hm pins s2 σ H2 x vs v us Q I2 r1 r2 q2
def rLenB (K : PySem.W.Frag) : List V → Hp → VK → Prop := fun xs H Q => rLenA K xs H Q ∨ ∃ a kvs, xs = [V.ref a] ∧ Rd H a (.dK kvs) ∧ Q (.int kvs.length) H
theorem call_lenDR : CallR X (.builtin "len") (fun xs H Q => ∃ a kvs, xs = [V.ref a] ∧ Rd H a (.dK kvs) ∧ Q (.int kvs.length) H) := by
  intro pins s σ H xs us Q I r h
  obtain ⟨a, kvs, rfl, ha, q⟩ := h
  obtain ⟨u, rfl, ru⟩ := vals1 r
  cases ru
  exact d_len I ha fun t s' I' => ⟨.int kvs.length, H, I', ⟨t, rfl⟩, q⟩
theorem call_lenB : CallR X (.builtin "len") (rLenB X.K) := call_lenA.or call_lenDR
end
end Z
namespace Z
open PySem PySem.Spec PyProof.Rows L2 Evl
/-- what a for walks: a list, a tuple, a text, told behind the expression -/
def iSeq (K : PySem.W.Frag) (te : TE) : TI := fun σ H R => te σ H fun x H1 => (∃ a, x = .ref a ∧ (∃ xs, SqL K H1 a xs) ∧ R (Itl K a) H1) ∨ (∃ a, x = .ref a ∧ (∃ xs, SqT K H1 a xs) ∧ R (Itt K a) H1) ∨ ∃ z, x = .str z ∧ R (Its z) H1
theorem pi_seq {X : Cx} {tg l : Expr} {tl : TE} (hl : PE X l tl) : PI X tg l (iSeq X.K tl) := by
  refine ⟨fun pins s σ H R I h => ?_⟩
  refine thn (hl.run pins s σ H _ I h) fun v s1 ⟨x, H1, I1, r1, q1⟩ => ?_
  rcases q1 with ⟨a, e, ⟨xs, hq⟩, q⟩ | ⟨a, e, ⟨xs, hq⟩, q⟩ | ⟨z, e, q⟩
  · subst e
    cases r1
    obtain ⟨its, rv, p, hz⟩ := I1.list hq
    refine wpAny_pyIter_list p.isList ?_
    refine ⟨s1.heap.objs.size, [s1.heap.objs.size], _, _, H1, rfl, I1.kept (t' := s1.toks) fun b o e => Heap.get?_push_of_some _ e, turn_list a _, ⟨_, Heap.get?_push_size _ rfl, rfl, rfl⟩, fun b hb => ?_, q⟩
    have e : b = s1.heap.objs.size := by simpa using hb
    subst e
    exact I1.fpOk (Nat.le_refl _) (I1.hok.fresh (Nat.le_refl _))
  · subst e
    cases r1
    obtain ⟨its, rv, p, hz⟩ := I1.tuple hq
    refine wpAny_pyIter_tuple (show s1.heap.IsTuple a its.toArray from p) ?_
    refine ⟨s1.heap.objs.size, [s1.heap.objs.size], _, _, H1, rfl, I1.kept (t' := s1.toks) fun b o e => Heap.get?_push_of_some _ e, turn_tuple a _, ⟨_, Heap.get?_push_size _ rfl, rfl, rfl⟩, fun b hb => ?_, q⟩
    have e : b = s1.heap.objs.size := by simpa using hb
    subst e
    exact I1.fpOk (Nat.le_refl _) (I1.hok.fresh (Nat.le_refl _))
  · subst e
    obtain ⟨t, rfl⟩ := r1
    cases ha : z.cps.all (· < 128)
    · exact wpAny_pyIter_wide ha (pi_one (tk := s1.toks) I1 _ (turn_str _ z t "str_iterator" (.inr rfl)) ⟨_, Heap.get?_push_size _ rfl, rfl, rfl⟩ q)
    · exact wpAny_pyIter_ascii ha (pi_one (tk := s1.toks) I1 _ (turn_str _ z t "str_ascii_iterator" (.inl rfl)) ⟨_, Heap.get?_push_size _ rfl, rfl, rfl⟩ q)
end Z
namespace Z
open PySem PySem.Spec PyProof.Rows L2 Evl
end Z
namespace Z
open PySem PySem.Spec PyProof.Rows L2 Evl
end Z
namespace Z
open PySem PySem.Spec PyProof.Rows L2 Evl
section
variable {X : Cx} {pins : List (Addr × Obj)} {σ : L2.St} {H : Hp} {s : Shared}
/-- key by key -/
inductive KHit (E : V → V → Bool → Prop) (ls : List (Key × V)) : List (Key × V) → Bool → Prop
  | nil : KHit E ls [] true
  | miss {k : Key} {v : V} {r : List (Key × V)} : valV ls k = none → KHit E ls ((k, v) :: r) false
  | hit {k : Key} {v u : V} {r : List (Key × V)} {e b : Bool} : valV ls k = some u → E v u e → KHit E ls r b → KHit E ls ((k, v) :: r) (e && b)
theorem KHit.run {P : Program} {w : World} {A : Around} {E : V → V → Bool → Prop} (ih : ∀ {x y : V} {b : Bool} {v u : Value}, E x y b → RelV x v → RelV y u → SeqAt.EqAt A s v u b) {ls : List (Key × V)} {vb : List (Key × Value)} (rb : KV ls vb) {ks : List (Key × V)} {r : Bool} (h : KHit E ls ks r) :
    ∀ {va : List (Key × Value)}, KV ks va → PySem.W.KeqHitsP P w A s vb va r := by
  induction h with
  | nil =>
    intro va ra
    unfold KV at ra
    cases ra
    exact .nil
  | @miss k v r e =>
    intro va ra
    unfold KV at ra
    cases ra with
    | @cons p q ps qs h t =>
      obtain ⟨h1, h2⟩ := h
      obtain ⟨key, w'⟩ := q
      have h1 : k = key := h1
      subst h1
      have rr : RelO none (valueAt vb k) := by rw [← e]; exact rb.val k
      exact .miss (RelO.none_of rr)
  | @hit k v u r e b hu hE _ ihr =>
    intro va ra
    unfold KV at ra
    cases ra with
    | @cons p q ps qs h t =>
      obtain ⟨h1, h2⟩ := h
      obtain ⟨key, w'⟩ := q
      have h1 : k = key := h1
      subst h1
      have rr : RelO (some u) (valueAt vb k) := by rw [← hu]; exact rb.val k
      obtain ⟨y, hy, ry⟩ := rr.some_of
      exact .hit hy (ih hE h2 ry).eqP (ihr t)
end
end Z
namespace Z
open PySem PySem.Spec PyProof.Rows L2 Evl
end Z
namespace Z
open PySem PySem.Spec PyProof.Rows L2 Evl
def top (i : Nat) : Stmt := PySem.Challenge.pw_shiftparts_k45_whole_key_by_key.main.body.getD i (.Pass ⟨0, 0, 0, 0⟩)
abbrev s_is_integer : Stmt := top 4
abbrev s_is_entry : Stmt := top 10
abbrev s_is_history : Stmt := top 11
abbrev s_need_history : Stmt := top 12
abbrev s_fits_now : Stmt := top 13
abbrev s_row_after : Stmt := top 14
abbrev s_may_come : Stmt := top 15
abbrev s_order_from : Stmt := top 16
abbrev s_serial_order : Stmt := top 17
abbrev s_numbers_of : Stmt := top 18
abbrev s_bad_keys : Stmt := top 19
abbrev s_explains_history : Stmt := top 20
abbrev s_merged_order : Stmt := top 21
abbrev s_order_by_keys : Stmt := top 22
abbrev s_law_cell : Stmt := top 24
abbrev s_law_box : Stmt := top 25
abbrev s_law_take : Stmt := top 26
abbrev s_law_mixed : Stmt := top 27
abbrev s_law_same : Stmt := top 28
abbrev s_law_copy : Stmt := top 29
abbrev s_law_entries : Stmt := top 31
abbrev s_law_honest : Stmt := top 32
abbrev s_law_have_unlike_times : Stmt := top 35
abbrev s_law_history : Stmt := top 36
abbrev s_law_has_order : Stmt := top 37
abbrev s_law_bad : Stmt := top 38
abbrev s_law_cell_right : Stmt := top 39
abbrev s_law : Stmt := top 40
def fa : List He.Fa := [.free "abs", .free "all", .free "any", .free "bool", .free "dict", .free "enumerate", .free "int", .free "isinstance", .free "len", .free "list", .free "min", .free "range", .free "repr", .free "set", .free "sorted", .free "str", .free "sum", .free "super", .free "tuple", .glo "ASKED", .str "DONE" "done", .glo "InvalidHistory", .int "MOST_ENTRIES" 8, .str "REFUSED" "refused", .glo "is_integer", .glo "is_entry", .glo "is_history", .glo "need_history", .glo "fits_now", .glo "row_after", .glo "may_come", .glo "order_from", .glo "serial_order", .glo "numbers_of", .glo "bad_keys", .glo "explains_history", .glo "merged_order", .glo "order_by_keys", .glo "_law_cell", .glo "_law_box", .glo "_law_take", .glo "_law_mixed", .glo "_law_same", .glo "_law_copy", .glo "_law_entries", .glo "_law_honest", .glo "_law_have_unlike_times", .glo "_law_history", .glo "_law_has_order", .glo "_law_bad", .glo "_law_cell_right", .glo "law"]
def fn : List He.DefD := [⟨("is_integer", none), "is_integer", "is_integer", defArgs s_is_integer, defBody s_is_integer, defScope s_is_integer, [], []⟩, ⟨("is_entry", none), "is_entry", "is_entry", defArgs s_is_entry, defBody s_is_entry, defScope s_is_entry, [], []⟩, ⟨("is_history", none), "is_history", "is_history", defArgs s_is_history, defBody s_is_history, defScope s_is_history, [], []⟩, ⟨("need_history", none), "need_history", "need_history", defArgs s_need_history, defBody s_need_history, defScope s_need_history, [], []⟩, ⟨("fits_now", none), "fits_now", "fits_now", defArgs s_fits_now, defBody s_fits_now, defScope s_fits_now, [], []⟩, ⟨("row_after", none), "row_after", "row_after", defArgs s_row_after, defBody s_row_after, defScope s_row_after, [], []⟩, ⟨("may_come", none), "may_come", "may_come", defArgs s_may_come, defBody s_may_come, defScope s_may_come, [], []⟩, ⟨("order_from", none), "order_from", "order_from", defArgs s_order_from, defBody s_order_from, defScope s_order_from, [], []⟩, ⟨("serial_order", none), "serial_order", "serial_order", defArgs s_serial_order, defBody s_serial_order, defScope s_serial_order, [], []⟩, ⟨("numbers_of", none), "numbers_of", "numbers_of", defArgs s_numbers_of, defBody s_numbers_of, defScope s_numbers_of, [], []⟩, ⟨("bad_keys", none), "bad_keys", "bad_keys", defArgs s_bad_keys, defBody s_bad_keys, defScope s_bad_keys, [], []⟩, ⟨("explains_history", none), "explains_history", "explains_history", defArgs s_explains_history, defBody s_explains_history, defScope s_explains_history, [], []⟩, ⟨("merged_order", none), "merged_order", "merged_order", defArgs s_merged_order, defBody s_merged_order, defScope s_merged_order, [], []⟩, ⟨("order_by_keys", none), "order_by_keys", "order_by_keys", defArgs s_order_by_keys, defBody s_order_by_keys, defScope s_order_by_keys, [], []⟩, ⟨("_law_cell", none), "_law_cell", "_law_cell", defArgs s_law_cell, defBody s_law_cell, defScope s_law_cell, [], []⟩, ⟨("_law_box", none), "_law_box", "_law_box", defArgs s_law_box, defBody s_law_box, defScope s_law_box, [], []⟩, ⟨("_law_take", none), "_law_take", "_law_take", defArgs s_law_take, defBody s_law_take, defScope s_law_take, [], []⟩, ⟨("_law_mixed", none), "_law_mixed", "_law_mixed", defArgs s_law_mixed, defBody s_law_mixed, defScope s_law_mixed, [], []⟩, ⟨("_law_same", none), "_law_same", "_law_same", defArgs s_law_same, defBody s_law_same, defScope s_law_same, [], []⟩, ⟨("_law_copy", none), "_law_copy", "_law_copy", defArgs s_law_copy, defBody s_law_copy, defScope s_law_copy, [], []⟩, ⟨("_law_entries", none), "_law_entries", "_law_entries", defArgs s_law_entries, defBody s_law_entries, defScope s_law_entries, [], []⟩, ⟨("_law_honest", none), "_law_honest", "_law_honest", defArgs s_law_honest, defBody s_law_honest, defScope s_law_honest, [], []⟩, ⟨("_law_have_unlike_times", none), "_law_have_unlike_times", "_law_have_unlike_times", defArgs s_law_have_unlike_times, defBody s_law_have_unlike_times, defScope s_law_have_unlike_times, [], []⟩, ⟨("_law_history", none), "_law_history", "_law_history", defArgs s_law_history, defBody s_law_history, defScope s_law_history, [], []⟩, ⟨("_law_has_order", none), "_law_has_order", "_law_has_order", defArgs s_law_has_order, defBody s_law_has_order, defScope s_law_has_order, [], []⟩, ⟨("_law_bad", none), "_law_bad", "_law_bad", defArgs s_law_bad, defBody s_law_bad, defScope s_law_bad, [], []⟩, ⟨("_law_cell_right", none), "_law_cell_right", "_law_cell_right", defArgs s_law_cell_right, defBody s_law_cell_right, defScope s_law_cell_right, [], []⟩, ⟨("law", none), "law", "law", defArgs s_law, defBody s_law, defScope s_law, [], []⟩]
def pr : List He.DefD := []
def fs : List ((Str × Option Str) × FnS) := [(("InvalidHistory", some "__init__"), some ("__init__", "InvalidHistory.__init__", (PySem.Sxvalue.iA ⟨6, 17, 6, 21⟩ ⟨6, 23, 6, 28⟩), FuncBody.stmts (PySem.Sxvalue.iB "the value is not a history" ⟨7, 8, 7, 13⟩ ⟨7, 8, 7, 15⟩ ⟨7, 8, 7, 24⟩ ⟨7, 25, 7, 53⟩ ⟨7, 8, 7, 54⟩ ⟨7, 8, 7, 54⟩ ⟨8, 8, 8, 12⟩ ⟨8, 8, 8, 18⟩ ⟨8, 21, 8, 26⟩ ⟨8, 8, 8, 26⟩), PySem.Sxvalue.iS, mainGlobals, [("__class__" : Str)], builtinsNs))]
def ts : List He.Tab := []
def cu : List (PySem.W.Frag → Bool) := [fun K => Chkvalue PySem.Challenge.pw_shiftparts_k45_whole_key_by_key K "InvalidHistory", fun K => tupK K (He.ga K "ASKED") [.str "put", .str "strike", .str "read"]]
end Z
namespace Z
open PySem PySem.Spec PyProof.Rows L2
abbrev R : PySem.W.OpenRow := PySem.W.OpenLaw.row PySem.Challenge.rw_shiftparts_k45_whole_key_by_key
abbrev hk : PySem.W.Hook := hookX 5 fa fn fs cu ts pr
def ob (s : PySem.W.SharedT) : AlX := obsXG 5 fa fn fs cu ts pr (HandSHeadRun.getT s)
theorem ob_eq (s : PySem.W.SharedT) : ob s = hk.obs s.abs := obsXG_eq (HandSHeadRun.getT_eq s)
def loose : List PySem.Str := (["PartsError", "InvalidHistory", "is_integer", "DONE", "REFUSED", "MOST_ENTRIES", "ASKED", "is_entry", "is_history", "need_history", "fits_now", "row_after", "may_come", "order_from", "serial_order", "numbers_of", "bad_keys", "explains_history", "merged_order", "order_by_keys", "_law_cell", "_law_box", "_law_take", "_law_mixed", "_law_same", "_law_copy", "_law_grown", "_law_entries", "_law_honest", "_law_is_good"] : List PySem.Str) ++ (["_law_orders", "_law_have_unlike_times", "_law_history", "_law_has_order", "_law_bad", "_law_cell_right"] : List PySem.Str)
theorem run (w : World) : HandSHeadRun.RunEq R (PySem.W.view R.prog [40]) hk ob 4000 loose w := by
  intro os
  kernel_rfl
end Z
namespace Z
open PySem PySem.Spec PyProof.Rows L2 Evl
set_option maxHeartbeats 4000000 in
theorem meets_enum1 {v : Value} {o : Obj} {G : Heap → Prop} (B : Begins v o G) :
    Meets (Builtin.«enumerate.__new__» ⟨[.type "enumerate", v], []⟩) (fun _ R s => G s.heap ∧
      R (.ok (.ret (.ref (s.heap.push o).objs.size))) { s with heap := (s.heap.push o).push { cls := .type "enumerate", data := .fields #[.none, .bool false, .ref s.heap.objs.size, rawInt 0, .none, .none] } }) :=
  .of_wp fun prog w A R s h => by
    obtain ⟨hp, g, d, tk, os⟩ := s
    obtain ⟨h1, h⟩ := h
    have hsub := sub_enumerate
    have q1 : ∀ {A' : Around} {E : Value → Shared → Prop} {Q : Value → Shared → Prop}, Q (.ref hp.objs.size) ⟨hp.push o, g, d, tk, os⟩ → wpAny (model prog w) A' (pyIter v) Q E ⟨hp, g, d, tk, os⟩ :=
      fun q => B.iter prog w _ _ ⟨hp, g, d, tk, os⟩ _ h1 q
    wp_walk using q1
    refine wpAny_stack_any fun st => wpAny_pure ?_
    split
    · rename_i c _ _ _ _ _
      cases (c == Value.type "enumerate")
      · wp_walk using q1
        exact ⟨_, rfl, h⟩
      · wp_walk using q1
        exact ⟨_, rfl, h⟩
    · wp_walk using q1
      exact ⟨_, rfl, h⟩
section
variable {prog : Program} {w : World} {A : Around} {E : Value → Shared → Prop} {s : Shared}
theorem call_enum1 {v : Value} {o : Obj} {G : Heap → Prop} {Q : Value → Shared → Prop} (B : Begins v o G) (h1 : G s.heap)
    (h : ∀ h', IsEnum h' (s.heap.objs.size + 1) s.heap.objs.size 0 .none → h'.get? s.heap.objs.size = some o →
      (∀ b o, s.heap.get? b = some o → h'.get? b = some o) → Q (.ref (s.heap.objs.size + 1)) { s with heap := h' }) :
    wpAny (model prog w) A (call (.type "enumerate") [v]) Q E s := by
  refine callType_new F.called_enumerate (by decide) (F.typeCall_enumerate_1 _) (F.newCall_enumerate_1 _) (fun obj => F.args_object_init_2 obj _) F.entry_enumerate_new
    (meets_enum1 B) ⟨h1, ?_⟩
  have hz : (s.heap.push o).objs.size = s.heap.objs.size + 1 := Heap.size_push ..
  show _ ∧ _
  rw [hz]
  have he : IsEnum ((s.heap.push o).push { cls := .type "enumerate", data := .fields #[.none, .bool false, .ref s.heap.objs.size, rawInt 0, .none, .none] }) (s.heap.objs.size + 1) s.heap.objs.size 0 .none := by
    have := Heap.get?_push_size (s.heap.push o) (o := { cls := .type "enumerate", data := .fields #[.none, .bool false, .ref s.heap.objs.size, rawInt 0, .none, .none] }) rfl
    rw [hz] at this
    exact this
  exact ⟨⟨_, he, rfl⟩, h _ he (Heap.get?_push_of_some _ (Heap.get?_push_size _ B.free)) fun b o x => Heap.get?_push_of_some _ (Heap.get?_push_of_some _ x)⟩
end
def IteT (K : PySem.W.Frag) (a : Addr) : It :=
  ⟨fun i H => ∃ (xs : List V) (x : V), SqT K H a xs ∧ xs[i]? = some x, fun i H v H' => ∃ T x, v = .ref T ∧ H T = none ∧ H' = upd H T (.tup [.int (i : Nat), x]) ∧ ∀ xs, SqT K H a xs → xs[i]? = some x, fun i H => ∃ xs : List V, SqT K H a xs ∧ xs.length ≤ i⟩
theorem turn_enumT {P : Program} {w : World} {K : PySem.W.Frag} {elts : List Expr} {kk : Nat} {tpos : Pos} (a e it : Addr) (hne : e ≠ it) (hea : e ≠ a) (hia : a ≠ it) :
    Turn P w K (.Tuple elts kk tpos) (IteT K a) [e, it] e (fun i h => (∃ old, IsEnum h e it ((i : Nat) : Int) old) ∧ h.IsTupleIter it a i) where
  mem := by simp
  obj := fun i h st b hb => by
    obtain ⟨⟨old, he⟩, ⟨o, ho, hc, hd⟩⟩ := st
    have e' : b = e ∨ b = it := by simpa using hb
    rcases e' with z | z
    · rw [z]; exact ⟨_, he, fun v q => nomatch q⟩
    · rw [z]; exact ⟨o, ho, fun v q => by rw [hd] at q; cases q⟩
  keep := fun i h h' st k => let ⟨⟨old, he⟩, hi⟩ := st; ⟨⟨old, k e (by simp) _ he⟩, hi.at fun o q => k it (by simp) o q⟩
  item := by
    intro X hP hw hK hc i pins s σ H E I hf st hg
    subst hP hw hK
    obtain ⟨⟨old, he⟩, hit⟩ := st
    obtain ⟨xs, x, hq, hx⟩ := hg
    obtain ⟨its, rv, p, hz⟩ := I.tuple hq
    obtain ⟨u, hu, ru⟩ := rv.get hx
    have hel : e < s.heap.objs.size := Heap.lt_size he
    have hil : it < s.heap.objs.size := by obtain ⟨_, q, _⟩ := hit; exact Heap.lt_size q
    have hlt : i < its.toArray.size := by
      have := (List.getElem?_eq_some_iff.1 hu).1
      simpa using this
    have hD := Draws.tuple (prog := X.prog) (w := X.w) (A := X.A.in1) (I.ok.hd hc) it a hia its.toArray
    refine wpAny_pyNext_enum_itemD hD he ⟨hit, show s.heap.IsTuple a its.toArray from p⟩ hlt hne (by simp [hne, hea]) fun y h' tk hy ho st' hT hsz hk => ?_
    have ey : y = u := by
      have h1 : its.toArray[i]? = some u := by simpa using hu
      exact Option.some.inj (hy.symm.trans h1)
    subst ey
    refine ⟨_, rfl, wpAny_letOwnedTupleGo_enum (s := { s with heap := h', toks := tk + 1 }) ho fun h'' he' sb => ?_⟩
    have hT2 : h''.get? s.heap.objs.size = some { cls := .type "tuple", data := .seq #[.int i tk, y] } := (sb.2 _ (Nat.ne_of_gt hel)).trans hT
    have new : ObjOk X.prog X.w (upd H s.heap.objs.size (.tup [.int (i : Nat), x])) h'' s.heap.objs.size (.tup [.int (i : Nat), x]) :=
      ⟨by show 2 ≤ sizeLine; decide, [.int i tk, y], .cons ⟨_, rfl⟩ (.cons ru .nil), ⟨_, hT2, rfl, _, rfl⟩⟩
    have I1 : Inv X pins σ (upd H s.heap.objs.size (.tup [.int (i : Nat), x])) { s with heap := h'', toks := tk + 1 } :=
      I.turnedNew (ch := [e, it]) (fun b ob hb q => (sb.2 b (fun z => hb (by simp [z]))).trans (hk b ob (fun z => hb (by simp [z])) (fun z => hb (by simp [z])) q)) hf (Nat.le_refl _) new
    refine ⟨.ref s.heap.objs.size, _, I1, rfl, ⟨_, x, rfl, I.hok.fresh (Nat.le_refl _), rfl, fun ys hy => by rw [I.tuple_inj hy hq]; exact hx⟩, ⟨⟨y, ?_⟩, st'.1.at fun o q => (sb.2 it (Ne.symm hne)).trans q⟩, fun b hb => ?_⟩
    · have e1 : ((i + 1 : Nat) : Int) = (i : Int) + 1 := by omega
      rw [e1]; exact he'
    · have hb' : b < s.heap.objs.size := by
        have e' : b = e ∨ b = it := by simpa using hb
        rcases e' with z | z
        · rw [z]; exact hel
        · rw [z]; exact hil
      rw [upd_ne (Nat.ne_of_lt hb')]
      exact (hf b hb).1
  done := by
    intro X hP hw hK hc i pins s σ H E I hf st hg
    subst hP hw hK
    obtain ⟨⟨old, he⟩, hit⟩ := st
    obtain ⟨xs, hq, hx⟩ := hg
    obtain ⟨its, rv, p, hz⟩ := I.tuple hq
    obtain ⟨f0, f1, f2, f3, f4, f5⟩ := hf it (by simp)
    have hl := rv.length
    have hm : s.heap.IsTupleIter it a i := hit
    have hh := I.ok.hd hc
    have hT : s.TypeIs (.ref e) "enumerate" := ⟨_, he, rfl⟩
    unfold pyNext
    refine wpAny_bind (wpAny_attempt (wpAny_callSpecial?_slot (name := Str.ofString "__next__") hT F.slot_enumerate_next
      (wpAny_call_entry F.slot_enumerate_next hT F.entry_enumerate_next ?_ (F.args_enumerate_next_1 _))))
    show wpAny _ _ (field (.ref e) 2 >>= _) _ _ _
    refine wpAny_bind (wpAny_field he rfl (x := .ref it) rfl ?_)
    refine wpAny_bind (wpAny_nextOf_tuple_end hh hm (show s.heap.IsTuple a its.toArray from p) (by simp; omega) fun h' x eb hx' => ?_)
    obtain ⟨o, ho, hc'⟩ := hx'
    refine wpAny_bind (wpAny_isInstance (T := "StopIteration") (b := true) ⟨o, ho, hc'⟩ isSubtype_stop ?_)
    exact wpAny_pure ⟨rfl, I.turned (t' := s.toks) (fun b o hb q => eb b o hb q) f0 f1 f3 f4 f5⟩
  self := fun A i s Q E st h => let ⟨⟨_, he⟩, _⟩ := st; wpAny_pyIter_enum he h
section
variable {X : Cx} {pins : List (Addr × Obj)} {σ : L2.St} {H : Hp} {s : Shared} {a : Addr} {xs : List V} {R : It → Hp → Prop} {E : Value → Shared → Prop} {elts : List Expr} {kk : Nat} {tpos : Pos}
theorem enum_list (I : Inv X pins σ H s) (hq : SqL X.K H a xs) (q : R (Ite X.K a) H) : wpAny (model X.prog X.w) X.A (call (.type "enumerate") [.ref a]) (fun o s1 => wpAny (model X.prog X.w) X.A (pyIter o) (PIE X pins σ (.Tuple elts kk tpos) R) X.xe s1) X.xe s := by
  obtain ⟨its, rv, p', hz⟩ := I.list hq
  refine call_enumerate_list p'.isList fun h' he hit hsz hk => wpAny_pyIter_enum he ?_
  have I2 : Inv X pins σ H { s with heap := h' } := I.kept (t' := s.toks) hk
  refine ⟨s.heap.objs.size + 1, [s.heap.objs.size + 1, s.heap.objs.size], _, _, H, rfl, I2, turn_enum a (s.heap.objs.size + 1) s.heap.objs.size, ⟨⟨.none, he⟩, hit, Nat.succ_ne_self _⟩, fun b hb => ?_, q⟩
  have e' : b = s.heap.objs.size + 1 ∨ b = s.heap.objs.size := by simpa using hb
  have hle : s.heap.objs.size ≤ b := by
    rcases e' with z | z
    · rw [z]; exact Nat.le_add_right _ _
    · rw [z]; exact Nat.le_refl _
  exact I.fpOk hle (I.hok.fresh hle)
theorem enum_tup (I : Inv X pins σ H s) (hq : SqT X.K H a xs) (q : R (IteT X.K a) H) : wpAny (model X.prog X.w) X.A (call (.type "enumerate") [.ref a]) (fun o s1 => wpAny (model X.prog X.w) X.A (pyIter o) (PIE X pins σ (.Tuple elts kk tpos) R) X.xe s1) X.xe s := by
  obtain ⟨its, rv, p', hz⟩ := I.tuple hq
  have hal : a < s.heap.objs.size := by
    obtain ⟨o, ho, _⟩ := (show s.heap.IsTuple a its.toArray from p')
    exact Heap.lt_size ho
  refine call_enum1 (begins_tuple a its.toArray) p' fun h' he ho hk => wpAny_pyIter_enum he ?_
  have I2 : Inv X pins σ H { s with heap := h' } := I.kept (t' := s.toks) hk
  have hit : h'.IsTupleIter s.heap.objs.size a 0 := ⟨_, ho, rfl, rfl⟩
  refine ⟨s.heap.objs.size + 1, [s.heap.objs.size + 1, s.heap.objs.size], _, _, H, rfl, I2, turn_enumT a (s.heap.objs.size + 1) s.heap.objs.size (Nat.succ_ne_self _) (Nat.ne_of_gt (Nat.lt_succ_of_lt hal)) (Nat.ne_of_lt hal), ⟨⟨.none, he⟩, hit⟩, fun b hb => ?_, q⟩
  have e' : b = s.heap.objs.size + 1 ∨ b = s.heap.objs.size := by simpa using hb
  have hle : s.heap.objs.size ≤ b := by
    rcases e' with z | z
    · rw [z]; exact Nat.le_add_right _ _
    · rw [z]; exact Nat.le_refl _
  exact I.fpOk hle (I.hok.fresh hle)
end
end Z
namespace Z
open PySem PySem.Spec PyProof.Rows L2 Evl
open PySem.SeqAt PySem.AutoSeq1 PySem.MeetsSeq PySem.MeetsSeq2 PySem.MeetsSeq3
section
variable {prog : Program} {w : World} {A : Around} {s : Shared}
def RcP (prog : Program) (w : World) (A : Around) (s : Shared) (v u : Value) (b : Bool) : Prop := ∀ E Q : Value → Shared → Prop, Q (.bool b) s → wpAny (model prog w) A (richCompare .Eq v u) Q E s
def NeP (prog : Program) (w : World) (A : Around) (s : Shared) (v u : Value) (b : Bool) : Prop := ∀ E Q : Value → Shared → Prop, Q (.bool b) s → wpAny (model prog w) A (richCompare .NotEq v u) Q E s
theorem ne_loopP (l b : Addr) (items items2 : Array Value) (n n2 : Nat) (dd dd2 : Option Addr) (sl sl2 : Array (Option Value)) (hsz : items.size = items2.size) (e : Nat → Bool) (k : Nat) :
    ∀ i : Nat, items.size - i = k → ∀ (A : Around) (R : Result → Shared → Prop) (s : Shared), (s.heap.get? l = some { cls := .type "list", dict := dd, data := .seq items n, slots := sl } ∧ s.heap.get? b = some { cls := .type "list", dict := dd2, data := .seq items2 n2, slots := sl2 } ∧
        (∀ j (h1 : j < items.size) (h2 : j < items2.size), EqP prog w A.in1 s items[j] items2[j] (e j)) ∧
        R (.ok (.ret (.bool (!((List.range items.size).drop i).all e)))) s) →
      wpAny (model prog w) A.in1 (Builtin.«list.__eq__.loop» ⟨[.ref l, .ref b, rawInt i, rawInt 3], []⟩) (GQ.FinOf prog w A R) (fun e s' => R (.error e) s') s := by
  induction k with
  | zero =>
    intro i hk A R s h
    obtain ⟨hp, g, d, tk, os⟩ := s
    obtain ⟨hl, hb, he, h⟩ := h
    wp_walk using wpAny_loadPart' hl, wpAny_loadPart' hb
    have hi1 : items[((i : Nat) : Int).toNat]? = none := by simp; omega
    have hi2 : items2[((i : Nat) : Int).toNat]? = none := by simp; omega
    have hd : (List.range items.size).drop i = [] := by simp; omega
    rw [hd] at h
    rw [hi1, hi2]
    wp_walk using wpAny_loadPart' hl, wpAny_loadPart' hb
    show R (.ok (.ret (.bool (items.size != items2.size)))) _
    rw [hsz]
    simpa using h
  | succ k ih =>
    intro i hk A R s h
    obtain ⟨hp, g, d, tk, os⟩ := s
    obtain ⟨hl, hb, he, h⟩ := h
    wp_walk using wpAny_loadPart' hl, wpAny_loadPart' hb
    have hlt : i < items.size := by omega
    have hlt2 : i < items2.size := by omega
    have hi1 : items[((i : Nat) : Int).toNat]? = some items[i] := by simp [hlt]
    have hi2 : items2[((i : Nat) : Int).toNat]? = some items2[i] := by simp [hlt2]
    have hd : (List.range items.size).drop i = i :: (List.range items.size).drop (i + 1) := by simp [List.drop_eq_getElem_cons, hlt]
    have hc : ((i : Int) + 1) = ((i + 1 : Nat) : Int) := by omega
    rw [hd, List.all_cons] at h
    rw [hi1, hi2]
    refine wpAny_bind (he i hlt hlt2 _ _ ?_)
    cases hb' : e i with
    | true =>
      rw [hb'] at h
      wp_walk
      rw [hc]
      exact ⟨plainId_quiet plain_eq_loop _, codeAny_builtin entry_eq_loop (by
        rw [Around.under_plainId plain_eq_loop _]
        exact ih (i + 1) (by omega) A R _ ⟨hl, hb, he, by simpa using h⟩)⟩
    | false =>
      rw [hb'] at h
      wp_walk using wpAny_loadPart' hl, wpAny_loadPart' hb
      rw [hi1, hi2]
      wp_walk
      simpa using h
theorem neP_lists {l b : Addr} {items items2 : Array Value} {e : Nat → Bool} (hl : s.heap.IsList l items) (hb : s.heap.IsList b items2) (hsz : items.size = items2.size) (hu : A.units < cLine)
    (he : ∀ j (h1 : j < items.size) (h2 : j < items2.size), EqP prog w A.in1 s items[j] items2[j] (e j)) : NeP prog w A s (.ref l) (.ref b) (!(List.range items.size).all e) := fun E Q h => by
  obtain ⟨⟨cls, dd, data, sl⟩, ho, hc, n, hd⟩ := id hl
  obtain ⟨⟨cls2, dd2, data2, sl2⟩, ho2, hc2, n2, hd2⟩ := id hb
  simp only at hc hd hc2 hd2
  subst hc hd hc2 hd2
  refine wpAny_richCompare_same_room (op := .NotEq) ⟨_, ho, rfl⟩ ⟨_, ho2, rfl⟩ F.slot_list_ne (GQ.call_here F.slot_list_ne ⟨_, ho, rfl⟩ F.entry_list_ne (F.args_list_ne_2 _ _) ?_) hu
  obtain ⟨hp, g, d, tk, os⟩ := s
  have f3 := AutoSeq1.sub_list_list
  have hne : ¬ (items.size != items2.size) = true := by simp [hsz]
  wp_walk using wpAny_loadPart' ho, wpAny_loadPart' ho2
  exact ⟨plainId_quiet plain_eq_loop _, codeAny_builtin entry_eq_loop (by
    rw [Around.under_plainId plain_eq_loop _]
    exact ne_loopP l b items items2 n n2 dd dd2 sl sl2 hsz e _ 0 rfl A _ _ ⟨ho, ho2, he, ⟨(fun x => nomatch x), by simpa using h⟩⟩)⟩
theorem neP_dicts {K : Type} [DecidableEq K] {knd : KeyKind prog w K} {a b : Addr} {ka kb : List (K × Value)} {r : Bool} (ha : (a == sysModules) = false) (hb : (b == sysModules) = false)
    (da : s.heap.DictOf knd a ka) (db : s.heap.DictOf knd b kb) (hu : A.units < cLine) (hits : ka.length = kb.length → PySem.W.KeqHitsP prog w A.in1 s kb ka r) : NeP prog w A s (.ref a) (.ref b) (!(ka.length == kb.length && r)) := fun E Q h => by
  refine wpAny_richCompare_same_room (op := .NotEq) da.typeIs db.typeIs PySem.F.slot_dict_ne (wpAny_call_entry PySem.F.slot_dict_ne da.typeIs PySem.F.entry_dict_ne ?_ (PySem.F.args_dict_ne_2 _ _)) hu
  show wpAny _ _ (Builtin.Dict.dictSlotArgs "__ne__" ⟨[.ref a, .ref b], []⟩ >>= _) _ _ s
  refine wpAny_bind ?_
  unfold Builtin.Dict.dictSlotArgs
  refine wpAny_bind (wpAny_notOrdered_dict da.typeIs ?_)
  show wpAny _ _ (pure (Value.ref a, Value.ref b)) _ _ s
  refine wpAny_pure ?_
  refine wpAny_bind (wpAny_isInstance (T := "dict") db.typeIs PySem.F.sub_dict_dict ?_)
  simp only [Bool.not_true, Bool.false_eq_true, if_false]
  refine wpAny_bind (wpAny_pure (wpAny_bind (wpAny_pure ?_)))
  refine wpAny_bind (PySem.W.samePairsP ha hb da db hits ?_)
  refine wpAny_pure ⟨_, rfl, ?_, ?_⟩
  · exact fun x => nomatch x
  · simpa using h
theorem neP_tuples {l b : Addr} {items items2 : Array Value} {e : Nat → Bool} (hl : s.heap.IsTuple l items) (hb : s.heap.IsTuple b items2) (hu : A.units < cLine)
    (he : ∀ j (h1 : j < items.size) (h2 : j < items2.size), EqP prog w A.in1 s items[j] items2[j] (e j)) : NeP prog w A s (.ref l) (.ref b) (!((List.range (min items.size items2.size)).all e && items.size == items2.size)) := fun E Q h => by
  obtain ⟨⟨cls, dd, data, sl⟩, ho, hc, n, hd⟩ := id hl
  obtain ⟨⟨cls2, dd2, data2, sl2⟩, ho2, hc2, n2, hd2⟩ := id hb
  simp only at hc hd hc2 hd2
  subst hc hd hc2 hd2
  refine wpAny_richCompare_same_room (op := .NotEq) ⟨_, ho, rfl⟩ ⟨_, ho2, rfl⟩ F.slot_tuple_ne (GQ.call_here F.slot_tuple_ne ⟨_, ho, rfl⟩ F.entry_tuple_ne (F.args_tuple_ne_2 _ _) ?_) hu
  obtain ⟨hp, g, d, tk, os⟩ := s
  have f2 := AutoSeq1.sub_tuple_tuple
  have hZ : (items.toList.zip items2.toList).length = min items.size items2.size := by simp
  wp_walk using wpAny_loadPart' ho, wpAny_loadPart' ho2, wpAny_forIn_list _ (fun rest b s' => b.1 = none ∧ s' = ⟨hp, g, d, tk, os⟩ ∧ ∃ i, rest = (items.toList.zip items2.toList).drop i ∧
    Q (.bool (!(((List.range (min items.size items2.size)).drop i).all e && items.size == items2.size))) ⟨hp, g, d, tk, os⟩) _
  case turn =>
    rintro ⟨y, x⟩ rest b s' ⟨hb', rfl, i, hz, hR⟩
    have hlt : i < (items.toList.zip items2.toList).length := by
      rcases Nat.lt_or_ge i (items.toList.zip items2.toList).length with h' | h'
      · exact h'
      · rw [List.drop_of_length_le h'] at hz; cases hz
    have hm : i < min items.size items2.size := hZ ▸ hlt
    have h1 : i < items.size := Nat.lt_of_lt_of_le hm (Nat.min_le_left _ _)
    have h2 : i < items2.size := Nat.lt_of_lt_of_le hm (Nat.min_le_right _ _)
    rw [List.drop_eq_getElem_cons hlt] at hz
    injection hz with hyx hrest
    have hy : y = items[i] := by have := congrArg Prod.fst hyx; simpa using this
    have hx : x = items2[i] := by have := congrArg Prod.snd hyx; simpa using this
    subst hy hx
    have hd : (List.range (min items.size items2.size)).drop i = i :: (List.range (min items.size items2.size)).drop (i + 1) := by simp [List.drop_eq_getElem_cons, hm]
    rw [hd, List.all_cons] at hR
    refine wpAny_bind (he i h1 h2 _ _ ?_)
    cases hy : e i with
    | true =>
      rw [hy] at hR
      wp_walk
      exact ⟨rfl, rfl, i + 1, hrest, by simpa using hR⟩
    | false =>
      rw [hy] at hR
      wp_walk
      exact ⟨(fun x => nomatch x), by simpa using hR⟩
  case fin =>
    rintro ⟨b1, b2⟩ s' ⟨hb', rfl, i, hz, hR⟩
    simp only at hb'
    subst hb'
    have hge : min items.size items2.size ≤ i := by
      rcases Nat.lt_or_ge i (items.toList.zip items2.toList).length with h' | h'
      · rw [List.drop_eq_getElem_cons h'] at hz; cases hz
      · exact hZ ▸ h'
    rw [List.drop_of_length_le (by simpa using hge)] at hR
    wp_walk
    exact ⟨(fun x => nomatch x), by simpa [Builtin.Tuple.tupleCompareSizes, bne] using hR⟩
  case h =>
    exact ⟨rfl, rfl, 0, rfl, by simpa using h⟩
end
end Z
namespace Z
open PySem PySem.Spec PyProof.Rows L2 Evl
open PySem.SeqAt
inductive EqD (K : PySem.W.Frag) (H : Hp) (E : V → V → Bool → Prop) : V → V → Bool → Prop
  | old {x y : V} {b : Bool} : EqR K H E x y b → EqD K H E x y b
  | dd {a b : Addr} {ks ls : List (Key × V)} {r : Bool} : Rd H a (.dK ks) → Rd H b (.dK ls) → (ks.length = ls.length → KHit E ls ks r) → EqD K H E (.ref a) (.ref b) (decide (ks.length = ls.length) && r)
def EqJ (K : PySem.W.Frag) (H : Hp) : Nat → V → V → Bool → Prop
  | 0 => fun _ _ _ => False
  | n + 1 => fun x y b => (∃ a, x = .ref a ∧ y = .ref a ∧ b = true) ∨ (EqD K H (EqJ K H n) x y b ∧ ∀ a, x = .ref a → y ≠ .ref a)
section
variable {X : Cx} {pins : List (Addr × Obj)} {σ : L2.St} {H : Hp} {s : Shared}
theorem EqZ.runP {P : Program} {w : World} {E : V → V → Bool → Prop} {A : Around} (ih : ∀ {x y : V} {b : Bool} {v u : Value}, E x y b → RelV x v → RelV y u → EqP P w A s v u b) {xs ys : List V} {e : List Bool} (h : EqZ E xs ys e) :
    ∀ {us ws : List Value}, Vals xs us → Vals ys ws → ∀ j (h1 : j < us.length) (h2 : j < ws.length), EqP P w A s us[j] ws[j] (e.getD j false) := by
  induction h with
  | nil =>
    intro us ws r1 r2 j h1 h2
    cases r1
    exact absurd h1 (Nat.not_lt_zero j)
  | nilL =>
    intro us ws r1 r2 j h1 h2
    cases r1
    exact absurd h1 (Nat.not_lt_zero j)
  | nilR =>
    intro us ws r1 r2 j h1 h2
    cases r2
    exact absurd h2 (Nat.not_lt_zero j)
  | cons h _ k =>
    intro us ws r1 r2 j h1 h2
    cases r1 with
    | cons a1 b1 =>
      cases r2 with
      | cons a2 b2 =>
        cases j with
        | zero => exact ih h a1 a2
        | succ j => exact k b1 b2 j (Nat.lt_of_succ_lt_succ h1) (Nat.lt_of_succ_lt_succ h2)
theorem KHit.runP {P : Program} {w : World} {A : Around} {E : V → V → Bool → Prop} (ih : ∀ {x y : V} {b : Bool} {v u : Value}, E x y b → RelV x v → RelV y u → EqP P w A s v u b) {ls : List (Key × V)} {vb : List (Key × Value)} (rb : KV ls vb) {ks : List (Key × V)} {r : Bool} (h : KHit E ls ks r) :
    ∀ {va : List (Key × Value)}, KV ks va → PySem.W.KeqHitsP P w A s vb va r := by
  induction h with
  | nil =>
    intro va ra
    unfold KV at ra
    cases ra
    exact .nil
  | @miss k v r e =>
    intro va ra
    unfold KV at ra
    cases ra with
    | @cons p q ps qs h t =>
      obtain ⟨h1, h2⟩ := h
      obtain ⟨key, w'⟩ := q
      have h1 : k = key := h1
      subst h1
      have rr : RelO none (valueAt vb k) := by rw [← e]; exact rb.val k
      exact .miss (RelO.none_of rr)
  | @hit k v u r e b hu hE _ ihr =>
    intro va ra
    unfold KV at ra
    cases ra with
    | @cons p q ps qs h t =>
      obtain ⟨h1, h2⟩ := h
      obtain ⟨key, w'⟩ := q
      have h1 : k = key := h1
      subst h1
      have rr : RelO (some u) (valueAt vb k) := by rw [← hu]; exact rb.val k
      obtain ⟨y, hy, ry⟩ := rr.some_of
      exact .hit hy (ih hE h2 ry) (ihr t)
/-- what stands in no list, tuple or dict -/
def isLT (K : PySem.W.Frag) (H : Hp) (E : V → V → Bool → Prop) (x y : V) (b : Bool) : Prop :=
  (∃ p q xs ys e, x = .ref p ∧ y = .ref q ∧ SqL K H p xs ∧ SqL K H q ys ∧ xs.length = ys.length ∧ EqZ E xs ys e ∧ b = e.all id) ∨
  (∃ p q xs ys e, x = .ref p ∧ y = .ref q ∧ SqT K H p xs ∧ SqT K H q ys ∧ EqZ E xs ys e ∧ b = (e.all id && decide (xs.length = ys.length)))
theorem EqR.split {K : PySem.W.Frag} {E : V → V → Bool → Prop} {x y : V} {b : Bool} (h : EqR K H E x y b) : isLT K H E x y b ∨ EqR K H (fun _ _ _ => False) x y b := by
  cases h with
  | sc h => exact .inr (.sc h)
  | bi a j => exact .inr (.bi a j)
  | ib i b => exact .inr (.ib i b)
  | ll h1 h2 hn => exact .inr (.ll h1 h2 hn)
  | lst h1 h2 hl hz => exact .inl (.inl ⟨_, _, _, _, _, rfl, rfl, h1, h2, hl, hz, rfl⟩)
  | tup h1 h2 hz => exact .inl (.inr ⟨_, _, _, _, _, rfl, rfl, h1, h2, hz, rfl⟩)
  | lt h1 h2 => exact .inr (.lt h1 h2)
  | tl h1 h2 => exact .inr (.tl h1 h2)
  | ls h1 h2 => exact .inr (.ls h1 h2)
  | sl h1 h2 => exact .inr (.sl h1 h2)
  | ts h1 h2 => exact .inr (.ts h1 h2)
  | st h1 h2 => exact .inr (.st h1 h2)
theorem isLT.rc (I : Inv X pins σ H s) {E : V → V → Bool → Prop} {A : Around} (hu : A.units < cLine) (ih : ∀ {x y : V} {b : Bool} {v u : Value}, E x y b → RelV x v → RelV y u → EqP X.prog X.w A.in1 s v u b)
    {x y : V} {b : Bool} {v u : Value} (h : isLT X.K H E x y b) (rx : RelV x v) (ry : RelV y u) : RcP X.prog X.w A s v u b ∧ NeP X.prog X.w A s v u (!b) := by
  rcases h with ⟨p, q, xs, ys, e, rfl, rfl, h1, h2, hl, hz, rfl⟩ | ⟨p, q, xs, ys, e, rfl, rfl, h1, h2, hz, rfl⟩
  · cases rx; cases ry
    obtain ⟨i1, r1, p1, _⟩ := I.list h1
    obtain ⟨i2, r2, p2, _⟩ := I.list h2
    have e1 := r1.length
    have e2 := r2.length
    have el := hz.len
    have sz : i1.toArray.size = i2.toArray.size := by simp only [List.size_toArray]; omega
    have it : ∀ j (h1 : j < i1.toArray.size) (h2 : j < i2.toArray.size), EqP X.prog X.w A.in1 s i1.toArray[j] i2.toArray[j] (e.getD j false) := fun j h1 h2 => hz.runP ih r1 r2 j (by simpa using h1) (by simpa using h2)
    have rg : (List.range i1.toArray.size).all (fun i => e.getD i false) = e.all id := by
      rw [show i1.toArray.size = e.length by simp only [List.size_toArray]; omega, range_all]
    refine ⟨fun E' Q hq => rcP_lists (e := fun i => e.getD i false) p1.isList p2.isList sz hu it E' Q (by rw [rg]; exact hq), ?_⟩
    have n := neP_lists (e := fun i => e.getD i false) p1.isList p2.isList sz hu it
    rw [rg] at n
    exact n
  · cases rx; cases ry
    obtain ⟨i1, r1, p1, _⟩ := I.tuple h1
    obtain ⟨i2, r2, p2, _⟩ := I.tuple h2
    have e1 := r1.length
    have e2 := r2.length
    have el := hz.len
    have it : ∀ j (h1 : j < i1.toArray.size) (h2 : j < i2.toArray.size), EqP X.prog X.w A.in1 s i1.toArray[j] i2.toArray[j] (e.getD j false) := fun j h1 h2 => hz.runP ih r1 r2 j (by simpa using h1) (by simpa using h2)
    have rg : ((List.range (min i1.toArray.size i2.toArray.size)).all (fun i => e.getD i false) && i1.toArray.size == i2.toArray.size) = (e.all id && decide (xs.length = ys.length)) := by
      rw [show min i1.toArray.size i2.toArray.size = e.length by simp only [List.size_toArray]; omega, range_all]
      congr 1
      rw [Bool.beq_eq_decide_eq]
      simp only [List.size_toArray]
      rw [e1, e2]
    refine ⟨fun E' Q hq => rcIn_tuples (e := fun i => e.getD i false) p1 p2 hu it (by rw [rg]; exact hq), ?_⟩
    have n := neP_tuples (prog := X.prog) (w := X.w) (e := fun i => e.getD i false) p1 p2 hu it
    rw [rg] at n
    exact n
theorem EqD.rc (I : Inv X pins σ H s) {E : V → V → Bool → Prop} {A : Around} (hu : A.units < cLine) (ih : ∀ {x y : V} {b : Bool} {v u : Value}, E x y b → RelV x v → RelV y u → EqP X.prog X.w A.in1 s v u b)
    {x y : V} {b : Bool} {v u : Value} (h : EqD X.K H E x y b) (rx : RelV x v) (ry : RelV y u) : RcP X.prog X.w A s v u b ∧ NeP X.prog X.w A s v u (!b) := by
  cases h with
  | old h =>
    rcases h.split with h | h
    · exact h.rc I hu ih rx ry
    · exact ⟨fun E' Q q => EqR.run I hu (E := fun _ _ _ => False) (fun h => h.elim) h rx ry X.prog X.w E' Q q, fun E' Q q => EqR.runNe I hu (E := fun _ _ _ => False) (fun h => h.elim) h rx ry X.prog X.w E' Q q⟩
  | @dd p q ks ls r ha hb hh =>
    cases rx; cases ry
    obtain ⟨_, ya, va, ra, da⟩ := dk_rd I.hok ha
    obtain ⟨_, yb, vb, rb, db⟩ := dk_rd I.hok hb
    have la := ra.length
    have lb := rb.length
    have hits : va.length = vb.length → PySem.W.KeqHitsP X.prog X.w A.in1 s vb va r := fun hl => (hh (by omega)).runP ih rb ra
    have e : (va.length == vb.length) = decide (ks.length = ls.length) := by
      rw [Bool.beq_eq_decide_eq, ← la, ← lb]
    refine ⟨fun E' Q hq => PySem.W.rcP_dicts (knd := mixKind X.prog X.w) (r := r) ya yb da db hu hits E' Q (by rw [e]; exact hq), ?_⟩
    have n := neP_dicts (knd := mixKind X.prog X.w) (r := r) ya yb da db hu hits
    rw [e] at n
    exact n
theorem EqJ.run (I : Inv X pins σ H s) : ∀ {n : Nat} {A : Around}, A.units + n < cLine → ∀ {x y : V} {b : Bool} {v u : Value}, EqJ X.K H n x y b → RelV x v → RelV y u → EqP X.prog X.w A s v u b
  | 0, _, _, _, _, _, _, _, h, _, _ => h.elim
  | n + 1, A, hu, x, y, b, v, u, h, rx, ry => by
    rcases h with ⟨a, rfl, rfl, rfl⟩ | ⟨h, ne⟩
    · cases rx; cases ry
      exact (EqAt.same _).eqP
    · have ih := fun {x y : V} {b : Bool} {v u : Value} => EqJ.run (n := n) (A := A.in1) I (by show A.units + 1 + n < cLine; omega) (x := x) (y := y) (b := b) (v := v) (u := u)
      have step := h.rc I (A := A) (by omega) ih rx ry
      have refs : ∀ {p q : Addr}, x = .ref p → y = .ref q → EqP X.prog X.w A s v u b := by
        intro p q e1 e2
        subst e1 e2
        cases rx; cases ry
        exact eqP_refs (fun e => ne p rfl (by rw [e])) step.1
      cases h with
      | old h =>
        rcases h.split with (⟨p, q, xs, ys, e, rfl, rfl, _⟩ | ⟨p, q, xs, ys, e, rfl, rfl, _⟩) | h
        · exact refs rfl rfl
        · exact refs rfl rfl
        · have h1 : EqR X.K H (EqI X.K H 0) x y b := h
          exact (EqI.run I (n := 1) (A := A) (by omega) (x := x) (y := y) (b := b) (.inr ⟨h1, ne⟩) rx ry).eqP
      | dd ha hb hh => exact refs rfl rfl
end
end Z
namespace Z
open PySem PySem.Spec PyProof.Rows L2 Evl
inductive Da where
  | non | bl (b : Bool) | int (i : Int) | str (s : Str) | ty (n : String) | gl (x : Str)
  | tup (ds : List Da) | lst (ds : List Da) | dct (kds : List (Key × Da)) | obj (c : Str) (fds : List (Str × Da))
  | kl (ds : List Da) | kt (ds : List Da)
  | cell (n : Nat) | exv (a dd : Addr) (c : Str) (fds : List (Str × Da))
abbrev Mem := List Da
abbrev Sl := List (Option Da)
/-- a dict's entries, the dict locked or not -/
def coreD : HO → Option (List (Key × V))
  | .dK kvs => some kvs
  | .frz _ (.dK kvs) => some kvs
  | _ => none
mutual
inductive Rp (K : PySem.W.Frag) (H : Hp) (φ χ : List Addr) : V → Da → Prop
  | non : Rp K H φ χ .non .non
  | bl (b : Bool) : Rp K H φ χ (.bl b) (.bl b)
  | int (i : Int) : Rp K H φ χ (.int i) (.int i)
  | str {s : Str} : s.length ≤ sizeLine → Rp K H φ χ (.str s) (.str s)
  | ty (n : String) : Rp K H φ χ (.ty n) (.ty n)
  | gl (x : Str) : Rp K H φ χ (.ref (He.ga K x)) (.gl x)
  | tup {a : Addr} {vs : List V} {ds : List Da} : H a = some (.tup vs) → a ∉ φ → a ∉ χ → RpL K H φ χ vs ds → Rp K H φ χ (.ref a) (.tup ds)
  | lst {a : Addr} {vs : List V} {ds : List Da} : H a = some (.lst vs) → a ∉ φ → a ∉ χ → RpL K H φ χ vs ds → Rp K H φ χ (.ref a) (.lst ds)
  | dct {a : Addr} {o : HO} {kvs : List (Key × V)} {kds : List (Key × Da)} : H a = some o → coreD o = some kvs → a ∉ φ → a ∉ χ → RpK K H φ χ kvs kds → Rp K H φ χ (.ref a) (.dct kds)
  | obj {a dx : Addr} {c : Str} {fs : List (Str × V)} {fds : List (Str × Da)} : H a = some (.ins (He.ga K c) dx fs) → a ∉ φ → a ∉ χ → RpF K H φ χ fs fds → Rp K H φ χ (.ref a) (.obj c fds)
  | klR {a : Addr} {o : HO} {vs : List V} {ds : List Da} : H a = some o → (o = .lst vs ∨ ∃ ob, o = .frz ob (.lst vs)) → a ∉ φ → a ∉ χ → RpL K H φ χ vs ds → Rp K H φ χ (.ref a) (.kl ds)
  | klK {a : Addr} {vs : List V} {ds : List Da} : (∀ H', SqL K H' a vs) → RpL K H φ χ vs ds → Rp K H φ χ (.ref a) (.kl ds)
  | ktK {a : Addr} {vs : List V} {ds : List Da} : (∀ H', SqT K H' a vs) → RpL K H φ χ vs ds → Rp K H φ χ (.ref a) (.kt ds)
  | cell {n : Nat} {a : Addr} : φ[n]? = some a → Rp K H φ χ (.ref a) (.cell n)
  | exv {a dd : Addr} {c : Str} {vfs : List (Str × V)} {fds : List (Str × Da)} : H dd = some (.xd vfs) → dd ∉ φ → dd ∉ χ → RpF K H φ χ vfs fds → Rp K H φ χ (.ref a) (.exv a dd c fds)
inductive RpL (K : PySem.W.Frag) (H : Hp) (φ χ : List Addr) : List V → List Da → Prop
  | nil : RpL K H φ χ [] []
  | cons {v : V} {d : Da} {vs : List V} {ds : List Da} : Rp K H φ χ v d → RpL K H φ χ vs ds → RpL K H φ χ (v :: vs) (d :: ds)
inductive RpK (K : PySem.W.Frag) (H : Hp) (φ χ : List Addr) : List (Key × V) → List (Key × Da) → Prop
  | nil : RpK K H φ χ [] []
  | cons {k : Key} {v : V} {d : Da} {vs : List (Key × V)} {ds : List (Key × Da)} : Rp K H φ χ v d → RpK K H φ χ vs ds → RpK K H φ χ ((k, v) :: vs) ((k, d) :: ds)
inductive RpF (K : PySem.W.Frag) (H : Hp) (φ χ : List Addr) : List (Str × V) → List (Str × Da) → Prop
  | nil : RpF K H φ χ [] []
  | cons {k : Str} {v : V} {d : Da} {vs : List (Str × V)} {ds : List (Str × Da)} : Rp K H φ χ v d → RpF K H φ χ vs ds → RpF K H φ χ ((k, v) :: vs) ((k, d) :: ds)
end
/-- from one heap to a later one: what is no cell stays, new cells stand where nothing was -/
structure Adv (H : Hp) (φ : List Addr) (H' : Hp) (φ' : List Addr) : Prop where
  keep : ∀ a o, H a = some o → a ∉ φ → H' a = some o
  pre : ∃ ψ, φ' = φ ++ ψ ∧ ∀ a ∈ ψ, H a = none
  dom : ∀ a, H a ≠ none → H' a ≠ none
theorem nmc {α : Type} {a b : α} {l : List α} (h : a ≠ b ∧ a ∉ l) : a ∉ b :: l := fun m => (List.mem_cons.1 m).elim h.1 h.2
theorem upd_ni {H : Hp} {D a : Addr} {o : HO} {χ : List Addr} (e : D ∈ χ) (m : a ∉ χ) : upd H D o a = H a := upd_ne fun q => m (by rw [q]; exact e)
theorem Adv.refl {H : Hp} {φ : List Addr} : Adv H φ H φ := ⟨fun _ _ h _ => h, ⟨[], by simp, fun _ h => by cases h⟩, fun _ h => h⟩
theorem Adv.nin {H H' : Hp} {φ φ' : List Addr} (A : Adv H φ H' φ') {a : Addr} {o : HO} (h : H a = some o) (n : a ∉ φ) : a ∉ φ' := by
  obtain ⟨ψ, rfl, q⟩ := A.pre
  intro m
  rcases List.mem_append.1 m with m | m
  · exact n m
  · rw [q a m] at h
    cases h
theorem Adv.trans {H H1 H2 : Hp} {φ φ1 φ2 : List Addr} (A : Adv H φ H1 φ1) (B : Adv H1 φ1 H2 φ2) : Adv H φ H2 φ2 where
  keep := fun a o h n => B.keep a o (A.keep a o h n) (A.nin h n)
  pre := by
    obtain ⟨ψ, rfl, q⟩ := A.pre
    obtain ⟨ψ', rfl, q'⟩ := B.pre
    refine ⟨ψ ++ ψ', by simp, fun a m => ?_⟩
    rcases List.mem_append.1 m with m | m
    · exact q a m
    · cases e : H a with
      | none => rfl
      | some o => exact absurd (q' a m) (A.dom a (by rw [e]; simp))
  dom := fun a h => B.dom a (A.dom a h)
theorem Adv.at_ {H H' : Hp} {φ φ' : List Addr} (A : Adv H φ H' φ') {n : Nat} {a : Addr} (h : φ[n]? = some a) : φ'[n]? = some a := by
  obtain ⟨ψ, rfl, _⟩ := A.pre
  rw [List.getElem?_append_left (List.getElem?_eq_some_iff.1 h).1]
  exact h
/-- a new object -/
theorem Adv.new {H : Hp} {φ : List Addr} {p : Addr} {o : HO} (h : H p = none) : Adv H φ (upd H p o) φ where
  keep := fun a u e _ => Ex.new h a u e
  pre := ⟨[], by simp, fun _ h => by cases h⟩
  dom := fun a e => by
    by_cases q : a = p
    · rw [q, upd_same]; simp
    · rw [upd_ne q]; exact e
/-- a cell changes -/
theorem Adv.mut {H : Hp} {φ : List Addr} {p : Addr} {o : HO} (h : p ∈ φ) : Adv H φ (upd H p o) φ where
  keep := fun a u e n => by
    rw [upd_ne (fun q => n (by rw [q]; exact h))]
    exact e
  pre := ⟨[], by simp, fun _ h => by cases h⟩
  dom := fun a e => by
    by_cases q : a = p
    · rw [q, upd_same]; simp
    · rw [upd_ne q]; exact e
/-- later cells are forgotten -/
theorem Adv.cut {H H' : Hp} {φ φ' : List Addr} (A : Adv H φ H' φ') {n : Nat} (h : φ.length ≤ n) : Adv H φ H' (φ'.take n) where
  keep := A.keep
  pre := by
    obtain ⟨ψ, rfl, q⟩ := A.pre
    refine ⟨ψ.take (n - φ.length), ?_, fun a m => q a (List.mem_of_mem_take m)⟩
    rw [List.take_append, List.take_of_length_le h]
  dom := A.dom
section
variable {K : PySem.W.Frag} {χ : List Addr}
mutual
theorem Rp.adv {H H' : Hp} {φ φ' : List Addr} (A : Adv H φ H' φ') : ∀ {v : V} {d : Da}, Rp K H φ χ v d → Rp K H' φ' χ v d
  | _, _, .non => .non
  | _, _, .bl b => .bl b
  | _, _, .int i => .int i
  | _, _, .str h => .str h
  | _, _, .ty n => .ty n
  | _, _, .gl x => .gl x
  | _, _, .tup h n m r => .tup (A.keep _ _ h n) (A.nin h n) m (RpL.adv A r)
  | _, _, .lst h n m r => .lst (A.keep _ _ h n) (A.nin h n) m (RpL.adv A r)
  | _, _, .dct h c n m r => .dct (A.keep _ _ h n) c (A.nin h n) m (RpK.adv A r)
  | _, _, .obj h n m r => .obj (A.keep _ _ h n) (A.nin h n) m (RpF.adv A r)
  | _, _, .klR h e n m r => .klR (A.keep _ _ h n) e (A.nin h n) m (RpL.adv A r)
  | _, _, .klK h r => .klK h (RpL.adv A r)
  | _, _, .ktK h r => .ktK h (RpL.adv A r)
  | _, _, .cell h => .cell (A.at_ h)
  | _, _, .exv h n m r => .exv (A.keep _ _ h n) (A.nin h n) m (RpF.adv A r)
theorem RpL.adv {H H' : Hp} {φ φ' : List Addr} (A : Adv H φ H' φ') : ∀ {v : List V} {d : List Da}, RpL K H φ χ v d → RpL K H' φ' χ v d
  | _, _, .nil => .nil
  | _, _, .cons h r => .cons (Rp.adv A h) (RpL.adv A r)
theorem RpK.adv {H H' : Hp} {φ φ' : List Addr} (A : Adv H φ H' φ') : ∀ {v : List (Key × V)} {d : List (Key × Da)}, RpK K H φ χ v d → RpK K H' φ' χ v d
  | _, _, .nil => .nil
  | _, _, .cons h r => .cons (Rp.adv A h) (RpK.adv A r)
theorem RpF.adv {H H' : Hp} {φ φ' : List Addr} (A : Adv H φ H' φ') : ∀ {v : List (Str × V)} {d : List (Str × Da)}, RpF K H φ χ v d → RpF K H' φ' χ v d
  | _, _, .nil => .nil
  | _, _, .cons h r => .cons (Rp.adv A h) (RpF.adv A r)
end
mutual
/-- addresses where nothing is may be hidden -/
theorem Rp.wide {H : Hp} {φ χ1 : List Addr} (e : ∀ a ∈ χ1, a ∈ χ ∨ H a = none) : ∀ {v : V} {d : Da}, Rp K H φ χ v d → Rp K H φ χ1 v d
  | _, _, .non => .non
  | _, _, .bl b => .bl b
  | _, _, .int i => .int i
  | _, _, .str h => .str h
  | _, _, .ty n => .ty n
  | _, _, .gl x => .gl x
  | _, _, .tup h n m r => .tup h n (fun q => (e _ q).elim m fun z => ne_of_none h z rfl) (RpL.wide e r)
  | _, _, .lst h n m r => .lst h n (fun q => (e _ q).elim m fun z => ne_of_none h z rfl) (RpL.wide e r)
  | _, _, .dct h c n m r => .dct h c n (fun q => (e _ q).elim m fun z => ne_of_none h z rfl) (RpK.wide e r)
  | _, _, .obj h n m r => .obj h n (fun q => (e _ q).elim m fun z => ne_of_none h z rfl) (RpF.wide e r)
  | _, _, .klR h q n m r => .klR h q n (fun q => (e _ q).elim m fun z => ne_of_none h z rfl) (RpL.wide e r)
  | _, _, .klK h r => .klK h (RpL.wide e r)
  | _, _, .ktK h r => .ktK h (RpL.wide e r)
  | _, _, .cell h => .cell h
  | _, _, .exv h n m r => .exv h n (fun q => (e _ q).elim m fun z => ne_of_none h z rfl) (RpF.wide e r)
theorem RpL.wide {H : Hp} {φ χ1 : List Addr} (e : ∀ a ∈ χ1, a ∈ χ ∨ H a = none) : ∀ {v : List V} {d : List Da}, RpL K H φ χ v d → RpL K H φ χ1 v d
  | _, _, .nil => .nil
  | _, _, .cons h r => .cons (Rp.wide e h) (RpL.wide e r)
theorem RpK.wide {H : Hp} {φ χ1 : List Addr} (e : ∀ a ∈ χ1, a ∈ χ ∨ H a = none) : ∀ {v : List (Key × V)} {d : List (Key × Da)}, RpK K H φ χ v d → RpK K H φ χ1 v d
  | _, _, .nil => .nil
  | _, _, .cons h r => .cons (Rp.wide e h) (RpK.wide e r)
theorem RpF.wide {H : Hp} {φ χ1 : List Addr} (e : ∀ a ∈ χ1, a ∈ χ ∨ H a = none) : ∀ {v : List (Str × V)} {d : List (Str × Da)}, RpF K H φ χ v d → RpF K H φ χ1 v d
  | _, _, .nil => .nil
  | _, _, .cons h r => .cons (Rp.wide e h) (RpF.wide e r)
end
theorem hidden {H : Hp} {D : Addr} (e : H D = none) : ∀ a ∈ D :: χ, a ∈ χ ∨ H a = none := fun a m => (List.mem_cons.1 m).elim (fun z => .inr (by rw [z]; exact e)) .inl
theorem Rp.hide {H : Hp} {φ : List Addr} {D : Addr} (e : H D = none) {v : V} {d : Da} (h : Rp K H φ χ v d) : Rp K H φ (D :: χ) v d := h.wide (hidden e)
theorem RpL.hide {H : Hp} {φ : List Addr} {D : Addr} (e : H D = none) {v : List V} {d : List Da} (h : RpL K H φ χ v d) : RpL K H φ (D :: χ) v d := h.wide (hidden e)
theorem RpK.hide {H : Hp} {φ : List Addr} {D : Addr} (e : H D = none) {v : List (Key × V)} {d : List (Key × Da)} (h : RpK K H φ χ v d) : RpK K H φ (D :: χ) v d := h.wide (hidden e)
theorem RpF.hide {H : Hp} {φ : List Addr} {D : Addr} (e : H D = none) {v : List (Str × V)} {d : List (Str × Da)} (h : RpF K H φ χ v d) : RpF K H φ (D :: χ) v d := h.wide (hidden e)
mutual
theorem Rp.bare {H : Hp} {φ : List Addr} {D : Addr} : ∀ {v : V} {d : Da}, Rp K H φ (D :: χ) v d → Rp K H φ χ v d
  | _, _, .non => .non
  | _, _, .bl b => .bl b
  | _, _, .int i => .int i
  | _, _, .str h => .str h
  | _, _, .ty n => .ty n
  | _, _, .gl x => .gl x
  | _, _, .tup h n m r => .tup h n (fun q => m (List.mem_cons_of_mem _ q)) (RpL.bare r)
  | _, _, .lst h n m r => .lst h n (fun q => m (List.mem_cons_of_mem _ q)) (RpL.bare r)
  | _, _, .dct h c n m r => .dct h c n (fun q => m (List.mem_cons_of_mem _ q)) (RpK.bare r)
  | _, _, .obj h n m r => .obj h n (fun q => m (List.mem_cons_of_mem _ q)) (RpF.bare r)
  | _, _, .klR h q n m r => .klR h q n (fun q => m (List.mem_cons_of_mem _ q)) (RpL.bare r)
  | _, _, .klK h r => .klK h (RpL.bare r)
  | _, _, .ktK h r => .ktK h (RpL.bare r)
  | _, _, .cell h => .cell h
  | _, _, .exv h n m r => .exv h n (fun q => m (List.mem_cons_of_mem _ q)) (RpF.bare r)
theorem RpL.bare {H : Hp} {φ : List Addr} {D : Addr} : ∀ {v : List V} {d : List Da}, RpL K H φ (D :: χ) v d → RpL K H φ χ v d
  | _, _, .nil => .nil
  | _, _, .cons h r => .cons (Rp.bare h) (RpL.bare r)
theorem RpK.bare {H : Hp} {φ : List Addr} {D : Addr} : ∀ {v : List (Key × V)} {d : List (Key × Da)}, RpK K H φ (D :: χ) v d → RpK K H φ χ v d
  | _, _, .nil => .nil
  | _, _, .cons h r => .cons (Rp.bare h) (RpK.bare r)
theorem RpF.bare {H : Hp} {φ : List Addr} {D : Addr} : ∀ {v : List (Str × V)} {d : List (Str × Da)}, RpF K H φ (D :: χ) v d → RpF K H φ χ v d
  | _, _, .nil => .nil
  | _, _, .cons h r => .cons (Rp.bare h) (RpF.bare r)
end
mutual
/-- a change at a hidden address -/
theorem Rp.at_ {H : Hp} {φ : List Addr} {D : Addr} {o : HO} (e : D ∈ χ) : ∀ {v : V} {d : Da}, Rp K H φ χ v d → Rp K (upd H D o) φ χ v d
  | _, _, .non => .non
  | _, _, .bl b => .bl b
  | _, _, .int i => .int i
  | _, _, .str h => .str h
  | _, _, .ty n => .ty n
  | _, _, .gl x => .gl x
  | _, _, .tup h n m r => .tup (by rw [upd_ni e m]; exact h) n m (RpL.at_ e r)
  | _, _, .lst h n m r => .lst (by rw [upd_ni e m]; exact h) n m (RpL.at_ e r)
  | _, _, .dct h c n m r => .dct (by rw [upd_ni e m]; exact h) c n m (RpK.at_ e r)
  | _, _, .obj h n m r => .obj (by rw [upd_ni e m]; exact h) n m (RpF.at_ e r)
  | _, _, .klR h q n m r => .klR (by rw [upd_ni e m]; exact h) q n m (RpL.at_ e r)
  | _, _, .klK h r => .klK h (RpL.at_ e r)
  | _, _, .ktK h r => .ktK h (RpL.at_ e r)
  | _, _, .cell h => .cell h
  | _, _, .exv h n m r => .exv (by rw [upd_ni e m]; exact h) n m (RpF.at_ e r)
theorem RpL.at_ {H : Hp} {φ : List Addr} {D : Addr} {o : HO} (e : D ∈ χ) : ∀ {v : List V} {d : List Da}, RpL K H φ χ v d → RpL K (upd H D o) φ χ v d
  | _, _, .nil => .nil
  | _, _, .cons h r => .cons (Rp.at_ e h) (RpL.at_ e r)
theorem RpK.at_ {H : Hp} {φ : List Addr} {D : Addr} {o : HO} (e : D ∈ χ) : ∀ {v : List (Key × V)} {d : List (Key × Da)}, RpK K H φ χ v d → RpK K (upd H D o) φ χ v d
  | _, _, .nil => .nil
  | _, _, .cons h r => .cons (Rp.at_ e h) (RpK.at_ e r)
theorem RpF.at_ {H : Hp} {φ : List Addr} {D : Addr} {o : HO} (e : D ∈ χ) : ∀ {v : List (Str × V)} {d : List (Str × Da)}, RpF K H φ χ v d → RpF K (upd H D o) φ χ v d
  | _, _, .nil => .nil
  | _, _, .cons h r => .cons (Rp.at_ e h) (RpF.at_ e r)
end
end
mutual
def cloD (n : Nat) : Da → Bool
  | .tup ds => cloL n ds
  | .lst ds => cloL n ds
  | .kl ds => cloL n ds
  | .kt ds => cloL n ds
  | .dct kds => cloK n kds
  | .obj _ fds => cloF n fds
  | .exv _ _ _ fds => cloF n fds
  | .cell m => decide (m < n)
  | .non => true
  | .bl _ => true
  | .int _ => true
  | .str _ => true
  | .ty _ => true
  | .gl _ => true
def cloL (n : Nat) : List Da → Bool
  | [] => true
  | d :: ds => cloD n d && cloL n ds
def cloK (n : Nat) : List (Key × Da) → Bool
  | [] => true
  | (_, d) :: ds => cloD n d && cloK n ds
def cloF (n : Nat) : List (Str × Da) → Bool
  | [] => true
  | (_, d) :: ds => cloD n d && cloF n ds
end
section
variable {K : PySem.W.Frag} {χ : List Addr} {H : Hp}
theorem take_at {α : Type} {l : List α} {n i : Nat} {a : α} (h : l[i]? = some a) (lt : i < n) : (l.take n)[i]? = some a := by
  rw [List.getElem?_take]
  simp [lt, h]
theorem nin_take {α : Type} {l : List α} {n : Nat} {a : α} (h : a ∉ l) : a ∉ l.take n := fun m => h (List.mem_of_mem_take m)
mutual
theorem Rp.cut {φ : List Addr} {n : Nat} : ∀ {v : V} {d : Da}, Rp K H φ χ v d → cloD n d = true → Rp K H (φ.take n) χ v d
  | _, _, .non, _ => .non
  | _, _, .bl b, _ => .bl b
  | _, _, .int i, _ => .int i
  | _, _, .str h, _ => .str h
  | _, _, .ty n, _ => .ty n
  | _, _, .gl x, _ => .gl x
  | _, _, .tup h a m r, c => .tup h (nin_take a) m (RpL.cut r (by unfold cloD at c; exact c))
  | _, _, .lst h a m r, c => .lst h (nin_take a) m (RpL.cut r (by unfold cloD at c; exact c))
  | _, _, .dct h q a m r, c => .dct h q (nin_take a) m (RpK.cut r (by unfold cloD at c; exact c))
  | _, _, .obj h a m r, c => .obj h (nin_take a) m (RpF.cut r (by unfold cloD at c; exact c))
  | _, _, .klR h q a m r, c => .klR h q (nin_take a) m (RpL.cut r (by unfold cloD at c; exact c))
  | _, _, .klK h r, c => .klK h (RpL.cut r (by unfold cloD at c; exact c))
  | _, _, .ktK h r, c => .ktK h (RpL.cut r (by unfold cloD at c; exact c))
  | _, _, .cell h, c => .cell (take_at h (by unfold cloD at c; exact of_decide_eq_true c))
  | _, _, .exv h a m r, c => .exv h (nin_take a) m (RpF.cut r (by unfold cloD at c; exact c))
theorem RpL.cut {φ : List Addr} {n : Nat} : ∀ {v : List V} {d : List Da}, RpL K H φ χ v d → cloL n d = true → RpL K H (φ.take n) χ v d
  | _, _, .nil, _ => .nil
  | _, _, .cons h r, c => by
    unfold cloL at c
    rw [Bool.and_eq_true] at c
    exact .cons (Rp.cut h c.1) (RpL.cut r c.2)
theorem RpK.cut {φ : List Addr} {n : Nat} : ∀ {v : List (Key × V)} {d : List (Key × Da)}, RpK K H φ χ v d → cloK n d = true → RpK K H (φ.take n) χ v d
  | _, _, .nil, _ => .nil
  | _, _, .cons h r, c => by
    unfold cloK at c
    rw [Bool.and_eq_true] at c
    exact .cons (Rp.cut h c.1) (RpK.cut r c.2)
theorem RpF.cut {φ : List Addr} {n : Nat} : ∀ {v : List (Str × V)} {d : List (Str × Da)}, RpF K H φ χ v d → cloF n d = true → RpF K H (φ.take n) χ v d
  | _, _, .nil, _ => .nil
  | _, _, .cons h r, c => by
    unfold cloF at c
    rw [Bool.and_eq_true] at c
    exact .cons (Rp.cut h c.1) (RpF.cut r c.2)
end
mutual
theorem Rp.clo {φ : List Addr} {n : Nat} (l : φ.length ≤ n) : ∀ {v : V} {d : Da}, Rp K H φ χ v d → cloD n d = true
  | _, _, .non => rfl
  | _, _, .bl b => rfl
  | _, _, .int i => rfl
  | _, _, .str h => rfl
  | _, _, .ty n => rfl
  | _, _, .gl x => rfl
  | _, _, .tup h a m r => by unfold cloD; exact RpL.clo l r
  | _, _, .lst h a m r => by unfold cloD; exact RpL.clo l r
  | _, _, .dct h q a m r => by unfold cloD; exact RpK.clo l r
  | _, _, .obj h a m r => by unfold cloD; exact RpF.clo l r
  | _, _, .klR h q a m r => by unfold cloD; exact RpL.clo l r
  | _, _, .klK h r => by unfold cloD; exact RpL.clo l r
  | _, _, .ktK h r => by unfold cloD; exact RpL.clo l r
  | _, _, .cell h => by
    unfold cloD
    exact decide_eq_true (Nat.lt_of_lt_of_le (List.getElem?_eq_some_iff.1 h).1 l)
  | _, _, .exv h a m r => by unfold cloD; exact RpF.clo l r
theorem RpL.clo {φ : List Addr} {n : Nat} (l : φ.length ≤ n) : ∀ {v : List V} {d : List Da}, RpL K H φ χ v d → cloL n d = true
  | _, _, .nil => rfl
  | _, _, .cons h r => by unfold cloL; rw [Rp.clo l h, RpL.clo l r]; rfl
theorem RpK.clo {φ : List Addr} {n : Nat} (l : φ.length ≤ n) : ∀ {v : List (Key × V)} {d : List (Key × Da)}, RpK K H φ χ v d → cloK n d = true
  | _, _, .nil => rfl
  | _, _, .cons h r => by unfold cloK; rw [Rp.clo l h, RpK.clo l r]; rfl
theorem RpF.clo {φ : List Addr} {n : Nat} (l : φ.length ≤ n) : ∀ {v : List (Str × V)} {d : List (Str × Da)}, RpF K H φ χ v d → cloF n d = true
  | _, _, .nil => rfl
  | _, _, .cons h r => by unfold cloF; rw [Rp.clo l h, RpF.clo l r]; rfl
end
theorem RpL.len {φ : List Addr} : ∀ {vs : List V} {ds : List Da}, RpL K H φ χ vs ds → vs.length = ds.length
  | _, _, .nil => rfl
  | _, _, .cons _ r => by rw [List.length_cons, List.length_cons, r.len]
theorem RpL.app {φ : List Addr} : ∀ {vs : List V} {ds : List Da} {ws : List V} {es : List Da}, RpL K H φ χ vs ds → RpL K H φ χ ws es → RpL K H φ χ (vs ++ ws) (ds ++ es)
  | _, _, _, _, .nil, r => r
  | _, _, _, _, .cons h l, r => .cons h (l.app r)
theorem RpL.get {φ : List Addr} : ∀ {vs : List V} {ds : List Da} {i : Nat} {d : Da}, RpL K H φ χ vs ds → ds[i]? = some d → ∃ v, vs[i]? = some v ∧ Rp K H φ χ v d
  | _, _, _, _, .nil, e => by simp at e
  | _, _, 0, _, .cons h _, e => by
    simp only [List.getElem?_cons_zero, Option.some.injEq] at e
    subst e
    exact ⟨_, rfl, h⟩
  | _, _, i + 1, _, .cons _ r, e => by
    obtain ⟨v, h1, h2⟩ := r.get (i := i) (by simpa using e)
    exact ⟨v, by simpa using h1, h2⟩
theorem RpL.get' {φ : List Addr} : ∀ {vs : List V} {ds : List Da} {i : Nat} {v : V}, RpL K H φ χ vs ds → vs[i]? = some v → ∃ d, ds[i]? = some d ∧ Rp K H φ χ v d
  | _, _, _, _, .nil, e => by simp at e
  | _, _, 0, _, .cons h _, e => by
    simp only [List.getElem?_cons_zero, Option.some.injEq] at e
    subst e
    exact ⟨_, rfl, h⟩
  | _, _, i + 1, _, .cons _ r, e => by
    obtain ⟨v, h1, h2⟩ := r.get' (i := i) (by simpa using e)
    exact ⟨v, by simpa using h1, h2⟩
theorem RpL.take {φ : List Addr} : ∀ {vs : List V} {ds : List Da} (n : Nat), RpL K H φ χ vs ds → RpL K H φ χ (vs.take n) (ds.take n)
  | _, _, 0, _ => .nil
  | _, _, _ + 1, .nil => .nil
  | _, _, n + 1, .cons h r => .cons h (r.take n)
theorem RpL.drop {φ : List Addr} : ∀ {vs : List V} {ds : List Da} (n : Nat), RpL K H φ χ vs ds → RpL K H φ χ (vs.drop n) (ds.drop n)
  | _, _, 0, r => r
  | _, _, _ + 1, .nil => .nil
  | _, _, n + 1, .cons _ r => r.drop n
theorem RpL.set {φ : List Addr} {v : V} {d : Da} (h : Rp K H φ χ v d) : ∀ {vs : List V} {ds : List Da} (i : Nat), RpL K H φ χ vs ds → RpL K H φ χ (vs.set i v) (ds.set i d)
  | _, _, _, .nil => .nil
  | _, _, 0, .cons _ r => .cons h r
  | _, _, i + 1, .cons q r => .cons q (RpL.set h i r)
theorem RpL.erase {φ : List Addr} : ∀ {vs : List V} {ds : List Da} (i : Nat), RpL K H φ χ vs ds → RpL K H φ χ (vs.eraseIdx i) (ds.eraseIdx i)
  | _, _, _, .nil => .nil
  | _, _, 0, .cons _ r => r
  | _, _, i + 1, .cons q r => .cons q (RpL.erase i r)
theorem RpL.mem {φ : List Addr} : ∀ {vs : List V} {ds : List Da}, RpL K H φ χ vs ds → ∀ v ∈ vs, ∃ d ∈ ds, Rp K H φ χ v d
  | _, _, .nil => fun v hv => by cases hv
  | _, _, .cons h r => fun v hv => by
    rcases List.mem_cons.mp hv with rfl | hv
    · exact ⟨_, List.mem_cons_self .., h⟩
    · obtain ⟨t, ht, q⟩ := r.mem v hv
      exact ⟨t, List.mem_cons_of_mem _ ht, q⟩
theorem RpK.len {φ : List Addr} : ∀ {vs : List (Key × V)} {ds : List (Key × Da)}, RpK K H φ χ vs ds → vs.length = ds.length
  | _, _, .nil => rfl
  | _, _, .cons _ r => by rw [List.length_cons, List.length_cons, r.len]
end
def CellAt (K : PySem.W.Frag) (H : Hp) (φ χ : List Addr) (a : Addr) : Da → Prop
  | .lst ds => ∃ vs, H a = some (.lst vs) ∧ RpL K H φ χ vs ds
  | .dct kds => ∃ kvs, H a = some (.dK kvs) ∧ RpK K H φ χ kvs kds
  | .obj c fds => ∃ dx fs, H a = some (.ins (He.ga K c) dx fs) ∧ RpF K H φ χ fs fds
  | .gl _ => H a ≠ none
  | _ => False
structure Mm (K : PySem.W.Frag) (H : Hp) (φ χ : List Addr) (M : Mem) : Prop where
  nd : φ.Nodup
  len : φ.length = M.length
  dis : ∀ a ∈ φ, a ∉ χ
  hid : ∀ a ∈ χ, H a ≠ none
  at_ : ∀ (n : Nat) (a : Addr) (d : Da), φ[n]? = some a → M[n]? = some d → CellAt K H φ χ a d
/-- the slots -/
structure Rs (K : PySem.W.Frag) (H : Hp) (φ χ : List Addr) (σ : L2.St) (ρ : Sl) : Prop where
  len : σ.length = ρ.length
  at_ : ∀ (i : Nat) (d : Da), ρ[i]? = some (some d) → ∃ v, σ[i]? = some (some v) ∧ Rp K H φ χ v d
section
variable {K : PySem.W.Frag} {χ φ : List Addr} {H : Hp} {M : Mem}
theorem upd_some {H : Hp} {p a : Addr} {o : HO} (e : H a ≠ none) : upd H p o a ≠ none := by
  by_cases q : a = p
  · rw [q, upd_same]; simp
  · rw [upd_ne q]; exact e
theorem CellAt.in_ {a : Addr} {d : Da} (h : CellAt K H φ χ a d) : H a ≠ none := by
  cases d with
  | lst ds => obtain ⟨_, e, _⟩ := h; rw [e]; simp
  | dct ds => obtain ⟨_, e, _⟩ := h; rw [e]; simp
  | obj c ds => obtain ⟨_, _, e, _⟩ := h; rw [e]; simp
  | gl x => exact h
  | _ => exact h.elim
theorem Mm.has (m : Mm K H φ χ M) {n : Nat} {a : Addr} (h : φ[n]? = some a) : ∃ d, M[n]? = some d ∧ CellAt K H φ χ a d := by
  have l := (List.getElem?_eq_some_iff.1 h).1
  have l2 : n < M.length := by rw [← m.len]; exact l
  exact ⟨M[n], by simp [l2], m.at_ n a _ h (by simp [l2])⟩
theorem Mm.has' (m : Mm K H φ χ M) {n : Nat} {d : Da} (h : M[n]? = some d) : ∃ a, φ[n]? = some a ∧ CellAt K H φ χ a d := by
  have l := (List.getElem?_eq_some_iff.1 h).1
  have l2 : n < φ.length := by rw [m.len]; exact l
  exact ⟨φ[n], by simp [l2], m.at_ n _ d (by simp [l2]) h⟩
theorem Mm.dom (m : Mm K H φ χ M) {a : Addr} (h : a ∈ φ) : H a ≠ none := by
  obtain ⟨n, l, e⟩ := List.getElem_of_mem h
  obtain ⟨d, _, c⟩ := m.has (n := n) (a := a) (by rw [List.getElem?_eq_getElem l, e])
  exact c.in_
theorem CellAt.adv {H' : Hp} {φ' : List Addr} {a : Addr} {d : Da} (A : Adv H φ H' φ') (e : H' a = H a) (h : CellAt K H φ χ a d) : CellAt K H' φ' χ a d := by
  cases d with
  | lst ds => obtain ⟨vs, q, r⟩ := h; exact ⟨vs, e.trans q, r.adv A⟩
  | dct ds => obtain ⟨vs, q, r⟩ := h; exact ⟨vs, e.trans q, r.adv A⟩
  | obj c ds => obtain ⟨dx, vs, q, r⟩ := h; exact ⟨dx, vs, e.trans q, r.adv A⟩
  | gl x => show H' a ≠ none; rw [e]; exact h
  | _ => exact h.elim
theorem Mm.new {p : Addr} {o : HO} (m : Mm K H φ χ M) (h : H p = none) : Mm K (upd H p o) φ χ M where
  nd := m.nd
  len := m.len
  dis := m.dis
  hid := fun a ha => upd_some (m.hid a ha)
  at_ := fun n a d e1 e2 => (m.at_ n a d e1 e2).adv (Adv.new h) (upd_ne fun q => m.dom (List.mem_of_getElem? e1) (by rw [q]; exact h))
theorem Mm.mut {n : Nat} {a : Addr} {o : HO} {d : Da} (m : Mm K H φ χ M) (h : φ[n]? = some a) (c : CellAt K (upd H a o) φ χ a d) : Mm K (upd H a o) φ χ (M.set n d) where
  nd := m.nd
  len := by rw [List.length_set]; exact m.len
  dis := m.dis
  hid := fun a ha => upd_some (m.hid a ha)
  at_ := fun k b e e1 e2 => by
    by_cases q : k = n
    · rw [q] at e1 e2
      have l : n < M.length := by rw [← m.len]; exact (List.getElem?_eq_some_iff.1 h).1
      rw [List.getElem?_set_self l] at e2
      cases e2
      rw [h] at e1
      cases e1
      exact c
    · rw [List.getElem?_set_ne (Ne.symm q)] at e2
      refine (m.at_ k b e e1 e2).adv (Adv.mut (List.mem_of_getElem? h)) (upd_ne fun z => q ?_)
      subst z
      have l1 := List.getElem?_eq_some_iff.1 e1
      exact (List.getElem?_inj l1.1 m.nd).1 (e1.trans h.symm)
theorem Mm.hideN {D : Addr} {o : HO} (m : Mm K H φ χ M) (h : H D = none) : Mm K (upd H D o) φ (D :: χ) M where
  nd := m.nd
  len := m.len
  dis := fun a ha => nmc ⟨fun q => m.dom ha (by rw [q]; exact h), m.dis a ha⟩
  hid := fun a ha => by
    rcases List.mem_cons.1 ha with rfl | ha
    · rw [upd_same]; simp
    · exact upd_some (m.hid a ha)
  at_ := fun n a d e1 e2 => by
    have c := m.at_ n a d e1 e2
    have ne : a ≠ D := fun q => m.dom (List.mem_of_getElem? e1) (by rw [q]; exact h)
    have hD : D ∈ D :: χ := List.mem_cons_self ..
    cases d with
    | lst ds => obtain ⟨vs, q, r⟩ := c; exact ⟨vs, by rw [upd_ne ne]; exact q, (r.hide h).at_ hD⟩
    | dct ds => obtain ⟨vs, q, r⟩ := c; exact ⟨vs, by rw [upd_ne ne]; exact q, (r.hide h).at_ hD⟩
    | obj c ds => obtain ⟨dx, vs, q, r⟩ := c; exact ⟨dx, vs, by rw [upd_ne ne]; exact q, (r.hide h).at_ hD⟩
    | gl x => show upd H D o a ≠ none; rw [upd_ne ne]; exact c
    | _ => exact c.elim
theorem Mm.bare {D : Addr} (m : Mm K H φ (D :: χ) M) : Mm K H φ χ M where
  nd := m.nd
  len := m.len
  dis := fun a ha => fun q => m.dis a ha (List.mem_cons_of_mem _ q)
  hid := fun a ha => m.hid a (List.mem_cons_of_mem _ ha)
  at_ := fun n a d e1 e2 => by
    have c := m.at_ n a d e1 e2
    cases d with
    | lst ds => obtain ⟨vs, q, r⟩ := c; exact ⟨vs, q, r.bare⟩
    | dct ds => obtain ⟨vs, q, r⟩ := c; exact ⟨vs, q, r.bare⟩
    | obj c ds => obtain ⟨dx, vs, q, r⟩ := c; exact ⟨dx, vs, q, r.bare⟩
    | gl x => exact c
    | _ => exact c.elim
theorem Mm.updH {D : Addr} {o : HO} (m : Mm K H φ χ M) (h : D ∈ χ) : Mm K (upd H D o) φ χ M where
  nd := m.nd
  len := m.len
  dis := m.dis
  hid := fun a ha => upd_some (m.hid a ha)
  at_ := fun n a d e1 e2 => by
    have c := m.at_ n a d e1 e2
    have ne : a ≠ D := fun q => m.dis a (List.mem_of_getElem? e1) (by rw [q]; exact h)
    cases d with
    | lst ds => obtain ⟨vs, q, r⟩ := c; exact ⟨vs, by rw [upd_ne ne]; exact q, r.at_ h⟩
    | dct ds => obtain ⟨vs, q, r⟩ := c; exact ⟨vs, by rw [upd_ne ne]; exact q, r.at_ h⟩
    | obj c ds => obtain ⟨dx, vs, q, r⟩ := c; exact ⟨dx, vs, by rw [upd_ne ne]; exact q, r.at_ h⟩
    | gl x => show upd H D o a ≠ none; rw [upd_ne ne]; exact c
    | _ => exact c.elim
theorem Mm.cut {n : Nat} (m : Mm K H φ χ M) (c : cloL n (M.take n) = true) : Mm K H (φ.take n) χ (M.take n) where
  nd := m.nd.sublist (List.take_sublist _ _)
  len := by rw [List.length_take, List.length_take, m.len]
  dis := fun a ha => m.dis a (List.mem_of_mem_take ha)
  hid := m.hid
  at_ := fun k a d e1 e2 => by
    have all : ∀ {l : List Da} {k : Nat} {d : Da}, cloL n l = true → l[k]? = some d → cloD n d = true := by
      intro l
      induction l with
      | nil => intro k d _ e; simp at e
      | cons x xs ih =>
        intro k d c e
        unfold cloL at c
        rw [Bool.and_eq_true] at c
        cases k with
        | zero => simp at e; rw [← e]; exact c.1
        | succ k => exact ih c.2 (by simpa using e)
    have cd := all c e2
    have e1' : φ[k]? = some a := by
      rw [List.getElem?_take] at e1
      split at e1
      · exact e1
      · cases e1
    have e2' : M[k]? = some d := by
      rw [List.getElem?_take] at e2
      split at e2
      · exact e2
      · cases e2
    have q := m.at_ k a d e1' e2'
    cases d with
    | lst ds => obtain ⟨vs, q, r⟩ := q; exact ⟨vs, q, r.cut (by unfold cloD at cd; exact cd)⟩
    | dct ds => obtain ⟨vs, q, r⟩ := q; exact ⟨vs, q, r.cut (by unfold cloD at cd; exact cd)⟩
    | obj c ds => obtain ⟨dx, vs, q, r⟩ := q; exact ⟨dx, vs, q, r.cut (by unfold cloD at cd; exact cd)⟩
    | gl x => exact q
    | _ => exact q.elim
theorem Mm.clo (m : Mm K H φ χ M) : cloL M.length M = true := by
  have all : ∀ (l : List Da), (∀ d ∈ l, cloD M.length d = true) → cloL M.length l = true := by
    intro l
    induction l with
    | nil => intro _; rfl
    | cons x xs ih =>
      intro h
      unfold cloL
      rw [h x (List.mem_cons_self ..), ih fun d hd => h d (List.mem_cons_of_mem _ hd)]
      rfl
  refine all M fun d hd => ?_
  obtain ⟨n, l, e⟩ := List.getElem_of_mem hd
  obtain ⟨a, _, c⟩ := m.has' (n := n) (d := d) (by rw [List.getElem?_eq_getElem l, e])
  have le : φ.length ≤ M.length := Nat.le_of_eq m.len
  cases d with
  | lst ds => obtain ⟨vs, _, r⟩ := c; unfold cloD; exact r.clo le
  | dct ds => obtain ⟨vs, _, r⟩ := c; unfold cloD; exact r.clo le
  | obj c ds => obtain ⟨dx, vs, _, r⟩ := c; unfold cloD; exact r.clo le
  | gl x => rfl
  | _ => exact c.elim
variable {σ : L2.St} {ρ : Sl}
theorem Rs.adv {H' : Hp} {φ' : List Addr} (A : Adv H φ H' φ') (r : Rs K H φ χ σ ρ) : Rs K H' φ' χ σ ρ := ⟨r.len, fun i d e => by
  obtain ⟨v, h, q⟩ := r.at_ i d e
  exact ⟨v, h, q.adv A⟩⟩
theorem Rs.set {i : Nat} {v : V} {d : Da} (r : Rs K H φ χ σ ρ) (h : Rp K H φ χ v d) : Rs K H φ χ (σ.set i (some v)) (ρ.set i (some d)) := ⟨by rw [List.length_set, List.length_set]; exact r.len, fun k e q => by
  by_cases z : k = i
  · subst z
    have l : k < ρ.length := by
      have := (List.getElem?_eq_some_iff.1 q).1
      rwa [List.length_set] at this
    rw [List.getElem?_set_self l] at q
    cases q
    exact ⟨v, List.getElem?_set_self (by rw [r.len]; exact l), h⟩
  · rw [List.getElem?_set_ne (Ne.symm z)] at q
    rw [List.getElem?_set_ne (Ne.symm z)]
    exact r.at_ k e q⟩
theorem Rs.gone {i : Nat} (r : Rs K H φ χ σ ρ) : Rs K H φ χ (σ.set i none) (ρ.set i none) := ⟨by rw [List.length_set, List.length_set]; exact r.len, fun k e q => by
  by_cases z : k = i
  · subst z
    have l : k < ρ.length := by
      have := (List.getElem?_eq_some_iff.1 q).1
      rwa [List.length_set] at this
    rw [List.getElem?_set_self l] at q
    cases q
  · rw [List.getElem?_set_ne (Ne.symm z)] at q
    rw [List.getElem?_set_ne (Ne.symm z)]
    exact r.at_ k e q⟩
theorem Rs.hideN {D : Addr} {o : HO} (r : Rs K H φ χ σ ρ) (h : H D = none) : Rs K (upd H D o) φ (D :: χ) σ ρ := ⟨r.len, fun i d e => by
  obtain ⟨v, q, p⟩ := r.at_ i d e
  exact ⟨v, q, (p.hide h).at_ (List.mem_cons_self ..)⟩⟩
theorem Rs.bare {D : Addr} (r : Rs K H φ (D :: χ) σ ρ) : Rs K H φ χ σ ρ := ⟨r.len, fun i d e => by
  obtain ⟨v, q, p⟩ := r.at_ i d e
  exact ⟨v, q, p.bare⟩⟩
theorem Rs.updH {D : Addr} {o : HO} (r : Rs K H φ χ σ ρ) (h : D ∈ χ) : Rs K (upd H D o) φ χ σ ρ := ⟨r.len, fun i d e => by
  obtain ⟨v, q, p⟩ := r.at_ i d e
  exact ⟨v, q, p.at_ h⟩⟩
/-- slots whose data have cells below n alone; the others are forgotten -/
def slClo (n : Nat) (ρ ρ' : Sl) : Prop := ρ'.length = ρ.length ∧ ∀ (i : Nat) (d : Da), ρ'[i]? = some (some d) → ρ[i]? = some (some d) ∧ cloD n d = true
theorem Rs.cut {n : Nat} {ρ' : Sl} (r : Rs K H φ χ σ ρ) (c : slClo n ρ ρ') : Rs K H (φ.take n) χ σ ρ' := ⟨by rw [c.1]; exact r.len, fun i d e => by
  obtain ⟨h, q⟩ := c.2 i d e
  obtain ⟨v, h2, p⟩ := r.at_ i d h
  exact ⟨v, h2, p.cut q⟩⟩
end
end Z
namespace Z
open PySem PySem.Spec PyProof.Rows L2 Evl
abbrev TK := Da → Mem → Prop
abbrev WD := Str → List (Str × Da) → Sl → Mem → Prop
abbrev ME := Sl → Mem → TK → Prop
abbrev MA := Sl → Mem → (List Da → Mem → Prop) → Prop
abbrev MT := Sl → Mem → (Bool → Mem → Prop) → Prop
abbrev MO := Da → Da → Mem → TK → Prop
structure En where
  nx : Sl → Mem → Prop
  rt : TK
  bk : Sl → Mem → Prop := fun _ _ => False
  ct : Sl → Mem → Prop := fun _ _ => False
abbrev MS := En → Sl → Mem → Prop
abbrev MG := Da → Sl → Mem → (Sl → Mem → Prop) → Prop
abbrev MGs := List Da → Sl → Mem → (Sl → Mem → Prop) → Prop
def look (M : Mem) : Da → Da
  | .cell n => M.getD n (.gl "")
  | .kl ds => .lst ds
  | .kt ds => .tup ds
  | d => d
def lookE (M : Mem) : Da → Da
  | .cell n => M.getD n (.gl "")
  | .kl _ => .gl ""
  | .kt _ => .gl ""
  | d => d
def FE (K : PySem.W.Frag) (χ : List Addr) (H : Hp) (φ : List Addr) (Q' : TK) (Q : VK) : Prop := ∀ v d H' φ' M', Adv H φ H' φ' → Mm K H' φ' χ M' → Rp K H' φ' χ v d → Q' d M' → Q v H'
def FA (K : PySem.W.Frag) (χ : List Addr) (H : Hp) (φ : List Addr) (Q' : List Da → Mem → Prop) (Q : List V → Hp → Prop) : Prop := ∀ v d H' φ' M', Adv H φ H' φ' → Mm K H' φ' χ M' → RpL K H' φ' χ v d → Q' d M' → Q v H'
def FT (K : PySem.W.Frag) (χ : List Addr) (H : Hp) (φ : List Addr) (Q' : Bool → Mem → Prop) (Q : Bool → Hp → Prop) : Prop := ∀ b H' φ' M', Adv H φ H' φ' → Mm K H' φ' χ M' → Q' b M' → Q b H'
def FN (K : PySem.W.Frag) (χ : List Addr) (H : Hp) (φ : List Addr) (Q' : Sl → Mem → Prop) (Q : L2.St → Hp → Prop) : Prop := ∀ σ' H' φ' ρ' M', Adv H φ H' φ' → Rs K H' φ' χ σ' ρ' → Mm K H' φ' χ M' → Q' ρ' M' → Q σ' H'
def FW (K : PySem.W.Frag) (χ : List Addr) (H : Hp) (φ : List Addr) (W' : WD) (W : WX) : Prop := ∀ c fs vfs dd σ' H' φ' ρ' M', Adv H φ H' φ' → Rs K H' φ' χ σ' ρ' → Mm K H' φ' χ M' → H' dd = some (.xd vfs) → dd ∉ φ' → dd ∉ χ → RpF K H' φ' χ vfs fs →
  W' c fs ρ' M' → W (.ref (He.ga K c)) (some dd) σ' H'
section
variable {K : PySem.W.Frag} {χ : List Addr} {H H1 : Hp} {φ φ1 : List Addr}
theorem FE.adv {Q' : TK} {Q : VK} (f : FE K χ H φ Q' Q) (A : Adv H φ H1 φ1) : FE K χ H1 φ1 Q' Q := fun v d H' φ' M' B => f v d H' φ' M' (A.trans B)
theorem FA.adv {Q' : List Da → Mem → Prop} {Q : List V → Hp → Prop} (f : FA K χ H φ Q' Q) (A : Adv H φ H1 φ1) : FA K χ H1 φ1 Q' Q := fun v d H' φ' M' B => f v d H' φ' M' (A.trans B)
theorem FT.adv {Q' : Bool → Mem → Prop} {Q : Bool → Hp → Prop} (f : FT K χ H φ Q' Q) (A : Adv H φ H1 φ1) : FT K χ H1 φ1 Q' Q := fun b H' φ' M' B => f b H' φ' M' (A.trans B)
theorem FN.adv {Q' : Sl → Mem → Prop} {Q : L2.St → Hp → Prop} (f : FN K χ H φ Q' Q) (A : Adv H φ H1 φ1) : FN K χ H1 φ1 Q' Q := fun σ' H' φ' ρ' M' B => f σ' H' φ' ρ' M' (A.trans B)
theorem FW.adv {W' : WD} {W : WX} (f : FW K χ H φ W' W) (A : Adv H φ H1 φ1) : FW K χ H1 φ1 W' W := fun c fs vfs dd σ' H' φ' ρ' M' B => f c fs vfs dd σ' H' φ' ρ' M' (A.trans B)
end
structure SE (K : PySem.W.Frag) (te : WX → TE) (me : WD → ME) : Prop where
  run : ∀ {χ W W' σ H φ ρ M Q Q'}, Rs K H φ χ σ ρ → Mm K H φ χ M → FW K χ H φ W' W → FE K χ H φ Q' Q → me W' ρ M Q' → te W σ H Q
structure SA (K : PySem.W.Frag) (te : WX → TA) (me : WD → MA) : Prop where
  run : ∀ {χ W W' σ H φ ρ M Q Q'}, Rs K H φ χ σ ρ → Mm K H φ χ M → FW K χ H φ W' W → FA K χ H φ Q' Q → me W' ρ M Q' → te W σ H Q
structure ST (K : PySem.W.Frag) (te : WX → TT) (me : WD → MT) : Prop where
  run : ∀ {χ W W' σ H φ ρ M Q Q'}, Rs K H φ χ σ ρ → Mm K H φ χ M → FW K χ H φ W' W → FT K χ H φ Q' Q → me W' ρ M Q' → te W σ H Q
structure SS (K : PySem.W.Frag) (ts : WX → TS) (ms : WD → MS) : Prop where
  run : ∀ {χ W W' σ H φ ρ M D D'}, Rs K H φ χ σ ρ → Mm K H φ χ M → FW K χ H φ W' W → FN K χ H φ D'.nx D.nx → FE K χ H φ D'.rt D.rt → FN K χ H φ D'.bk D.bk → FN K χ H φ D'.ct D.ct → ms W' D' ρ M → ts W D σ H
structure SG (K : PySem.W.Frag) (g : WX → TG) (mg : WD → MG) : Prop where
  run : ∀ {χ W W' σ H φ ρ M v d Q Q'}, Rs K H φ χ σ ρ → Mm K H φ χ M → FW K χ H φ W' W → Rp K H φ χ v d → FN K χ H φ Q' Q → mg W' d ρ M Q' → g W v σ H Q
structure SGs (K : PySem.W.Frag) (g : WX → TGs) (mg : WD → MGs) : Prop where
  run : ∀ {χ W W' σ H φ ρ M v d Q Q'}, Rs K H φ χ σ ρ → Mm K H φ χ M → FW K χ H φ W' W → RpL K H φ χ v d → FN K χ H φ Q' Q → mg W' d ρ M Q' → g W v σ H Q
/-- operators -/
def SO (K : PySem.W.Frag) (r : R2) (n : MO) : Prop := ∀ {χ H φ M x y dx dy Q Q'}, Mm K H φ χ M → Rp K H φ χ x dx → Rp K H φ χ y dy → FE K χ H φ Q' Q → n dx dy M Q' → r x y H Q
/-- calls of builtins -/
def SC (K : PySem.W.Frag) (r : List V → Hp → VK → Prop) (n : List Da → Mem → TK → Prop) : Prop := ∀ {χ H φ M x dx Q Q'}, Mm K H φ χ M → RpL K H φ χ x dx → FE K χ H φ Q' Q → n dx M Q' → r x H Q
section
variable {K : PySem.W.Frag} {χ φ : List Addr} {H : Hp} {M : Mem} {v : V} {d : Da}
theorem Mm.look (m : Mm K H φ χ M) {n : Nat} {a : Addr} (h : φ[n]? = some a) : ∃ d, M.getD n (.gl "") = d ∧ M[n]? = some d ∧ CellAt K H φ χ a d := by
  obtain ⟨d, e, c⟩ := m.has h
  exact ⟨d, by rw [List.getD_eq_getElem?_getD, e]; rfl, e, c⟩
theorem vL (m : Mm K H φ χ M) (h : Rp K H φ χ v d) {ds : List Da} (e : look M d = .lst ds) : ∃ a vs, v = .ref a ∧ SqL K H a vs ∧ RpL K H φ χ vs ds := by
  cases h with
  | lst h n m r => cases e; exact ⟨_, _, rfl, SqL.of h, r⟩
  | klR h q n m r =>
    cases e
    rcases q with rfl | ⟨ob, rfl⟩
    · exact ⟨_, _, rfl, SqL.of h, r⟩
    · exact ⟨_, _, rfl, .inl (.inr ⟨ob, h⟩), r⟩
  | klK h r => cases e; exact ⟨_, _, rfl, h H, r⟩
  | cell h =>
    obtain ⟨d, e1, _, c⟩ := m.look h
    have e2 : M.getD _ (.gl "") = Da.lst ds := e
    rw [e1] at e2
    subst e2
    obtain ⟨vs, q, r⟩ := c
    exact ⟨_, vs, rfl, SqL.of q, r⟩
  | _ => cases e
theorem vT (m : Mm K H φ χ M) (h : Rp K H φ χ v d) {ds : List Da} (e : look M d = .tup ds) : ∃ a vs, v = .ref a ∧ SqT K H a vs ∧ RpL K H φ χ vs ds := by
  cases h with
  | tup h n m r => cases e; exact ⟨_, _, rfl, SqT.of h, r⟩
  | ktK h r => cases e; exact ⟨_, _, rfl, h H, r⟩
  | cell h =>
    obtain ⟨d, e1, _, c⟩ := m.look h
    have e2 : M.getD _ (.gl "") = Da.tup ds := e
    rw [e1] at e2
    subst e2
    exact c.elim
  | _ => cases e
theorem vLE (m : Mm K H φ χ M) (h : Rp K H φ χ v d) {ds : List Da} (e : lookE M d = .lst ds) : ∃ a vs, v = .ref a ∧ H a = some (.lst vs) ∧ RpL K H φ χ vs ds := by
  cases h with
  | lst h n m r => cases e; exact ⟨_, _, rfl, h, r⟩
  | cell h =>
    obtain ⟨d, e1, _, c⟩ := m.look h
    have e2 : M.getD _ (.gl "") = Da.lst ds := e
    rw [e1] at e2
    subst e2
    obtain ⟨vs, q, r⟩ := c
    exact ⟨_, vs, rfl, q, r⟩
  | _ => cases e
theorem vTE (m : Mm K H φ χ M) (h : Rp K H φ χ v d) {ds : List Da} (e : lookE M d = .tup ds) : ∃ a vs, v = .ref a ∧ H a = some (.tup vs) ∧ RpL K H φ χ vs ds := by
  cases h with
  | tup h n m r => cases e; exact ⟨_, _, rfl, h, r⟩
  | cell h =>
    obtain ⟨d, e1, _, c⟩ := m.look h
    have e2 : M.getD _ (.gl "") = Da.tup ds := e
    rw [e1] at e2
    subst e2
    exact c.elim
  | _ => cases e
theorem rd_of {a : Addr} {o : HO} {kvs : List (Key × V)} (h : H a = some o) (c : coreD o = some kvs) : Rd H a (.dK kvs) := by
  cases o with
  | dK k => cases c; exact .inl h
  | frz ob u =>
    cases u with
    | dK k => cases c; exact .inr ⟨ob, h⟩
    | _ => cases c
  | _ => cases c
theorem vD (m : Mm K H φ χ M) (h : Rp K H φ χ v d) {ds : List (Key × Da)} (e : look M d = .dct ds) : ∃ a kvs, v = .ref a ∧ Rd H a (.dK kvs) ∧ RpK K H φ χ kvs ds := by
  cases h with
  | dct h c n m r => cases e; exact ⟨_, _, rfl, rd_of h c, r⟩
  | cell h =>
    obtain ⟨d, e1, _, c⟩ := m.look h
    have e2 : M.getD _ (.gl "") = Da.dct ds := e
    rw [e1] at e2
    subst e2
    obtain ⟨vs, q, r⟩ := c
    exact ⟨_, vs, rfl, .inl q, r⟩
  | _ => cases e
theorem vInt (h : Rp K H φ χ v (.int i)) : v = .int i := by cases h; rfl
theorem vBl (h : Rp K H φ χ v (.bl i)) : v = .bl i := by cases h; rfl
theorem vStr (h : Rp K H φ χ v (.str i)) : v = .str i ∧ i.length ≤ sizeLine := by cases h; exact ⟨rfl, by assumption⟩
theorem vNon (h : Rp K H φ χ v .non) : v = .non := by cases h; rfl
theorem FE.pure {Q' : TK} {Q : VK} (f : FE K χ H φ Q' Q) (m : Mm K H φ χ M) (r : Rp K H φ χ v d) (q : Q' d M) : Q v H := f v d H φ M Adv.refl m r q
theorem RpL.newObj {p : Addr} {o : HO} {vs : List V} {ds : List Da} (h : H p = none) (r : RpL K H φ χ vs ds) : RpL K (upd H p o) φ χ vs ds := r.adv (Adv.new h)
theorem Mm.nin (m : Mm K H φ χ M) {p : Addr} (h : H p = none) : p ∉ φ := fun q => m.dom q h
theorem FE.lst {Q' : TK} {Q : VK} (f : FE K χ H φ Q' Q) (m : Mm K H φ χ M) {vs : List V} {ds : List Da} (r : RpL K H φ χ vs ds) {p : Addr} (h : H p = none) (q : Q' (.lst ds) M) : Q (.ref p) (upd H p (.lst vs)) :=
  f _ _ _ _ M (Adv.new h) (m.new h) (.lst upd_same (m.nin h) (fun c => m.hid p c h) (r.newObj h)) q
theorem FE.tup {Q' : TK} {Q : VK} (f : FE K χ H φ Q' Q) (m : Mm K H φ χ M) {vs : List V} {ds : List Da} (r : RpL K H φ χ vs ds) {p : Addr} (h : H p = none) (q : Q' (.tup ds) M) : Q (.ref p) (upd H p (.tup vs)) :=
  f _ _ _ _ M (Adv.new h) (m.new h) (.tup upd_same (m.nin h) (fun c => m.hid p c h) (r.newObj h)) q
end
end Z
namespace Z
open PySem PySem.Spec PyProof.Rows L2 Evl
mutual
def eqD : Da → Da → Bool
  | .non, .non => true
  | .bl a, .bl b => decide (a = b)
  | .bl a, .int j => (if a then 1 else 0) == j
  | .int i, .bl b => i == (if b then 1 else 0)
  | .int i, .int j => decide (i = j)
  | .str a, .str b => decide (a = b)
  | .tup a, .tup b => eqL a b
  | .lst a, .lst b => eqL a b
  | _, _ => false
def eqL : List Da → List Da → Bool
  | [], [] => true
  | x :: xs, y :: ys => eqD x y && eqL xs ys
  | _, _ => false
end
mutual
def plD : Da → Bool
  | .non => true
  | .bl _ => true
  | .int _ => true
  | .str _ => true
  | .tup ds => plL ds
  | .lst ds => plL ds
  | _ => false
def plL : List Da → Bool
  | [] => true
  | d :: ds => plD d && plL ds
end
mutual
def dpD : Da → Nat
  | .tup ds => dpL ds + 1
  | .lst ds => dpL ds + 1
  | _ => 0
def dpL : List Da → Nat
  | [] => 0
  | d :: ds => max (dpD d) (dpL ds)
end
section
variable {K : PySem.W.Frag} {χ φ : List Addr} {H : Hp}
mutual
theorem Rp.det : ∀ {x y : Da} {v : V}, plD x = true → plD y = true → Rp K H φ χ v x → Rp K H φ χ v y → x = y
  | .non, y, v, _, py, hx, hy => by cases hx; cases hy <;> first | rfl | cases py
  | .bl b, y, v, _, py, hx, hy => by cases hx; cases hy <;> first | rfl | cases py
  | .int b, y, v, _, py, hx, hy => by cases hx; cases hy <;> first | rfl | cases py
  | .str b, y, v, _, py, hx, hy => by cases hx; cases hy <;> first | rfl | cases py
  | .tup ds, y, v, px, py, hx, hy => by
    cases hx with
    | tup h1 n1 m1 r1 =>
      cases hy with
      | tup h2 n2 m2 r2 =>
        rw [h1] at h2
        cases h2
        unfold plD at px py
        rw [RpL.det px py r1 r2]
      | lst h2 n2 m2 r2 => rw [h1] at h2; cases h2
      | _ => cases py
  | .lst ds, y, v, px, py, hx, hy => by
    cases hx with
    | lst h1 n1 m1 r1 =>
      cases hy with
      | lst h2 n2 m2 r2 =>
        rw [h1] at h2
        cases h2
        unfold plD at px py
        rw [RpL.det px py r1 r2]
      | tup h2 n2 m2 r2 => rw [h1] at h2; cases h2
      | _ => cases py
  | .ty _, _, _, px, _, _, _ => by cases px
  | .gl _, _, _, px, _, _, _ => by cases px
  | .dct _, _, _, px, _, _, _ => by cases px
  | .obj _ _, _, _, px, _, _, _ => by cases px
  | .kl _, _, _, px, _, _, _ => by cases px
  | .kt _, _, _, px, _, _, _ => by cases px
  | .cell _, _, _, px, _, _, _ => by cases px
  | .exv _ _ _ _, _, _, px, _, _, _ => by cases px
theorem RpL.det : ∀ {xs ys : List Da} {vs : List V}, plL xs = true → plL ys = true → RpL K H φ χ vs xs → RpL K H φ χ vs ys → xs = ys
  | [], ys, vs, _, _, hx, hy => by cases hx; cases hy; rfl
  | x :: xs, ys, vs, px, py, hx, hy => by
    cases hx with
    | cons h1 r1 =>
      cases hy with
      | cons h2 r2 =>
        unfold plL at px py
        rw [Bool.and_eq_true] at px py
        rw [Rp.det px.1 py.1 h1 h2, RpL.det px.2 py.2 r1 r2]
end
mutual
theorem eqD_refl : ∀ {x : Da}, plD x = true → eqD x x = true
  | .non, _ => rfl
  | .bl b, _ => by simp [eqD]
  | .int b, _ => by simp [eqD]
  | .str b, _ => by simp [eqD]
  | .tup ds, p => by unfold plD at p; unfold eqD; exact eqL_refl p
  | .lst ds, p => by unfold plD at p; unfold eqD; exact eqL_refl p
  | .ty _, p => by cases p
  | .gl _, p => by cases p
  | .dct _, p => by cases p
  | .obj _ _, p => by cases p
  | .kl _, p => by cases p
  | .kt _, p => by cases p
  | .cell _, p => by cases p
  | .exv _ _ _ _, p => by cases p
theorem eqL_refl : ∀ {xs : List Da}, plL xs = true → eqL xs xs = true
  | [], _ => rfl
  | x :: xs, p => by
    unfold plL at p
    rw [Bool.and_eq_true] at p
    unfold eqL
    rw [eqD_refl p.1, eqL_refl p.2]
    rfl
end
theorem eqL_len : ∀ {xs ys : List Da}, xs.length ≠ ys.length → eqL xs ys = false
  | [], [], h => absurd rfl h
  | [], _ :: _, _ => rfl
  | _ :: _, [], _ => rfl
  | x :: xs, y :: ys, h => by
    unfold eqL
    rw [eqL_len (xs := xs) (ys := ys) (fun e => h (by rw [List.length_cons, List.length_cons, e])), Bool.and_false]
def eqZs : List Da → List Da → List Bool
  | x :: xs, y :: ys => eqD x y :: eqZs xs ys
  | _, _ => []
theorem eqZs_all : ∀ {xs ys : List Da}, ((eqZs xs ys).all id && decide (xs.length = ys.length)) = eqL xs ys
  | [], [] => rfl
  | [], _ :: _ => rfl
  | _ :: _, [] => rfl
  | x :: xs, y :: ys => by
    unfold eqZs eqL
    rw [← eqZs_all (xs := xs) (ys := ys), List.all_cons, List.length_cons, List.length_cons]
    rw [Bool.and_assoc]
    congr 2
    simp
theorem eqZs_run {E : V → V → Bool → Prop} : ∀ {xs ys : List Da} {vs ws : List V}, RpL K H φ χ vs xs → RpL K H φ χ ws ys → (∀ x ∈ xs, ∀ y ∈ ys, ∀ v w, Rp K H φ χ v x → Rp K H φ χ w y → E v w (eqD x y)) → EqZ E vs ws (eqZs xs ys)
  | [], [], _, _, hx, hy, _ => by cases hx; cases hy; exact .nil
  | [], _ :: _, _, _, hx, hy, _ => by cases hx; cases hy; exact .nilL
  | _ :: _, [], _, _, hx, hy, _ => by cases hx; cases hy; exact .nilR
  | x :: xs, y :: ys, _, _, .cons h1 r1, .cons h2 r2, h => .cons (h x (List.mem_cons_self ..) y (List.mem_cons_self ..) _ _ h1 h2) (eqZs_run r1 r2 fun a ha b hb => h a (List.mem_cons_of_mem _ ha) b (List.mem_cons_of_mem _ hb))
theorem plL_mem : ∀ {xs : List Da}, plL xs = true → ∀ x ∈ xs, plD x = true
  | [], _, _, h => by cases h
  | x :: xs, p, y, h => by
    unfold plL at p
    rw [Bool.and_eq_true] at p
    rcases List.mem_cons.1 h with rfl | h
    · exact p.1
    · exact plL_mem p.2 y h
theorem dpL_mem : ∀ {xs : List Da} {x : Da}, x ∈ xs → dpD x ≤ dpL xs
  | [], _, h => by cases h
  | y :: ys, x, h => by
    unfold dpL
    rcases List.mem_cons.1 h with rfl | h
    · exact Nat.le_max_left ..
    · exact Nat.le_trans (dpL_mem h) (Nat.le_max_right ..)
theorem scR {E : V → V → Bool → Prop} {v w : V} {b : Bool} (h : scB v w = true) (e : decide (v = w) = b) : EqR K H E v w b := by
  rw [← e]
  exact .sc h
theorem eqR_of : ∀ (n : Nat) {x y : Da} {v w : V}, plD x = true → plD y = true → dpD x ≤ n → dpD y ≤ n → Rp K H φ χ v x → Rp K H φ χ w y → EqR K H (EqI K H n) v w (eqD x y) := by
  intro n
  induction n with
  | zero =>
    intro x y v w px py dx dy hx hy
    have bi : ∀ (a b : Bool), decide (V.bl a = V.bl b) = decide (a = b) := fun a b => by simp
    cases hx <;> first | (exfalso; unfold dpD at dx; omega) | (cases px; done) | skip
    all_goals cases hy <;> first | (exfalso; unfold dpD at dy; omega) | (cases py; done) | skip
    all_goals unfold eqD
    all_goals first
      | exact .bi _ _
      | exact .ib _ _
      | exact scR rfl (by simp)
  | succ n ih =>
    have item : ∀ {x y : Da} {v w : V}, plD x = true → plD y = true → dpD x ≤ n → dpD y ≤ n → Rp K H φ χ v x → Rp K H φ χ w y → EqI K H (n + 1) v w (eqD x y) := by
      intro x y v w px py dx dy hx hy
      by_cases same : ∃ a, v = .ref a ∧ w = .ref a
      · obtain ⟨a, rfl, rfl⟩ := same
        have e := Rp.det px py hx hy
        subst e
        exact .inl ⟨a, rfl, rfl, eqD_refl px⟩
      · exact .inr ⟨ih px py dx dy hx hy, fun a e1 e2 => same ⟨a, e1, e2⟩⟩
    have items : ∀ {xs ys : List Da} {vs ws : List V}, plL xs = true → plL ys = true → dpL xs ≤ n → dpL ys ≤ n → RpL K H φ χ vs xs → RpL K H φ χ ws ys → EqZ (EqI K H (n + 1)) vs ws (eqZs xs ys) := by
      intro xs ys vs ws px py dx dy hx hy
      exact eqZs_run hx hy fun x h1 y h2 v w h3 h4 => item (plL_mem px x h1) (plL_mem py y h2) (Nat.le_trans (dpL_mem h1) dx) (Nat.le_trans (dpL_mem h2) dy) h3 h4
    intro x y v w px py dx dy hx hy
    cases hx <;> first | (cases px; done) | skip
    all_goals cases hy <;> first | (cases py; done) | skip
    all_goals unfold eqD
    all_goals first
      | exact .bi _ _
      | exact .ib _ _
      | exact scR rfl (by simp)
      | skip
    all_goals first
      | exact .ts (SqT.of (by assumption)) rfl
      | exact .st (SqT.of (by assumption)) rfl
      | exact .ls (SqL.of (by assumption)) rfl
      | exact .sl (SqL.of (by assumption)) rfl
      | exact .lt (SqL.of (by assumption)) (SqT.of (by assumption))
      | exact .tl (SqT.of (by assumption)) (SqL.of (by assumption))
      | skip
    · rename_i a vs ds h1 n1 m1 r1 b ws es h2 n2 m2 r2
      unfold plD at px py
      unfold dpD at dx dy
      rw [← eqZs_all, ← r1.len, ← r2.len]
      exact .tup (SqT.of h1) (SqT.of h2) (items px py (by omega) (by omega) r1 r2)
    · rename_i a vs ds h1 n1 m1 r1 b ws es h2 n2 m2 r2
      unfold plD at px py
      unfold dpD at dx dy
      by_cases l : vs.length = ws.length
      · have q := EqR.lst (K := K) (H := H) (SqL.of h1) (SqL.of h2) l (items px py (by omega) (by omega) r1 r2)
        rw [← eqZs_all, decide_eq_true (by rw [← r1.len, ← r2.len]; exact l), Bool.and_true]
        exact q
      · rw [eqL_len (by rw [← r1.len, ← r2.len]; exact l)]
        exact .ll (SqL.of h1) (SqL.of h2) l
theorem eqI_of {n : Nat} {x y : Da} {v w : V} (px : plD x = true) (py : plD y = true) (dx : dpD x ≤ n) (dy : dpD y ≤ n) (hx : Rp K H φ χ v x) (hy : Rp K H φ χ w y) : EqI K H (n + 1) v w (eqD x y) := by
  by_cases same : ∃ a, v = .ref a ∧ w = .ref a
  · obtain ⟨a, rfl, rfl⟩ := same
    have e := Rp.det px py hx hy
    subst e
    exact .inl ⟨a, rfl, rfl, eqD_refl px⟩
  · exact .inr ⟨eqR_of n px py dx dy hx hy, fun a e1 e2 => same ⟨a, e1, e2⟩⟩
end
end Z
namespace Z
open PySem PySem.Spec PyProof.Rows L2 Evl
section
variable {K : PySem.W.Frag} {χ φ : List Addr} {H : Hp} {M : Mem} {v : V} {d : Da}
mutual
theorem Rp.weak : ∀ {v : V} {d : Da}, plD d = true → Rp K H φ χ v d → Rp K H [] [] v d
  | _, .non, _, h => by cases h; exact .non
  | _, .bl b, _, h => by cases h; exact .bl b
  | _, .int b, _, h => by cases h; exact .int b
  | _, .str b, _, h => by cases h with | str h => exact .str h
  | _, .tup ds, p, h => by
    cases h with
    | tup h n m r => unfold plD at p; exact .tup h (by simp) (by simp) (RpL.weak p r)
  | _, .lst ds, p, h => by
    cases h with
    | lst h n m r => unfold plD at p; exact .lst h (by simp) (by simp) (RpL.weak p r)
  | _, .ty _, p, _ => by cases p
  | _, .gl _, p, _ => by cases p
  | _, .dct _, p, _ => by cases p
  | _, .obj _ _, p, _ => by cases p
  | _, .kl _, p, _ => by cases p
  | _, .kt _, p, _ => by cases p
  | _, .cell _, p, _ => by cases p
  | _, .exv _ _ _ _, p, _ => by cases p
theorem RpL.weak : ∀ {v : List V} {d : List Da}, plL d = true → RpL K H φ χ v d → RpL K H [] [] v d
  | _, [], _, h => by cases h; exact .nil
  | _, d :: ds, p, h => by
    cases h with
    | cons h r =>
      unfold plL at p
      rw [Bool.and_eq_true] at p
      exact .cons (Rp.weak p.1 h) (RpL.weak p.2 r)
end
theorem weakE (m : Mm K H φ χ M) (h : Rp K H φ χ v d) (p : plD (lookE M d) = true) : Rp K H [] [] v (lookE M d) := by
  cases h with
  | cell h =>
    obtain ⟨d, e1, _, c⟩ := m.look h
    have e2 : lookE M (.cell _) = d := e1
    rw [e2] at p ⊢
    cases d with
    | lst ds =>
      obtain ⟨vs, q, r⟩ := c
      unfold plD at p
      exact .lst q (by simp) (by simp) (RpL.weak p r)
    | dct _ => cases p
    | obj _ _ => cases p
    | gl _ => cases p
    | _ => exact c.elim
  | klR h q n m r => cases p
  | klK h r => cases p
  | ktK h r => cases p
  | non => exact .non
  | bl b => exact .bl b
  | int i => exact .int i
  | str h => exact .str h
  | tup h n m r => exact Rp.weak p (.tup h n m r)
  | lst h n m r => exact Rp.weak p (.lst h n m r)
  | _ => cases p
/-- plain and not too deep -/
def pd (d : Da) : Prop := plD d = true ∧ dpD d ≤ 59
def pdL (ds : List Da) : Prop := plL ds = true ∧ dpL ds ≤ 59
def nEq : MO := fun x y M Q => pd (lookE M x) ∧ pd (lookE M y) ∧ Q (.bl (eqD (lookE M x) (lookE M y))) M
def nNe : MO := fun x y M Q => pd (lookE M x) ∧ pd (lookE M y) ∧ Q (.bl (!eqD (lookE M x) (lookE M y))) M
theorem O_eq : SO K (rEqA K) nEq := by
  intro χ H φ M x y dx dy Q Q' m hx hy f ⟨p1, p2, q⟩
  exact .inr (.inl ⟨_, eqR_of 60 p1.1 p2.1 (by have := p1.2; omega) (by have := p2.2; omega) (weakE m hx p1.1) (weakE m hy p2.1), f.pure m (.bl _) q⟩)
theorem O_ne : SO K (rNeA K) nNe := by
  intro χ H φ M x y dx dy Q Q' m hx hy f ⟨p1, p2, q⟩
  exact .inr (.inl ⟨_, eqR_of 60 p1.1 p2.1 (by have := p1.2; omega) (by have := p2.2; omega) (weakE m hx p1.1) (weakE m hy p2.1), f.pure m (.bl _) q⟩)
theorem strApp (a b : Str) : (a ++ b).length = a.length + b.length := by
  show (a.cps ++ b.cps).size = _
  rw [Array.size_append]
  rfl
def nAdd : MO := fun x y M Q => match x, y with
  | .int i, .int j => Q (.int (i + j)) M
  | .str a, .str b => a.length + b.length ≤ sizeLine ∧ Q (.str (a ++ b)) M
  | x, y => match lookE M x, lookE M y with
    | .lst a, .lst b => a.length + b.length ≤ sizeLine ∧ Q (.lst (a ++ b)) M
    | .tup a, .tup b => a.length + b.length ≤ sizeLine ∧ a ≠ [] ∧ b ≠ [] ∧ Q (.tup (a ++ b)) M
    | _, _ => False
theorem O_add : SO K (rAddA K) nAdd := by
  intro χ H φ M x y dx dy Q Q' m hx hy f h
  unfold nAdd at h
  split at h
  · obtain rfl := vInt hx
    obtain rfl := vInt hy
    exact .inl ⟨_, _, rfl, rfl, f.pure m (.int _) h⟩
  · obtain ⟨rfl, _⟩ := vStr hx
    obtain ⟨rfl, _⟩ := vStr hy
    exact .inr (.inl ⟨_, _, rfl, rfl, h.1, f.pure m (.str (by rw [strApp]; exact h.1)) h.2⟩)
  · split at h
    · rename_i a b e1 e2
      obtain ⟨p, vs, rfl, h1, r1⟩ := vLE m hx e1
      obtain ⟨q, ws, rfl, h2, r2⟩ := vLE m hy e2
      refine .inr (.inr (.inl ⟨p, q, vs, ws, rfl, rfl, h1, h2, by rw [r1.len, r2.len]; exact h.1, fun n hn => f.lst m (r1.app r2) hn h.2⟩))
    · rename_i a b e1 e2
      obtain ⟨p, vs, rfl, h1, r1⟩ := vTE m hx e1
      obtain ⟨q, ws, rfl, h2, r2⟩ := vTE m hy e2
      refine .inr (.inr (.inr ⟨p, q, vs, ws, rfl, rfl, SqT.of h1, SqT.of h2, by rw [r1.len, r2.len]; exact h.1, fun e => ?_, fun _ e => ?_, fun _ _ n hn => f.tup m (r1.app r2) hn h.2.2.2⟩))
      · subst e
        cases r1
        exact absurd rfl h.2.1
      · subst e
        cases r2
        exact absurd rfl h.2.2.1
    · exact h.elim
def nSub : MO := fun x y M Q => match x, y with
  | .int i, .int j => Q (.int (i - j)) M
  | _, _ => False
theorem O_sub : SO K rSubA nSub := by
  intro χ H φ M x y dx dy Q Q' m hx hy f h
  unfold nSub at h
  split at h
  · obtain rfl := vInt hx
    obtain rfl := vInt hy
    exact ⟨_, _, rfl, rfl, f.pure m (.int _) h⟩
  · exact h.elim
def nMul : MO := fun x y M Q => match x, y with
  | .int i, .int j => CMulW i j ∧ Q (.int (i * j)) M
  | .str z, .int n => MulOk z n ∧ (Txt.mul z n).length ≤ sizeLine ∧ Q (.str (Txt.mul z n)) M
  | .lst es, .int n => -(2 ^ 63) ≤ n ∧ n < 2 ^ 63 ∧ es.length * n.toNat ≤ 1000000 ∧ Q (.lst (List.replicate n.toNat es).flatten) M
  | _, _ => False
theorem RpL.rep {vs : List V} {ds : List Da} (r : RpL K H φ χ vs ds) : ∀ n : Nat, RpL K H φ χ (List.replicate n vs).flatten (List.replicate n ds).flatten
  | 0 => .nil
  | n + 1 => by
    rw [List.replicate_succ, List.replicate_succ, List.flatten_cons, List.flatten_cons]
    exact r.app (r.rep n)
theorem O_mul : SO K rMulA nMul := by
  intro χ H φ M x y dx dy Q Q' m hx hy f h
  unfold nMul at h
  split at h
  · obtain rfl := vInt hx
    obtain rfl := vInt hy
    exact .inl ⟨_, _, rfl, rfl, h.1, f.pure m (.int _) h.2⟩
  · obtain ⟨rfl, _⟩ := vStr hx
    obtain rfl := vInt hy
    exact .inr (.inl ⟨_, _, rfl, rfl, h.1, f.pure m (.str h.2.1) h.2.2⟩)
  · obtain rfl := vInt hy
    cases hx with
    | lst h1 h2 h3 r =>
      exact .inr (.inr ⟨_, _, _, rfl, rfl, h1, h.1, h.2.1, by rw [r.len, sizeLine_eq]; omega, fun p hp => f.lst m (r.rep _) hp h.2.2.2⟩)
  · exact h.elim
def nDiv : MO := fun x y M Q => match x, y with
  | .int i, .int j => CDivW i j ∧ Q (.int (i / j)) M
  | _, _ => False
theorem O_div : SO K rDivA nDiv := by
  intro χ H φ M x y dx dy Q Q' m hx hy f h
  unfold nDiv at h
  split at h
  · obtain rfl := vInt hx
    obtain rfl := vInt hy
    exact ⟨_, _, rfl, rfl, h.1, f.pure m (.int _) h.2⟩
  · exact h.elim
def nMod : MO := fun x y M Q => match x, y with
  | .int i, .int j => 0 < j ∧ Q (.int (i % j)) M
  | _, _ => False
theorem O_mod : SO K rModA nMod := by
  intro χ H φ M x y dx dy Q Q' m hx hy f h
  unfold nMod at h
  split at h
  · obtain rfl := vInt hx
    obtain rfl := vInt hy
    exact ⟨_, _, rfl, rfl, h.1, f.pure m (.int _) h.2⟩
  · exact h.elim
def nPow : MO := fun x y M Q => match x, y with
  | .int i, .int j => CPow i j ∧ Q (.int (i ^ j.toNat)) M
  | _, _ => False
theorem O_pow : SO K rPowA nPow := by
  intro χ H φ M x y dx dy Q Q' m hx hy f h
  unfold nPow at h
  split at h
  · obtain rfl := vInt hx
    obtain rfl := vInt hy
    exact ⟨_, _, rfl, rfl, h.1, f.pure m (.int _) h.2⟩
  · exact h.elim
def ltS (i j : Str) : Bool := decide (i.cps.toList < j.cps.toList)
def nLt : MO := fun x y M Q => match x, y with
  | .int i, .int j => Q (.bl (decide (i < j))) M
  | .str i, .str j => Q (.bl (ltS i j)) M
  | _, _ => False
def nLe : MO := fun x y M Q => match x, y with
  | .int i, .int j => Q (.bl (decide (i ≤ j))) M
  | .str i, .str j => Q (.bl (!ltS j i)) M
  | _, _ => False
def nGt : MO := fun x y M Q => match x, y with
  | .int i, .int j => Q (.bl (decide (j < i))) M
  | .str i, .str j => Q (.bl (ltS j i)) M
  | _, _ => False
def nGe : MO := fun x y M Q => match x, y with
  | .int i, .int j => Q (.bl (decide (j ≤ i))) M
  | .str i, .str j => Q (.bl (!ltS i j)) M
  | _, _ => False
theorem O_lt : SO K rLtA nLt := by
  intro χ H φ M x y dx dy Q Q' m hx hy f h
  unfold nLt at h
  split at h
  · obtain rfl := vInt hx
    obtain rfl := vInt hy
    exact .inl ⟨_, _, rfl, rfl, f.pure m (.bl _) h⟩
  · obtain ⟨rfl, _⟩ := vStr hx
    obtain ⟨rfl, _⟩ := vStr hy
    exact .inr ⟨_, _, rfl, rfl, f.pure m (.bl _) h⟩
  · exact h.elim
theorem O_gt : SO K rGtA nGt := by
  intro χ H φ M x y dx dy Q Q' m hx hy f h
  unfold nGt at h
  split at h
  · obtain rfl := vInt hx
    obtain rfl := vInt hy
    exact .inl ⟨_, _, rfl, rfl, f.pure m (.bl _) h⟩
  · obtain ⟨rfl, _⟩ := vStr hx
    obtain ⟨rfl, _⟩ := vStr hy
    exact .inr ⟨_, _, rfl, rfl, f.pure m (.bl _) h⟩
  · exact h.elim
theorem O_ge : SO K rGeA nGe := by
  intro χ H φ M x y dx dy Q Q' m hx hy f h
  unfold nGe at h
  split at h
  · obtain rfl := vInt hx
    obtain rfl := vInt hy
    exact .inl ⟨_, _, rfl, rfl, f.pure m (.bl _) h⟩
  · obtain ⟨rfl, _⟩ := vStr hx
    obtain ⟨rfl, _⟩ := vStr hy
    exact .inr ⟨_, _, rfl, rfl, f.pure m (.bl _) h⟩
  · exact h.elim
def nonD : Da → Bool
  | .non => true
  | _ => false
theorem Rp.nonD (h : Rp K H φ χ v d) : decide (v = .non) = nonD d := by
  cases h <;> rfl
def nIs : MO := fun x y M Q => match y with
  | .non => Q (.bl (nonD x)) M
  | .bl b => match x with
    | .bl a => Q (.bl (decide (a = b))) M
    | _ => False
  | _ => False
def nIsnt : MO := fun x y M Q => match y with
  | .non => Q (.bl (!nonD x)) M
  | .bl b => match x with
    | .bl a => Q (.bl (!decide (a = b))) M
    | _ => False
  | _ => False
theorem O_is : SO K rIsA nIs := by
  intro χ H φ M x y dx dy Q Q' m hx hy f h
  unfold nIs at h
  split at h
  · obtain rfl := vNon hy
    exact .inl ⟨rfl, by rw [hx.nonD]; exact f.pure m (.bl _) h⟩
  · split at h
    · obtain rfl := vBl hx
      obtain rfl := vBl hy
      exact .inr (.inl ⟨_, _, rfl, rfl, f.pure m (.bl _) h⟩)
    · exact h.elim
  · exact h.elim
theorem O_isnt : SO K rNotA nIsnt := by
  intro χ H φ M x y dx dy Q Q' m hx hy f h
  unfold nIsnt at h
  split at h
  · obtain rfl := vNon hy
    exact .inl ⟨rfl, by rw [hx.nonD]; exact f.pure m (.bl _) h⟩
  · split at h
    · obtain rfl := vBl hx
      obtain rfl := vBl hy
      exact .inr (.inl ⟨_, _, rfl, rfl, f.pure m (.bl _) h⟩)
    · exact h.elim
  · exact h.elim
def keyD : Da → Option Key
  | .int i => some (.inl i)
  | .str s => some (.inr s)
  | _ => none
def valD {κ : Type} [DecidableEq κ] (kds : List (κ × Da)) (k : κ) : Option Da := (kds.find? fun kv => decide (kv.1 = k)).map (·.2)
def putD (kds : List (Key × Da)) (k : Key) (d : Da) : List (Key × Da) := if (kds.any fun kv => decide (kv.1 = k)) = true then kds.map (fun kv => if kv.1 = k then (kv.1, d) else kv) else kds ++ [(k, d)]
theorem keyD_of {k : Key} (h : Rp K H φ χ v d) (e : keyD d = some k) : v = kV k := by
  cases h <;> cases e <;> rfl
theorem RpK.val {k : Key} : ∀ {kvs : List (Key × V)} {kds : List (Key × Da)}, RpK K H φ χ kvs kds → (valV kvs k = none ∧ valD kds k = none) ∨ ∃ v d, valV kvs k = some v ∧ valD kds k = some d ∧ Rp K H φ χ v d
  | _, _, .nil => .inl ⟨rfl, rfl⟩
  | _, _, .cons (k := j) (v := v) (d := d) h r => by
    by_cases e : j = k
    · exact .inr ⟨v, d, by simp [valV, e], by simp [valD, e], h⟩
    · have := r.val (k := k)
      simpa [valV, valD, e] using this
theorem RpK.any {k : Key} : ∀ {kvs : List (Key × V)} {kds : List (Key × Da)}, RpK K H φ χ kvs kds → (kvs.any fun kv => decide (kv.1 = k)) = (kds.any fun kv => decide (kv.1 = k))
  | _, _, .nil => rfl
  | _, _, .cons _ r => by rw [List.any_cons, List.any_cons, r.any]
theorem RpK.snoc {k : Key} (h : Rp K H φ χ v d) : ∀ {kvs : List (Key × V)} {kds : List (Key × Da)}, RpK K H φ χ kvs kds → RpK K H φ χ (kvs ++ [(k, v)]) (kds ++ [(k, d)])
  | _, _, .nil => .cons h .nil
  | _, _, .cons q r => .cons q (RpK.snoc h r)
theorem RpK.map {k : Key} (h : Rp K H φ χ v d) : ∀ {kvs : List (Key × V)} {kds : List (Key × Da)}, RpK K H φ χ kvs kds → RpK K H φ χ (kvs.map (fun kv => if kv.1 = k then (kv.1, v) else kv)) (kds.map (fun kv => if kv.1 = k then (kv.1, d) else kv))
  | _, _, .nil => .nil
  | _, _, .cons (k := j) q r => by
    by_cases e : j = k
    · simp only [List.map_cons, e, if_true]
      exact .cons h (RpK.map h r)
    · simp only [List.map_cons, e, if_false]
      exact .cons q (RpK.map h r)
theorem RpK.put {k : Key} {kvs : List (Key × V)} {kds : List (Key × Da)} (r : RpK K H φ χ kvs kds) (h : Rp K H φ χ v d) : RpK K H φ χ (putK kvs k v) (putD kds k d) := by
  unfold putK putD
  rw [r.any (k := k)]
  split
  · exact r.map h
  · exact r.snoc h
def inS (a z : Str) : Bool := match a.cps.toList with
  | [c] => decide (c ∈ z.cps.toList)
  | _ => !(Builtin.Str.occurrences z a 0 z.length 1).isEmpty
def anyEq (x : Da) (ds : List Da) : Bool := ds.any fun z => eqD z x
def nInR (x y : Da) (M : Mem) (R : Bool → Prop) : Prop := match look M y with
  | .lst ds => pdL ds ∧ pd (lookE M x) ∧ R (anyEq (lookE M x) ds)
  | .tup ds => pdL ds ∧ pd (lookE M x) ∧ R (anyEq (lookE M x) ds)
  | .dct kds => ∃ k, keyD x = some k ∧ R (valD kds k).isSome
  | .str z => match x with
    | .str a => R (inS a z)
    | _ => False
  | _ => False
def nIn : MO := fun x y M Q => nInR x y M fun b => Q (.bl b) M
def nNin : MO := fun x y M Q => nInR x y M fun b => Q (.bl (!b)) M
theorem anyEq_of {x : V} {dx : Da} (hx : Rp K H [] [] x dx) (px : pd dx) : ∀ {vs : List V} {ds : List Da}, pdL ds → RpL K H φ χ vs ds → ∃ g : V → Bool, (∀ z ∈ vs, EqI K H 60 z x (g z)) ∧ vs.any g = anyEq dx ds := by
  have item : ∀ {z : V} {d : Da}, plD d = true → dpD d ≤ 59 → Rp K H φ χ z d → EqI K H 60 z x (eqD d dx) := fun p1 p2 r => eqI_of p1 px.1 p2 px.2 (Rp.weak p1 r) hx
  intro vs ds p r
  -- one answer an address
  have one : ∀ {z : V} {d e : Da}, plD d = true → plD e = true → Rp K H φ χ z d → Rp K H φ χ z e → d = e := fun p1 p2 r1 r2 => Rp.det p1 p2 r1 r2
  classical
  refine ⟨fun z => if h : ∃ d ∈ ds, Rp K H φ χ z d then eqD h.choose dx else false, fun z hz => ?_, ?_⟩
  · obtain ⟨d, hd, rd⟩ := r.mem z hz
    have h : ∃ d ∈ ds, Rp K H φ χ z d := ⟨d, hd, rd⟩
    show EqI K H 60 z x (if h : ∃ d ∈ ds, Rp K H φ χ z d then eqD h.choose dx else false)
    rw [dif_pos h]
    exact item (plL_mem p.1 _ h.choose_spec.1) (Nat.le_trans (dpL_mem h.choose_spec.1) p.2) h.choose_spec.2
  · have go : ∀ {us : List V} {es : List Da}, (∀ e ∈ es, e ∈ ds) → RpL K H φ χ us es → (us.any fun z => if h : ∃ d ∈ ds, Rp K H φ χ z d then eqD h.choose dx else false) = anyEq dx es := by
      intro us es hs r
      induction us generalizing es with
      | nil => cases r; rfl
      | cons u us ih =>
        cases r with
        | cons h1 r1 =>
          rename_i d es
          unfold anyEq
          rw [List.any_cons, List.any_cons]
          have h : ∃ d ∈ ds, Rp K H φ χ u d := ⟨d, hs d (List.mem_cons_self ..), h1⟩
          rw [dif_pos h, one (plL_mem p.1 _ h.choose_spec.1) (plL_mem p.1 _ (hs d (List.mem_cons_self ..))) h.choose_spec.2 h1]
          congr 1
          exact ih (fun e he => hs e (List.mem_cons_of_mem _ he)) r1
    exact go (fun e he => he) r
theorem vS (m : Mm K H φ χ M) (h : Rp K H φ χ v d) {z : Str} (e : look M d = .str z) : v = .str z ∧ z.length ≤ sizeLine := by
  cases h with
  | str h => cases e; exact ⟨rfl, h⟩
  | cell h =>
    obtain ⟨d, e1, _, c⟩ := m.look h
    have e2 : M.getD _ (.gl "") = Da.str z := e
    rw [e1] at e2
    subst e2
    exact c.elim
  | _ => cases e
theorem nInR_run {x y : V} {dx dy : Da} {R : Bool → Prop} (m : Mm K H φ χ M) (hx : Rp K H φ χ x dx) (hy : Rp K H φ χ y dy) (h : nInR dx dy M R) :
    ∃ b, R b ∧ ((∃ (p : Addr) (xs : List V) (g : V → Bool), y = .ref p ∧ (SqL K H p xs ∨ SqT K H p xs) ∧ (∀ z ∈ xs, EqI K H 60 z x (g z)) ∧ b = xs.any g) ∨ (∃ a o, y = .ref a ∧ DGet H a x o ∧ b = o.isSome) ∨
      (∃ (c : Nat) (z : Str), x = .str ⟨#[c]⟩ ∧ y = .str z ∧ b = decide (c ∈ z.cps.toList)) ∨ ∃ i j, x = .str i ∧ y = .str j ∧ b = !(Builtin.Str.occurrences j i 0 j.length 1).isEmpty) := by
  unfold nInR at h
  split at h
  · rename_i ds e
    obtain ⟨p1, p2, q⟩ := h
    obtain ⟨a, vs, rfl, hs, r⟩ := vL m hy e
    obtain ⟨g, g1, g2⟩ := anyEq_of (weakE m hx p2.1) p2 p1 r
    exact ⟨_, q, .inl ⟨a, vs, g, rfl, .inl hs, g1, g2.symm⟩⟩
  · rename_i ds e
    obtain ⟨p1, p2, q⟩ := h
    obtain ⟨a, vs, rfl, hs, r⟩ := vT m hy e
    obtain ⟨g, g1, g2⟩ := anyEq_of (weakE m hx p2.1) p2 p1 r
    exact ⟨_, q, .inl ⟨a, vs, g, rfl, .inr hs, g1, g2.symm⟩⟩
  · rename_i kds e
    obtain ⟨k, hk, q⟩ := h
    obtain ⟨a, kvs, rfl, hs, r⟩ := vD m hy e
    refine ⟨_, q, .inr (.inl ⟨a, valV kvs k, rfl, .inl ⟨kvs, k, hs, keyD_of hx hk, rfl⟩, ?_⟩)⟩
    rcases r.val (k := k) with ⟨e1, e2⟩ | ⟨v, d, e1, e2, _⟩
    · rw [e1, e2]; rfl
    · rw [e1, e2]; rfl
  · rename_i z e
    obtain ⟨rfl, _⟩ := vS m hy e
    split at h
    · rename_i a
      obtain ⟨rfl, _⟩ := vStr hx
      refine ⟨_, h, .inr (.inr ?_)⟩
      unfold inS
      split
      · rename_i c hc
        refine .inl ⟨c, z, ?_, rfl, rfl⟩
        congr 1
        cases a with
        | mk cps => simp at hc ⊢; cases cps; simp_all
      · exact .inr ⟨a, z, rfl, rfl, rfl⟩
    · exact h.elim
  · exact h.elim
theorem O_in : SO K (rInB K) nIn := by
  intro χ H φ M x y dx dy Q Q' m hx hy f h
  obtain ⟨b, q, h⟩ := nInR_run m hx hy h
  have qq := f.pure m (.bl _) q
  rcases h with ⟨p, xs, g, rfl, hs, he, rfl⟩ | ⟨a, o, rfl, g, rfl⟩ | ⟨c, z, rfl, rfl, rfl⟩ | ⟨i, j, rfl, rfl, rfl⟩
  · exact .inr (.inl ⟨p, xs, g, rfl, hs, he, qq⟩)
  · exact .inr (.inr ⟨a, o, rfl, g, qq⟩)
  · exact .inl (.inl ⟨c, z, rfl, rfl, qq⟩)
  · exact .inl (.inr (.inr ⟨i, j, rfl, rfl, qq⟩))
theorem O_nin : SO K (rNinB K) nNin := by
  intro χ H φ M x y dx dy Q Q' m hx hy f h
  obtain ⟨b, q, h⟩ := nInR_run m hx hy h
  have qq := f.pure m (.bl _) q
  rcases h with ⟨p, xs, g, rfl, hs, he, rfl⟩ | ⟨a, o, rfl, g, rfl⟩ | ⟨c, z, rfl, rfl, rfl⟩ | ⟨i, j, rfl, rfl, rfl⟩
  · exact .inr (.inl ⟨p, xs, g, rfl, hs, he, qq⟩)
  · exact .inr (.inr ⟨a, o, rfl, g, qq⟩)
  · exact .inl (.inl ⟨c, z, rfl, rfl, qq⟩)
  · exact .inl (.inr (.inr ⟨i, j, rfl, rfl, qq⟩))
theorem RpL.atI {vs : List V} {ds : List Da} {i : Int} (r : RpL K H φ χ vs ds) (e : atI ds i = some d) : ∃ v, L2.atI vs i = some v ∧ Rp K H φ χ v d := by
  unfold L2.atI at e ⊢
  rw [r.len]
  cases q : ixN ds.length i with
  | none => rw [q] at e; cases e
  | some j =>
    rw [q] at e
    obtain ⟨v, h1, h2⟩ := r.get (i := j) (d := d) e
    exact ⟨v, h1, h2⟩
def chS (c : Nat) : Da := .str ⟨#[c]⟩
def nIx : MO := fun x y M Q => match look M x with
  | .lst ds => match y with
    | .int i => match atI ds i with
      | some d => Q d M
      | none => False
    | _ => False
  | .tup ds => match y with
    | .int i => match atI ds i with
      | some d => Q d M
      | none => False
    | _ => False
  | .str z => match y with
    | .int i => match atI z.cps.toList i with
      | some c => Q (chS c) M
      | none => False
    | _ => False
  | .dct kds => ∃ k d, keyD y = some k ∧ valD kds k = some d ∧ Q d M
  | _ => False
theorem one_le : (1 : Nat) ≤ sizeLine := by rw [sizeLine_eq]; decide
theorem Rp.ch (c : Nat) : Rp K H φ χ (.str ⟨#[c]⟩) (chS c) := .str one_le
theorem O_ix : SO K (rIxB K) nIx := by
  intro χ H φ M x y dx dy Q Q' m hx hy f h
  unfold nIx at h
  split at h
  · rename_i ds e
    split at h
    · rename_i i
      split at h
      · rename_i d ed
        obtain ⟨a, vs, rfl, hs, r⟩ := vL m hx e
        obtain rfl := vInt hy
        obtain ⟨v, e1, r1⟩ := r.atI ed
        exact .inl (.inl ⟨a, vs, i, v, rfl, rfl, hs, e1, f.pure m r1 h⟩)
      · exact h.elim
    · exact h.elim
  · rename_i ds e
    split at h
    · rename_i i
      split at h
      · rename_i d ed
        obtain ⟨a, vs, rfl, hs, r⟩ := vT m hx e
        obtain rfl := vInt hy
        obtain ⟨v, e1, r1⟩ := r.atI ed
        exact .inl (.inr (.inl ⟨a, vs, i, v, rfl, rfl, hs, e1, f.pure m r1 h⟩))
      · exact h.elim
    · exact h.elim
  · rename_i z e
    split at h
    · rename_i i
      split at h
      · rename_i c ec
        obtain ⟨rfl, hz⟩ := vS m hx e
        obtain rfl := vInt hy
        exact .inl (.inr (.inr ⟨z, i, c, rfl, rfl, hz, ec, f.pure m (.ch c) h⟩))
      · exact h.elim
    · exact h.elim
  · rename_i kds e
    obtain ⟨k, d, hk, hd, q⟩ := h
    obtain ⟨a, kvs, rfl, hs, r⟩ := vD m hx e
    rcases r.val (k := k) with ⟨e1, e2⟩ | ⟨v, d', e1, e2, rd⟩
    · rw [e2] at hd; cases hd
    · rw [e2] at hd
      cases hd
      exact .inr ⟨a, v, rfl, .inl ⟨kvs, k, hs, keyD_of hy hk, e1.symm⟩, f.pure m rd q⟩
  · exact h.elim
def cutL {α : Type} (xs : List α) (lo hi : Option Int) : List α := (xs.drop (HT.sIx xs.length 0 lo)).take (HT.sIx xs.length xs.length hi - HT.sIx xs.length 0 lo)
theorem cutS_le (z : Str) (lo hi : Option Int) : (cutS z lo hi).length ≤ z.length := by
  unfold cutS
  show List.length _ ≤ _
  rw [List.length_take, List.length_drop]
  show _ ≤ z.cps.size
  have : z.cps.toList.length = z.cps.size := Array.length_toList
  omega
abbrev MO3 := Da → Option Int → Option Int → Mem → TK → Prop
def nSl : MO3 := fun x lo hi M Q => match look M x with
  | .str z => Q (.str (cutS z lo hi)) M
  | .lst ds => Q (.lst (cutL ds lo hi)) M
  | .tup ds => match x with
    | .tup _ => Q (.tup (cutL ds lo hi)) M
    | _ => False
  | _ => False
def SO3 (K : PySem.W.Frag) (r : V → Option Int → Option Int → Hp → VK → Prop) (n : MO3) : Prop := ∀ {χ H φ M x dx lo hi Q Q'}, Mm K H φ χ M → Rp K H φ χ x dx → FE K χ H φ Q' Q → n dx lo hi M Q' → r x lo hi H Q
theorem O_sl : SO3 K (Z.rSlA K) nSl := by
  intro χ H φ M x dx lo hi Q Q' m hx f h
  unfold nSl at h
  split at h
  · rename_i z e
    obtain ⟨rfl, hz⟩ := vS m hx e
    exact .inl ⟨z, rfl, hz, f.pure m (.str (Nat.le_trans (cutS_le z lo hi) hz)) h⟩
  · rename_i ds e
    obtain ⟨a, vs, rfl, hs, r⟩ := vL m hx e
    refine .inr (.inl ⟨a, vs, rfl, hs, fun p hp => ?_⟩)
    have r2 : RpL K H φ χ (cutV vs lo hi) (cutL ds lo hi) := by
      unfold cutV cutL
      rw [r.len]
      exact (r.drop _).take _
    exact f.lst m r2 hp h
  · rename_i ds e
    split at h
    · rename_i ds'
      cases e
      obtain ⟨a, vs, rfl, hs, r⟩ := vT m hx rfl
      have r2 : RpL K H φ χ (cutV vs lo hi) (cutL ds lo hi) := by
        unfold cutV cutL
        rw [r.len]
        exact (r.drop _).take _
      refine .inr (.inr ⟨a, vs, rfl, hs, fun z => ?_, fun _ p hp => f.tup m r2 hp h⟩)
      have e : cutL ds lo hi = ds := by
        unfold cutL
        rw [← r.len, z.1, z.2, List.drop_zero, Nat.sub_zero, r.len, List.take_length]
      rw [e] at h
      exact f.pure m hx h
    · exact h.elim
  · exact h.elim
end
end Z
namespace Z
open PySem PySem.Spec PyProof.Rows L2 Evl
section
variable {K : PySem.W.Frag} {χ φ : List Addr} {H : Hp} {M : Mem} {v : V} {d : Da}
theorem RpL.one {vs : List V} (r : RpL K H φ χ vs [d]) : ∃ v, vs = [v] ∧ Rp K H φ χ v d := by
  cases r with
  | cons h r => cases r; exact ⟨_, rfl, h⟩
theorem RpL.two {vs : List V} {e : Da} (r : RpL K H φ χ vs [d, e]) : ∃ v w, vs = [v, w] ∧ Rp K H φ χ v d ∧ Rp K H φ χ w e := by
  cases r with
  | cons h r =>
    obtain ⟨w, rfl, q⟩ := r.one
    exact ⟨_, w, rfl, h, q⟩
def tyDa (M : Mem) : Da → Option String
  | .non => some "NoneType"
  | .bl _ => some "bool"
  | .int _ => some "int"
  | .str _ => some "str"
  | .tup _ => some "tuple"
  | .kt _ => some "tuple"
  | .lst _ => some "list"
  | .dct _ => some "dict"
  | .cell n => match M.getD n (.gl "") with
    | .lst _ => some "list"
    | .dct _ => some "dict"
    | _ => none
  | _ => none
def tyB (T : String) (a : String) : Bool := a == T || (a == "bool" && T == "int")
def tyTs : List String := ["int", "bool", "str", "tuple", "list", "dict"]
def tyNs : List String := ["NoneType", "bool", "int", "str", "tuple", "list", "dict"]
theorem kit_all : (tyTs.all fun T => tyNs.all fun a => decide (kitB a T = some (tyB T a))) = true := by decide +kernel
theorem tyDa_in {a : String} (e : tyDa M d = some a) : a ∈ tyNs := by
  unfold tyDa at e
  split at e
  all_goals first
    | (cases e; simp [tyNs]; done)
    | (split at e <;> first | (cases e; simp [tyNs]; done) | (cases e; done))
    | (cases e; done)
theorem kit_of {T a : String} (hT : T ∈ tyTs) (e : tyDa M d = some a) : kitB a T = some (tyB T a) :=
  of_decide_eq_true (List.all_eq_true.mp (List.all_eq_true.mp kit_all T hT) a (tyDa_in e))
theorem tyDa_X (m : Mm K H φ χ M) (h : Rp K H φ χ v d) {a : String} (e : tyDa M d = some a) : TyX K H v (.type a) := by
  cases h with
  | non => cases e; exact .base .non
  | bl b => cases e; exact .base (.bl b)
  | int i => cases e; exact .base (.int i)
  | str h => cases e; exact .base (.str _)
  | tup h n m r => cases e; exact .base (.tup h)
  | lst h n m r => cases e; exact .base (.lst h)
  | dct h c n m r =>
    cases e
    rename_i o kvs kds
    cases o with
    | dK k => exact .base (.dK h)
    | frz ob u =>
      cases u with
      | dK k => exact .fDict h
      | _ => cases c
    | _ => cases c
  | ktK h r =>
    cases e
    rcases h fun _ => none with h | ⟨o, its, n, hk, hc, _⟩
    · rcases h with h | ⟨ob, h⟩ <;> cases h
    · exact .kTuple hk hc
  | cell h =>
    obtain ⟨d, e1, _, c⟩ := m.look h
    have e2 : (match M.getD _ (.gl "") with | .lst _ => some "list" | .dct _ => some "dict" | _ => none) = some a := e
    rw [e1] at e2
    cases d with
    | lst ds => cases e2; obtain ⟨vs, q, _⟩ := c; exact .base (.lst q)
    | dct ds => cases e2; obtain ⟨vs, q, _⟩ := c; exact .base (.dK q)
    | _ => cases e2
  | _ => cases e
def nIsi : List Da → Mem → TK → Prop := fun ds M Q => match ds with
  | [x, .ty T] => T ∈ tyTs ∧ match tyDa M x with
    | some a => Q (.bl (tyB T a)) M
    | none => False
  | _ => False
theorem C_isi : SC K (rIsi K) nIsi := by
  intro χ H φ M x dx Q Q' m hx f h
  unfold nIsi at h
  split at h
  · rename_i d T
    obtain ⟨v, w, rfl, h1, h2⟩ := hx.two
    cases h2
    obtain ⟨hT, h⟩ := h
    split at h
    · rename_i a e
      exact ⟨v, .ty T, _, _, _, rfl, .ty T, tyDa_X m h1 e, kit_ty (kit_of hT e), f.pure m (.bl _) h⟩
    · exact h.elim
  · exact h.elim
def nLen : List Da → Mem → TK → Prop := fun ds M Q => match ds with
  | [x] => match look M x with
    | .lst ds => Q (.int ds.length) M
    | .tup ds => Q (.int ds.length) M
    | .dct kds => Q (.int kds.length) M
    | .str z => Q (.int z.length) M
    | _ => False
  | _ => False
theorem C_len : SC K (rLenB K) nLen := by
  intro χ H φ M x dx Q Q' m hx f h
  unfold nLen at h
  split at h
  · obtain ⟨v, rfl, h1⟩ := hx.one
    split at h
    · rename_i ds e
      obtain ⟨a, vs, rfl, hs, r⟩ := vL m h1 e
      exact .inl (.inl ⟨_, vs.length, rfl, .inl ⟨vs, hs, rfl⟩, by rw [r.len]; exact f.pure m (.int _) h⟩)
    · rename_i ds e
      obtain ⟨a, vs, rfl, hs, r⟩ := vT m h1 e
      exact .inl (.inl ⟨_, vs.length, rfl, .inr ⟨vs, hs, rfl⟩, by rw [r.len]; exact f.pure m (.int _) h⟩)
    · rename_i ds e
      obtain ⟨a, kvs, rfl, hs, r⟩ := vD m h1 e
      exact .inr ⟨a, kvs, rfl, hs, by rw [r.len]; exact f.pure m (.int _) h⟩
    · rename_i z e
      obtain ⟨rfl, hz⟩ := vS m h1 e
      exact .inl (.inl ⟨_, z.length, rfl, ⟨hz, rfl⟩, f.pure m (.int _) h⟩)
    · exact h.elim
  · exact h.elim
theorem RpL.ints : ∀ {ns : List Int} {vs : List V}, RpL K H φ χ vs (ns.map Da.int) → vs = ns.map V.int
  | [], _, .nil => rfl
  | n :: ns, _, .cons h r => by
    cases h
    rw [RpL.ints r]
    rfl
theorem RpL.bls : ∀ {ns : List Bool} {vs : List V}, RpL K H φ χ vs (ns.map Da.bl) → vs = ns.map V.bl
  | [], _, .nil => rfl
  | n :: ns, _, .cons h r => by
    cases h
    rw [RpL.bls r]
    rfl
theorem RpL.strs : ∀ {ns : List Str} {vs : List V}, RpL K H φ χ vs (ns.map Da.str) → vs = ns.map V.str
  | [], _, .nil => rfl
  | n :: ns, _, .cons h r => by
    cases h
    rw [RpL.strs r]
    rfl
def nMax : List Da → Mem → TK → Prop := fun ds M Q => match ds with
  | [.int i, .int j] => Q (.int (if j > i then j else i)) M
  | [x] => ∃ ns : List Int, look M x = .lst (ns.map Da.int) ∧ 0 < ns.length ∧ ∀ m, m ∈ ns → (∀ y, y ∈ ns → y ≤ m) → Q (.int m) M
  | _ => False
def nMin : List Da → Mem → TK → Prop := fun ds M Q => match ds with
  | [.int i, .int j] => Q (.int (if j < i then j else i)) M
  | [x] => ∃ ns : List Int, look M x = .lst (ns.map Da.int) ∧ 0 < ns.length ∧ ∀ m, m ∈ ns → (∀ y, y ∈ ns → m ≤ y) → Q (.int m) M
  | _ => False
theorem C_min : SC K (rMinA K) nMin := by
  intro χ H φ M x dx Q Q' m hx f h
  unfold nMin at h
  split at h
  · obtain ⟨v, w, rfl, h1, h2⟩ := hx.two
    cases h1
    cases h2
    exact .inl ⟨_, _, rfl, f.pure m (.int _) h⟩
  · obtain ⟨v, rfl, h1⟩ := hx.one
    obtain ⟨ns, e, hp, q⟩ := h
    obtain ⟨a, vs, rfl, hs, r⟩ := vL m h1 e
    rw [r.ints] at hs
    exact .inr ⟨a, ns, rfl, hs, hp, fun k hk hm => f.pure m (.int _) (q k hk hm)⟩
  · exact h.elim
def blsD : List Da → Option (List Bool)
  | [] => some []
  | .bl b :: ds => (blsD ds).map (b :: ·)
  | _ => none
theorem blsD_of : ∀ {ds : List Da} {bs : List Bool}, blsD ds = some bs → ds = bs.map Da.bl
  | [], bs, e => by cases e; rfl
  | d :: ds, bs, e => by
    cases d with
    | bl b =>
      unfold blsD at e
      cases q : blsD ds with
      | none => rw [q] at e; cases e
      | some cs =>
        rw [q] at e
        cases e
        rw [blsD_of q]
        rfl
    | _ => cases e
theorem blsD_map (bs : List Bool) : blsD (bs.map Da.bl) = some bs := by
  induction bs with
  | nil => rfl
  | cons b bs ih => show (blsD (bs.map Da.bl)).map (b :: ·) = _; rw [ih]; rfl
def nAll : List Da → Mem → TK → Prop := fun ds M Q => match ds with
  | [x] => match look M x with
    | .lst ds => match blsD ds with
      | some bs => Q (.bl (bs.all id)) M
      | none => False
    | _ => False
  | _ => False
def nAny : List Da → Mem → TK → Prop := fun ds M Q => match ds with
  | [x] => match look M x with
    | .lst ds => match blsD ds with
      | some bs => Q (.bl (bs.any id)) M
      | none => False
    | _ => False
  | _ => False
theorem C_all : SC K (rAll K) nAll := by
  intro χ H φ M x dx Q Q' m hx f h
  unfold nAll at h
  split at h
  · obtain ⟨v, rfl, h1⟩ := hx.one
    split at h
    · rename_i ds e
      split at h
      · rename_i bs eb
        obtain ⟨a, vs, rfl, hs, r⟩ := vL m h1 e
        rw [blsD_of eb] at r
        rw [r.bls] at hs
        exact ⟨a, bs, rfl, hs, f.pure m (.bl _) h⟩
      · exact h.elim
    · exact h.elim
  · exact h.elim
theorem C_any : SC K (rAny K) nAny := by
  intro χ H φ M x dx Q Q' m hx f h
  unfold nAny at h
  split at h
  · obtain ⟨v, rfl, h1⟩ := hx.one
    split at h
    · rename_i ds e
      split at h
      · rename_i bs eb
        obtain ⟨a, vs, rfl, hs, r⟩ := vL m h1 e
        rw [blsD_of eb] at r
        rw [r.bls] at hs
        exact ⟨a, bs, rfl, hs, f.pure m (.bl _) h⟩
      · exact h.elim
    · exact h.elim
  · exact h.elim
def seqD (M : Mem) (x : Da) : Option (List Da) := match look M x with
  | .lst ds => some ds
  | .tup ds => some ds
  | _ => none
theorem seqD_of (m : Mm K H φ χ M) (h : Rp K H φ χ v d) {ds : List Da} (e : seqD M d = some ds) : ∃ a vs, v = .ref a ∧ (SqL K H a vs ∨ SqT K H a vs) ∧ RpL K H φ χ vs ds := by
  unfold seqD at e
  split at e
  · rename_i es q
    cases e
    obtain ⟨a, vs, rfl, hs, r⟩ := vL m h q
    exact ⟨a, vs, rfl, .inl hs, r⟩
  · rename_i es q
    cases e
    obtain ⟨a, vs, rfl, hs, r⟩ := vT m h q
    exact ⟨a, vs, rfl, .inr hs, r⟩
  · cases e
def nList : List Da → Mem → TK → Prop := fun ds M Q => match ds with
  | [x] => match seqD M x with
    | some ds => Q (.lst ds) M
    | none => False
  | _ => False
theorem C_list : SC K (rListA K) nList := by
  intro χ H φ M x dx Q Q' m hx f h
  unfold nList at h
  split at h
  · obtain ⟨v, rfl, h1⟩ := hx.one
    split at h
    · rename_i ds e
      obtain ⟨a, vs, rfl, hs, r⟩ := seqD_of m h1 e
      exact ⟨a, vs, rfl, hs, fun l hl => f.lst m r hl h⟩
    · exact h.elim
  · exact h.elim
def nTupC : List Da → Mem → TK → Prop := fun ds M Q => match ds with
  | [x] => match look M x with
    | .lst ds => Q (.tup ds) M
    | .tup _ => Q x M
    | _ => False
  | _ => False
theorem C_tup : SC K (rTupA K) nTupC := by
  intro χ H φ M x dx Q Q' m hx f h
  unfold nTupC at h
  split at h
  · obtain ⟨v, rfl, h1⟩ := hx.one
    split at h
    · rename_i ds e
      obtain ⟨a, vs, rfl, hs, r⟩ := vL m h1 e
      exact ⟨a, vs, rfl, .inl ⟨hs, fun l hl => f.tup m r hl h⟩⟩
    · rename_i ds e
      obtain ⟨a, vs, rfl, hs, r⟩ := vT m h1 e
      exact ⟨a, vs, rfl, .inr ⟨hs, f.pure m h1 h⟩⟩
    · exact h.elim
  · exact h.elim
def nInt : List Da → Mem → TK → Prop := fun ds M Q => match ds with
  | [.int i] => Q (.int i) M
  | [.bl k] => Q (.int (if k then 1 else 0)) M
  | _ => False
theorem C_int : SC K rIntA nInt := by
  intro χ H φ M x dx Q Q' m hx f h
  unfold nInt at h
  split at h
  · obtain ⟨v, rfl, h1⟩ := hx.one
    obtain rfl := vInt h1
    exact .inl ⟨_, rfl, f.pure m (.int _) h⟩
  · obtain ⟨v, rfl, h1⟩ := hx.one
    obtain rfl := vBl h1
    exact .inr ⟨_, rfl, f.pure m (.int _) h⟩
  · exact h.elim
def nStr : List Da → Mem → TK → Prop := fun ds M Q => match ds with
  | [.int i] => i.natAbs.log2 < 1920 ∧ (toString i : Str).length ≤ sizeLine ∧ Q (.str (toString i)) M
  | [.str k] => Q (.str k) M
  | _ => False
def strsD : List Da → Option (List Str)
  | [] => some []
  | .str b :: ds => (strsD ds).map (b :: ·)
  | _ => none
theorem strsD_of : ∀ {ds : List Da} {bs : List Str}, strsD ds = some bs → ds = bs.map Da.str
  | [], bs, e => by cases e; rfl
  | d :: ds, bs, e => by
    cases d with
    | str b =>
      unfold strsD at e
      cases q : strsD ds with
      | none => rw [q] at e; cases e
      | some cs =>
        rw [q] at e
        cases e
        rw [strsD_of q]
        rfl
    | _ => cases e
def okS : Da → Mem → Prop := fun d _ => ∃ z, d = .str z
def okLs : Da → Mem → Prop := fun d M => ∃ ds, look M d = .lst ds
def okDc : Da → Mem → Prop := fun d M => ∃ ds, look M d = .dct ds
theorem okS_run (h : Rp K H φ χ v d) (o : okS d M) : tyW K "str" v H := by
  obtain ⟨z, rfl⟩ := o
  obtain ⟨rfl, _⟩ := vStr h
  exact .inl rfl
theorem okL_run (m : Mm K H φ χ M) (h : Rp K H φ χ v d) (o : okLs d M) : tyW K "list" v H := by
  obtain ⟨ds, e⟩ := o
  obtain ⟨a, vs, rfl, hs, _⟩ := vL m h e
  exact .inl (.inl ⟨rfl, vs, hs⟩)
theorem okD_run (m : Mm K H φ χ M) (h : Rp K H φ χ v d) (o : okDc d M) : tyW K "dict" v H := by
  obtain ⟨ds, e⟩ := o
  obtain ⟨a, vs, rfl, hs, _⟩ := vD m h e
  exact .inr ⟨a, vs, rfl, rfl, hs⟩
/-- a method's rule over data -/
def SMr (K : PySem.W.Frag) (r : V → List V → Hp → VK → Prop) (n : Da → List Da → Mem → TK → Prop) : Prop :=
  ∀ {χ H φ M x dx xs dxs Q Q'}, Mm K H φ χ M → Rp K H φ χ x dx → RpL K H φ χ xs dxs → FE K χ H φ Q' Q → n dx dxs M Q' → r x xs H Q
def nJoin : Da → List Da → Mem → TK → Prop := fun x ds M Q => match x, ds with
  | .str a, [y] => match (seqD M y).bind strsD with
    | some ys => (ys.map (·.length)).sum + ys.length * a.length ≤ 16777216 ∧ (Txt.join a ys).length ≤ sizeLine ∧ Q (.str (Txt.join a ys)) M
    | none => False
  | _, _ => False
def cellL (M : Mem) (x : Da) : Option (Nat × List Da) := match x with
  | .cell n => match M[n]? with
    | some (.lst ds) => some (n, ds)
    | _ => none
  | _ => none
theorem cellL_of (m : Mm K H φ χ M) (h : Rp K H φ χ v d) {n : Nat} {ds : List Da} (e : cellL M d = some (n, ds)) : ∃ a vs, v = .ref a ∧ φ[n]? = some a ∧ H a = some (.lst vs) ∧ RpL K H φ χ vs ds := by
  unfold cellL at e
  split at e
  · rename_i k
    split at e
    · rename_i es q
      cases e
      cases h with
      | cell h =>
        obtain ⟨vs, e1, r⟩ := m.at_ _ _ _ h q
        exact ⟨_, vs, rfl, h, e1, r⟩
    · cases e
  · cases e
theorem FE.mutL {Q' : TK} {Q : VK} (f : FE K χ H φ Q' Q) (m : Mm K H φ χ M) {n : Nat} {a : Addr} {vs : List V} {ds : List Da} (h : φ[n]? = some a) (r : RpL K H φ χ vs ds) {w : V} {e : Da} (hw : Rp K H φ χ w e) (q : Q' e (M.set n (.lst ds))) : Q w (upd H a (.lst vs)) :=
  f _ _ _ _ _ (Adv.mut (List.mem_of_getElem? h)) (m.mut (d := .lst ds) h ⟨vs, upd_same, r.adv (Adv.mut (List.mem_of_getElem? h))⟩) (hw.adv (Adv.mut (List.mem_of_getElem? h))) q
def nAppend : Da → List Da → Mem → TK → Prop := fun x ds M Q => match cellL M x, ds with
  | some (n, es), [y] => es.length < sizeLine ∧ Q .non (M.set n (.lst (es ++ [y])))
  | _, _ => False
theorem M_append : SMr K rAppend nAppend := by
  intro χ H φ M x dx xs dxs Q Q' m hx hxs f h
  unfold nAppend at h
  split at h
  · rename_i n es y e
    obtain ⟨w, rfl, h1⟩ := hxs.one
    obtain ⟨a, vs, rfl, ha, hl, r⟩ := cellL_of m hx e
    exact ⟨a, vs, w, rfl, rfl, hl, by rw [r.len]; exact h.1, f.mutL m ha (r.app (.cons h1 .nil)) .non h.2⟩
  · exact h.elim
def nExtend : Da → List Da → Mem → TK → Prop := fun x ds M Q => match cellL M x, ds with
  | some (n, es), [y] => match lookE M y with
    | .lst zs => es.length + zs.length ≤ sizeLine ∧ Q .non (M.set n (.lst (es ++ zs)))
    | _ => False
  | _, _ => False
def nInsert : Da → List Da → Mem → TK → Prop := fun x ds M Q => match cellL M x, ds with
  | some (n, es), [.int i, y] => es.length < sizeLine ∧ 0 ≤ i ∧ i < 2 ^ 63 ∧ Q .non (M.set n (.lst (es.take i.toNat ++ [y] ++ es.drop i.toNat)))
  | _, _ => False
def nPop : Da → List Da → Mem → TK → Prop := fun x ds M Q => match cellL M x, ds with
  | some (n, es), [] => match es[es.length - 1]? with
    | some y => Q y (M.set n (.lst es.dropLast))
    | none => False
  | some (n, es), [.int i] => -(2 ^ 63) ≤ i ∧ i < 2 ^ 63 ∧ ∃ k y, seqIndex? i es.length = some k ∧ es[k]? = some y ∧ Q y (M.set n (.lst (es.eraseIdx k)))
  | _, _ => False
theorem RpL.dropLast {vs : List V} {ds : List Da} (r : RpL K H φ χ vs ds) : RpL K H φ χ vs.dropLast ds.dropLast := by
  rw [List.dropLast_eq_take, List.dropLast_eq_take, r.len]
  exact r.take _
theorem M_pop : SMr K rPopA nPop := by
  intro χ H φ M x dx xs dxs Q Q' m hx hxs f h
  unfold nPop at h
  split at h
  · rename_i n es e
    cases hxs
    obtain ⟨a, vs, rfl, ha, hl, r⟩ := cellL_of m hx e
    split at h
    · rename_i y ey
      obtain ⟨w, e1, r1⟩ := r.get ey
      exact .inl ⟨a, vs, w, rfl, rfl, hl, by rw [r.len]; exact e1, f.mutL m ha r.dropLast r1 h⟩
    · exact h.elim
  · rename_i n es i e
    obtain ⟨u, rfl, h1⟩ := hxs.one
    obtain rfl := vInt h1
    obtain ⟨a, vs, rfl, ha, hl, r⟩ := cellL_of m hx e
    obtain ⟨p1, p2, k, y, p3, p4, q⟩ := h
    obtain ⟨w, e1, r1⟩ := r.get p4
    exact .inr ⟨a, vs, i, k, w, rfl, rfl, hl, p1, p2, by rw [r.len]; exact p3, e1, f.mutL m ha (r.erase k) r1 q⟩
  · exact h.elim
def nGet : Da → List Da → Mem → TK → Prop := fun x ds M Q => match look M x, ds with
  | .dct kds, [y] => ∃ k, keyD y = some k ∧ Q ((valD kds k).getD .non) M
  | .dct kds, [y, z] => ∃ k, keyD y = some k ∧ Q ((valD kds k).getD z) M
  | _, _ => False
def tabD (tab : List (Str × List Da)) (z : Str) : Option (List Da) := (tab.find? fun p => decide (p.1 = z)).map (·.2)
def nInK (tab : List (Str × List Da)) : MO := fun x _ M Q => match x with
  | .str z => Q (.bl (tabD tab z).isSome) M
  | _ => False
def nNinK (tab : List (Str × List Da)) : MO := fun x _ M Q => match x with
  | .str z => Q (.bl (!(tabD tab z).isSome)) M
  | _ => False
def nIxK (tab : List (Str × List Da)) : MO := fun _ y M Q => match y with
  | .str z => match tabD tab z with
    | some ds => Q (.kt ds) M
    | none => False
  | _ => False
end
end Z
namespace Z
open PySem PySem.Spec PyProof.Rows L2 Evl
section
variable {K : PySem.W.Frag}
def mVar (i : Nat) : ME := fun ρ M Q => match ρ[i]? with
  | some (some d) => Q d M
  | _ => False
theorem E_var (i : Nat) : SE K (fun _ => tVar i) (fun _ => mVar i) := ⟨fun r m _ f h => by
  unfold mVar at h
  split at h
  · rename_i d e
    obtain ⟨v, h1, h2⟩ := r.at_ _ _ e
    exact ⟨v, h1, f.pure m h2 h⟩
  · exact h.elim⟩
def mC (d : Da) : ME := fun _ M Q => Q d M
theorem E_non : SE K (fun _ => tC .non) (fun _ => mC .non) := ⟨fun _ m _ f h => f.pure m .non h⟩
theorem E_bl (b : Bool) : SE K (fun _ => tC (.bl b)) (fun _ => mC (.bl b)) := ⟨fun _ m _ f h => f.pure m (.bl b) h⟩
theorem E_int (i : Int) : SE K (fun _ => tC (.int i)) (fun _ => mC (.int i)) := ⟨fun _ m _ f h => f.pure m (.int i) h⟩
theorem E_str {s : Str} (hs : decide (s.length ≤ 16777216) = true) : SE K (fun _ => tC (.str s)) (fun _ => mC (.str s)) := ⟨fun _ m _ f h => f.pure m (.str (by rw [sizeLine_eq]; exact of_decide_eq_true hs)) h⟩
theorem E_ty (n : String) : SE K (fun _ => tC (.ty n)) (fun _ => mC (.ty n)) := ⟨fun _ m _ f h => f.pure m (.ty n) h⟩
/-- a tuple of the module -/
def KTup (K : PySem.W.Frag) (a : Addr) (ds : List Da) : Prop := ∃ vs, (∀ H, SqT K H a vs) ∧ ∀ H φ χ, RpL K H φ χ vs ds
theorem E_kt {a : Addr} {ds : List Da} (h : KTup K a ds) : SE K (fun _ => tC (.ref a)) (fun _ => mC (.kt ds)) := ⟨fun _ m _ f q => by
  obtain ⟨vs, h1, h2⟩ := h
  exact f.pure m (.ktK h1 (h2 _ _ _)) q⟩
variable {ta tb tc : WX → TE} {ma mb mc : WD → ME}
def mOp (n : MO) (ma mb : ME) : ME := fun ρ M Q => ma ρ M fun x M1 => mb ρ M1 fun y M2 => n x y M2 Q
theorem E_op {r : R2} {n : MO} (o : SO K r n) (a : SE K ta ma) (b : SE K tb mb) : SE K (fun W => tOp r (ta W) (tb W)) (fun W => mOp n (ma W) (mb W)) := ⟨fun r m w f h =>
  a.run r m w (fun v d H1 φ1 M1 A1 m1 r1 h1 => b.run (r.adv A1) m1 (w.adv A1) (fun u e H2 φ2 M2 A2 m2 r2 h2 => o m2 (r1.adv A2) r2 ((f.adv A1).adv A2) h2) h1) h⟩
def mOpR (n : MO) (ma : ME) : ME := fun ρ M Q => ma ρ M fun x M1 => n x .non M1 Q
def mOpL (n : MO) (ma : ME) : ME := fun ρ M Q => ma ρ M fun x M1 => n .non x M1 Q
def mNeg (ma : ME) : ME := fun ρ M Q => ma ρ M fun x M1 => match x with
  | .int i => Q (.int (-i)) M1
  | _ => False
theorem E_neg (a : SE K ta ma) : SE K (fun W => tUn (rU fun i => .int (-i)) (ta W)) (fun W => mNeg (ma W)) := ⟨fun r m w f h =>
  a.run r m w (fun v d H1 φ1 M1 A1 m1 r1 h1 => by
    split at h1
    · obtain rfl := vInt r1
      exact ⟨_, rfl, (f.adv A1).pure m1 (.int _) h1⟩
    · exact h1.elim) h⟩
def mNotV (ma : ME) : ME := fun ρ M Q => ma ρ M fun x M1 => match x with
  | .bl c => Q (.bl (!c)) M1
  | _ => False
theorem E_notV (a : SE K ta ma) : SE K (fun W => tNotV (ta W)) (fun W => mNotV (ma W)) := ⟨fun r m w f h =>
  a.run r m w (fun v d H1 φ1 M1 A1 m1 r1 h1 => by
    split at h1
    · obtain rfl := vBl r1
      exact ⟨_, rfl, (f.adv A1).pure m1 (.bl _) h1⟩
    · exact h1.elim) h⟩
def mAndV (ma mb : ME) : ME := fun ρ M Q => ma ρ M fun x M1 => match x with
  | .bl c => if c = true then mb ρ M1 Q else Q (.bl false) M1
  | _ => False
theorem E_andV (a : SE K ta ma) (b : SE K tb mb) : SE K (fun W => tAndV (ta W) (tb W)) (fun W => mAndV (ma W) (mb W)) := ⟨fun r m w f h =>
  a.run r m w (fun v d H1 φ1 M1 A1 m1 r1 h1 => by
    split at h1
    · rename_i c
      obtain rfl := vBl r1
      refine ⟨_, rfl, ?_⟩
      cases c with
      | true => exact b.run (r.adv A1) m1 (w.adv A1) (f.adv A1) h1
      | false => exact (f.adv A1).pure m1 (.bl _) h1
    · exact h1.elim) h⟩
def mOrV (ma mb : ME) : ME := fun ρ M Q => ma ρ M fun x M1 => match x with
  | .bl c => if c = true then Q (.bl true) M1 else mb ρ M1 Q
  | _ => False
theorem E_orV (a : SE K ta ma) (b : SE K tb mb) : SE K (fun W => tOrV (ta W) (tb W)) (fun W => mOrV (ma W) (mb W)) := ⟨fun r m w f h =>
  a.run r m w (fun v d H1 φ1 M1 A1 m1 r1 h1 => by
    split at h1
    · rename_i c
      obtain rfl := vBl r1
      refine ⟨_, rfl, ?_⟩
      cases c with
      | true => exact (f.adv A1).pure m1 (.bl _) h1
      | false => exact b.run (r.adv A1) m1 (w.adv A1) (f.adv A1) h1
    · exact h1.elim) h⟩
def mChain (n n' : MO) (ma mb mc : ME) : ME := fun ρ M Q => ma ρ M fun x M1 => mb ρ M1 fun y M2 => n x y M2 fun z M3 => match z with
  | .bl k => if k = true then mc ρ M3 fun u M4 => n' y u M4 Q else Q (.bl false) M3
  | _ => False
variable {tt tu : WX → TT} {mt mu : WD → MT}
def mIf (t : MT) (ma mb : ME) : ME := fun ρ M Q => t ρ M fun c M1 => if c = true then ma ρ M1 Q else mb ρ M1 Q
theorem E_if (t : ST K tt mt) (a : SE K ta ma) (b : SE K tb mb) : SE K (fun W => tIf (tt W) (ta W) (tb W)) (fun W => mIf (mt W) (ma W) (mb W)) := ⟨fun r m w f h =>
  t.run r m w (fun c H1 φ1 M1 A1 m1 h1 => by
    cases c with
    | true => exact a.run (r.adv A1) m1 (w.adv A1) (f.adv A1) h1
    | false => exact b.run (r.adv A1) m1 (w.adv A1) (f.adv A1) h1) h⟩
def mB (ma : ME) : MT := fun ρ M Q => ma ρ M fun x M1 => match x with
  | .bl c => Q c M1
  | _ => False
theorem E_test (a : SE K ta ma) : ST K (fun W => tTest (ta W)) (fun W => mB (ma W)) := ⟨fun r m w f h =>
  a.run r m w (fun v d H1 φ1 M1 A1 m1 r1 h1 => by
    split at h1
    · obtain rfl := vBl r1
      exact ⟨_, rfl, f _ _ _ _ A1 m1 h1⟩
    · exact h1.elim) h⟩
theorem E_B (a : SE K ta ma) : ST K (fun W => tB (ta W)) (fun W => mB (ma W)) := ⟨fun r m w f h => (E_test a).run r m w f h⟩
def mNot (t : MT) : MT := fun ρ M Q => t ρ M fun c M1 => Q (!c) M1
theorem E_not (t : ST K tt mt) : ST K (fun W => tNot (tt W)) (fun W => mNot (mt W)) := ⟨fun r m w f h => t.run r m w (fun c H1 φ1 M1 A1 m1 h1 => f _ _ _ _ A1 m1 h1) h⟩
def mAnd (t u : MT) : MT := fun ρ M Q => t ρ M fun c M1 => if c = true then u ρ M1 Q else Q false M1
theorem E_and (t : ST K tt mt) (u : ST K tu mu) : ST K (fun W => tAnd (tt W) (tu W)) (fun W => mAnd (mt W) (mu W)) := ⟨fun r m w f h => t.run r m w (fun c H1 φ1 M1 A1 m1 h1 => by
    cases c with
    | true => exact u.run (r.adv A1) m1 (w.adv A1) (f.adv A1) h1
    | false => exact f _ _ _ _ A1 m1 h1) h⟩
def mOr (t u : MT) : MT := fun ρ M Q => t ρ M fun c M1 => if c = true then Q true M1 else u ρ M1 Q
theorem E_or (t : ST K tt mt) (u : ST K tu mu) : ST K (fun W => tOr (tt W) (tu W)) (fun W => mOr (mt W) (mu W)) := ⟨fun r m w f h => t.run r m w (fun c H1 φ1 M1 A1 m1 h1 => by
    cases c with
    | true => exact f _ _ _ _ A1 m1 h1
    | false => exact u.run (r.adv A1) m1 (w.adv A1) (f.adv A1) h1) h⟩
def mYes : MT := fun _ M Q => Q true M
theorem E_yes : ST K (fun _ => tYes) (fun _ => mYes) := ⟨fun _ m _ f h => f _ _ _ _ Adv.refl m h⟩
variable {as : WX → TA} {ms : WD → MA}
def mNil : MA := fun _ M Q => Q [] M
theorem E_nil : SA K (fun _ => tNil) (fun _ => mNil) := ⟨fun _ m _ f h => f _ _ _ _ _ Adv.refl m .nil h⟩
def mCons (ma : ME) (ms : MA) : MA := fun ρ M Q => ma ρ M fun x M1 => ms ρ M1 fun xs M2 => Q (x :: xs) M2
theorem E_cons (a : SE K ta ma) (s : SA K as ms) : SA K (fun W => tCons (ta W) (as W)) (fun W => mCons (ma W) (ms W)) := ⟨fun r m w f h =>
  a.run r m w (fun v d H1 φ1 M1 A1 m1 r1 h1 => s.run (r.adv A1) m1 (w.adv A1) (fun vs ds H2 φ2 M2 A2 m2 r2 h2 => f _ _ _ _ _ (A1.trans A2) m2 (.cons (r1.adv A2) r2) h2) h1) h⟩
def mTup (s : MA) : ME := fun ρ M Q => s ρ M fun ds M1 => ds.length ≤ 1000000 ∧ Q (.tup ds) M1
def mLst (s : MA) : ME := fun ρ M Q => s ρ M fun ds M1 => ds.length ≤ 1000000 ∧ Q (.lst ds) M1
theorem mio {n : Nat} (h : n ≤ 1000000) : n ≤ sizeLine := by
  rw [sizeLine_eq]
  omega
theorem E_tup (s : SA K as ms) : SE K (fun W => tTup (as W)) (fun W => mTup (ms W)) := ⟨fun r m w f h =>
  s.run r m w (fun vs ds H1 φ1 M1 A1 m1 r1 h1 => ⟨by rw [r1.len]; exact mio h1.1, fun p hp => (f.adv A1).tup m1 r1 hp h1.2⟩) h⟩
theorem E_lst (s : SA K as ms) : SE K (fun W => tLst (as W)) (fun W => mLst (ms W)) := ⟨fun r m w f h =>
  s.run r m w (fun vs ds H1 φ1 M1 A1 m1 r1 h1 => ⟨by rw [r1.len]; exact mio h1.1, fun p hp => (f.adv A1).lst m1 r1 hp h1.2⟩) h⟩
def mDNew : ME := fun _ M Q => Q (.dct []) M
def mPairs : List (ME × ME) → Sl → Mem → (List (Key × Da) → Mem → Prop) → Prop
  | [], _, M, Q => Q [] M
  | (k, v) :: r, ρ, M, Q => k ρ M fun x M1 => v ρ M1 fun y M2 => match keyD x with
    | some kk => mPairs r ρ M2 fun ps M3 => Q ((kk, y) :: ps) M3
    | none => False
def mergeD (kds more : List (Key × Da)) : List (Key × Da) := more.foldl (fun acc kv => putD acc kv.1 kv.2) kds
def mDisp (ps : List (ME × ME)) : ME := fun ρ M Q => mPairs ps ρ M fun kds M1 => kds.length ≤ 15 ∧ Q (.dct (mergeD [] kds)) M1
inductive SPs (K : PySem.W.Frag) : (WX → List (TE × TE)) → (WD → List (ME × ME)) → Prop
  | nil : SPs K (fun _ => []) (fun _ => [])
  | cons {tk tv : WX → TE} {mk mv : WD → ME} {ts : WX → List (TE × TE)} {ms : WD → List (ME × ME)} : SE K tk mk → SE K tv mv → SPs K ts ms → SPs K (fun W => (tk W, tv W) :: ts W) (fun W => (mk W, mv W) :: ms W)
theorem SPs.run {ts : WX → List (TE × TE)} {ms : WD → List (ME × ME)} (s : SPs K ts ms) : ∀ {χ W W' σ H φ ρ M} {Q' : List (Key × Da) → Mem → Prop} {Q : List (V × V) → Hp → Prop}, Rs K H φ χ σ ρ → Mm K H φ χ M → FW K χ H φ W' W →
    (∀ v kvs kds H' φ' M', Adv H φ H' φ' → Mm K H' φ' χ M' → v = kvs.map (fun kv : Key × V => (kV kv.1, kv.2)) → RpK K H' φ' χ kvs kds → Q' kds M' → Q v H') → mPairs (ms W') ρ M Q' → tPairs (ts W) σ H Q := by
  induction s with
  | nil =>
    intro χ W W' σ H φ ρ M Q' Q r m w f h
    exact f _ [] _ _ _ _ Adv.refl m rfl .nil h
  | cons k v s ih =>
    intro χ W W' σ H φ ρ M Q' Q r m w f h
    exact k.run r m w (fun v1 d1 H1 φ1 M1 A1 m1 r1 h1 => v.run (r.adv A1) m1 (w.adv A1) (fun v2 d2 H2 φ2 M2 A2 m2 r2 h2 => by
      split at h2
      · rename_i kk e
        have e1 := keyD_of r1 e
        exact ih (r.adv (A1.trans A2)) m2 (w.adv (A1.trans A2)) (fun v3 kvs kds H3 φ3 M3 A3 m3 e3 r3 h3 =>
          f _ ((kk, v2) :: kvs) _ _ _ _ ((A1.trans A2).trans A3) m3 (by rw [e3, e1]; rfl) (.cons (r2.adv A3) r3) h3) h2
      · exact h2.elim) h1) h
theorem mergeD_run {H : Hp} {φ χ : List Addr} : ∀ {kvs : List (Key × V)} {kds : List (Key × Da)} {acc : List (Key × V)} {ads : List (Key × Da)}, RpK K H φ χ kvs kds → RpK K H φ χ acc ads → RpK K H φ χ (mergeK acc kvs) (mergeD ads kds)
  | _, _, _, _, .nil, a => a
  | _, _, _, _, .cons (k := k) h r, a => by
    have q := mergeD_run r (a.put (k := k) h)
    exact q
theorem FW.hide {χ : List Addr} {H : Hp} {φ : List Addr} {W' : WD} {W : WX} {D : Addr} (f : FW K χ H φ W' W) : FW K (D :: χ) H φ W' W := fun c fs vfs dd σ' H' φ' ρ' M' A r m h n1 n2 q =>
  f c fs vfs dd σ' H' φ' ρ' M' A r.bare m.bare h n1 (fun z => n2 (List.mem_cons_of_mem _ z)) q.bare
theorem E_disp {ts : WX → List (TE × TE)} {ms : WD → List (ME × ME)} (s : SPs K ts ms) : SE K (fun W => tDisp (ts W)) (fun W => mDisp (ms W)) := ⟨fun {χ W W' σ H φ ρ M Q Q'} r m w f h p hp => by
  refine s.run (χ := p :: χ) (r.hideN hp) (m.hideN hp) ((w.adv (Adv.new hp)).hide) ?_ h
  intro v kvs kds H1 φ1 M1 A1 m1 e1 rk h1
  have np : p ∉ φ := m.nin hp
  have hp1 : H1 p = some (.dK []) := A1.keep p _ upd_same np
  have np1 : p ∉ φ1 := A1.nin upd_same np
  have hD : p ∈ p :: χ := List.mem_cons_self ..
  refine ⟨hp1, kvs, e1, by rw [rk.len]; exact h1.1, ?_⟩
  have r2 : RpK K (upd H1 p (.dK (mergeK [] kvs))) φ1 (p :: χ) (mergeK [] kvs) (mergeD [] kds) := (mergeD_run rk .nil).at_ hD
  have A2 : Adv H φ (upd H1 p (.dK (mergeK [] kvs))) φ1 := {
    keep := fun a o e n => by
      rw [upd_ne (ne_of_none e hp)]
      exact A1.keep a o (by rw [upd_ne (ne_of_none e hp)]; exact e) n
    pre := by
      obtain ⟨ψ, e, q⟩ := A1.pre
      refine ⟨ψ, e, fun a ha => ?_⟩
      have z := q a ha
      by_cases ea : a = p
      · rw [ea, upd_same] at z; cases z
      · rw [upd_ne ea] at z; exact z
    dom := fun a e => upd_some (A1.dom a (upd_some e)) }
  exact f _ _ _ _ _ A2 (m1.updH hD).bare (.dct upd_same rfl np1 (fun c => m.hid p c hp) r2.bare) h1.2⟩
def mXf (a dd : Addr) (C f : Str) (i : Nat) : ME := fun ρ M Q => match ρ[i]? with
  | some (some (.exv a' dd' c fds)) => a' = a ∧ dd' = dd ∧ c = C ∧ match fds.lookup f with
    | some d => Q d M
    | none => False
  | _ => False
theorem RpF.look {H : Hp} {φ χ : List Addr} {f : Str} {d : Da} : ∀ {vs : List (Str × V)} {ds : List (Str × Da)}, RpF K H φ χ vs ds → ds.lookup f = some d → ∃ v, vs.lookup f = some v ∧ Rp K H φ χ v d
  | _, _, .nil, e => by cases e
  | _, _, .cons (k := k) h r, e => by
    rw [List.lookup_cons] at e ⊢
    cases q : f == k with
    | true =>
      rw [q] at e
      cases e
      exact ⟨_, rfl, h⟩
    | false =>
      rw [q] at e
      exact r.look e
abbrev MO2 := Sl → Mem → (Option Int → Mem → Prop) → Prop
structure SP2 (K : PySem.W.Frag) (te : WX → TO) (me : WD → MO2) : Prop where
  run : ∀ {χ W W' σ H φ ρ M} {Q : Option Int → Hp → Prop} {Q' : Option Int → Mem → Prop}, Rs K H φ χ σ ρ → Mm K H φ χ M → FW K χ H φ W' W → (∀ b H' φ' M', Adv H φ H' φ' → Mm K H' φ' χ M' → Q' b M' → Q b H') → me W' ρ M Q' → te W σ H Q
def mNoPart : MO2 := fun _ M Q => Q none M
theorem E_nopart : SP2 K (fun _ => tNoPart) (fun _ => mNoPart) := ⟨fun _ m _ f h => f _ _ _ _ Adv.refl m h⟩
def mPart (ma : ME) : MO2 := fun ρ M Q => ma ρ M fun x M1 => match x with
  | .int i => Q (some i) M1
  | _ => False
theorem E_part (a : SE K ta ma) : SP2 K (fun W => tPart (ta W)) (fun W => mPart (ma W)) := ⟨fun r m w f h =>
  a.run r m w (fun v d H1 φ1 M1 A1 m1 r1 h1 => by
    split at h1
    · obtain rfl := vInt r1
      exact ⟨_, rfl, f _ _ _ _ A1 m1 h1⟩
    · exact h1.elim) h⟩
variable {tl th : WX → TO} {ml mh : WD → MO2}
def mSl (n : MO3) (ma : ME) (ml mh : MO2) : ME := fun ρ M Q => ma ρ M fun x M1 => ml ρ M1 fun l M2 => mh ρ M2 fun u M3 => n x l u M3 Q
theorem E_sl {r : V → Option Int → Option Int → Hp → VK → Prop} {n : MO3} (o : SO3 K r n) (a : SE K ta ma) (l : SP2 K tl ml) (h : SP2 K th mh) : SE K (fun W => tSl r (ta W) (tl W) (th W)) (fun W => mSl n (ma W) (ml W) (mh W)) := ⟨fun r m w f hh =>
  a.run r m w (fun v d H1 φ1 M1 A1 m1 r1 h1 => l.run (r.adv A1) m1 (w.adv A1) (fun x H2 φ2 M2 A2 m2 h2 => h.run (r.adv (A1.trans A2)) m2 (w.adv (A1.trans A2)) (fun y H3 φ3 M3 A3 m3 h3 => o m3 (r1.adv (A2.trans A3)) (f.adv ((A1.trans A2).trans A3)) h3) h2) h1) hh⟩
def mCB (n : List Da → Mem → TK → Prop) (s : MA) : ME := fun ρ M Q => s ρ M fun ds M1 => n ds M1 Q
theorem E_cb {r : List V → Hp → VK → Prop} {n : List Da → Mem → TK → Prop} (c : SC K r n) (s : SA K as ms) : SE K (fun W => tCB r (as W)) (fun W => mCB n (ms W)) := ⟨fun r m w f h =>
  s.run r m w (fun vs ds H1 φ1 M1 A1 m1 r1 h1 => c m1 r1 (f.adv A1) h1) h⟩
/-- the kind of thing that a method belongs to -/
def okM (T : String) : Da → Mem → Prop := if T = "str" then okS else if T = "list" then okLs else if T = "dict" then okDc else fun _ _ => False
theorem okM_run {H : Hp} {φ χ : List Addr} {M : Mem} {T : String} {v : V} {d : Da} (m : Mm K H φ χ M) (h : Rp K H φ χ v d) (o : okM T d M) : tyW K T v H := by
  unfold okM at o
  split at o
  · rename_i e; rw [e]; exact okS_run h o
  · split at o
    · rename_i e; rw [e]; exact okL_run m h o
    · split at o
      · rename_i e; rw [e]; exact okD_run m h o
      · exact o.elim
def mBM (T : String) (n : Da → List Da → Mem → TK → Prop) (ma : ME) (s : MA) : ME := fun ρ M Q => ma ρ M fun x M1 => okM T x M1 ∧ s ρ M1 fun xs M2 => n x xs M2 Q
def mBM0 (T : String) (n : Da → List Da → Mem → TK → Prop) (ma : ME) : ME := fun ρ M Q => ma ρ M fun x M1 => okM T x M1 ∧ n x [] M1 Q
theorem E_bm {T : String} {r : V → List V → Hp → VK → Prop} {n : Da → List Da → Mem → TK → Prop} (o : SMr K r n) (a : SE K ta ma) (s : SA K as ms) : SE K (fun W => tBMW K T r (ta W) (as W)) (fun W => mBM T n (ma W) (ms W)) := ⟨fun r m w f h =>
  a.run r m w (fun v d H1 φ1 M1 A1 m1 r1 h1 => ⟨okM_run m1 r1 h1.1, s.run (r.adv A1) m1 (w.adv A1) (fun vs ds H2 φ2 M2 A2 m2 r2 h2 => o m2 (r1.adv A2) r2 (f.adv (A1.trans A2)) h2) h1.2⟩) h⟩
theorem E_bm0 {T : String} {r : V → List V → Hp → VK → Prop} {n : Da → List Da → Mem → TK → Prop} (o : SMr K r n) (a : SE K ta ma) : SE K (fun W => tBM0W K T r (ta W)) (fun W => mBM0 T n (ma W)) := ⟨fun r m w f h =>
  a.run r m w (fun v d H1 φ1 M1 A1 m1 r1 h1 => ⟨okM_run m1 r1 h1.1, o m1 r1 .nil (f.adv A1) h1.2⟩) h⟩
variable {tg tg' : WX → TG} {mg mg' : WD → MG} {gs : WX → TGs} {mgs : WD → MGs}
def hName (i : Nat) : MG := fun d ρ M Q => Q (ρ.set i (some d)) M
theorem G_name (i : Nat) : SG K (fun _ => gName i) (fun _ => hName i) := ⟨fun r m w rv f h => f _ _ _ _ _ Adv.refl (r.set rv) m h⟩
def hNil : MGs := fun ds ρ M Q => ds = [] ∧ Q ρ M
theorem G_nil : SGs K (fun _ => gNil) (fun _ => hNil) := ⟨fun r m w rv f h => by
  obtain ⟨rfl, h⟩ := h
  cases rv
  exact ⟨rfl, f _ _ _ _ _ Adv.refl r m h⟩⟩
def hCons (g : MG) (gs : MGs) : MGs := fun ds ρ M Q => match ds with
  | d :: ds => g d ρ M fun ρ' M' => gs ds ρ' M' Q
  | [] => False
theorem G_cons (g : SG K tg mg) (s : SGs K gs mgs) : SGs K (fun W => gCons (tg W) (gs W)) (fun W => hCons (mg W) (mgs W)) := ⟨fun r m w rv f h => by
  unfold hCons at h
  split at h
  · cases rv with
    | cons h1 r1 =>
      exact ⟨_, _, rfl, g.run r m w h1 (fun σ' H' φ' ρ' M' A r' m' h' => s.run r' m' (w.adv A) (r1.adv A) (f.adv A) h') h⟩
  · exact h.elim⟩
def hTup (n : Nat) (gs : MGs) : MG := fun d ρ M Q => match look M d with
  | .tup ds => ds.length = n ∧ gs ds ρ M Q
  | _ => False
theorem G_tup {n : Nat} (s : SGs K gs mgs) : SG K (fun W => gTup K n (gs W)) (fun W => hTup n (mgs W)) := ⟨fun r m w rv f h => by
  unfold hTup at h
  split at h
  · rename_i ds e
    obtain ⟨a, vs, rfl, hs, rl⟩ := vT m rv e
    exact ⟨a, vs, rfl, hs, by rw [rl.len]; exact h.1, s.run r m w rl f h.2⟩
  · exact h.elim⟩
def hStar (n i : Nat) (gs : MGs) : MG := fun d ρ M Q => match seqD M d with
  | some ds => n ≤ ds.length + 1 ∧ ds.length ≤ 16384 ∧ gs (ds.take i ++ [.lst ((ds.drop i).take (ds.length + 1 - n))] ++ (ds.drop i).drop (ds.length + 1 - n)) ρ M Q
  | none => False
abbrev MSet := Da → Da → Da → Mem → (Mem → Prop) → Prop
def SSet (K : PySem.W.Frag) (r : TSet) (n : MSet) : Prop := ∀ {χ H φ M o i v dO di dv} {Q : Hp → Prop} {Q' : Mem → Prop}, Mm K H φ χ M → Rp K H φ χ o dO → Rp K H φ χ i di → Rp K H φ χ v dv → (∀ H' φ' M', Adv H φ H' φ' → Mm K H' φ' χ M' → Q' M' → Q H') → n dO di dv M Q' → r o i v H Q
def nSet : MSet := fun o i v M Q => match o with
  | .cell n => match M[n]? with
    | some (.lst ds) => match i with
      | .int k => match ixN ds.length k with
        | some j => Q (M.set n (.lst (ds.set j v)))
        | none => False
      | _ => False
    | some (.dct kds) => ∃ k, keyD i = some k ∧ kds.length ≤ 1000000 ∧ Q (M.set n (.dct (putD kds k v)))
    | _ => False
  | _ => False
theorem O_set : SSet K rSetB nSet := by
  intro χ H φ M o i v dO di dv Q Q' m ho hi hv f h
  unfold nSet at h
  split at h
  · cases ho with
    | cell ha =>
      split at h
      · rename_i n ds e
        obtain ⟨vs, e1, r⟩ := m.at_ _ _ _ ha e
        split at h
        · obtain rfl := vInt hi
          split at h
          · rename_i j ej
            refine .inl ⟨_, vs, _, j, rfl, rfl, e1, by rw [r.len]; exact ej, f _ _ _ (Adv.mut (List.mem_of_getElem? ha)) (m.mut (d := .lst _) ha ⟨_, upd_same, (r.set hv j).adv (Adv.mut (List.mem_of_getElem? ha))⟩) h⟩
          · exact h.elim
        · exact h.elim
      · rename_i n kds e
        obtain ⟨kvs, e1, r⟩ := m.at_ _ _ _ ha e
        obtain ⟨k, hk, hl, q⟩ := h
        refine .inr ⟨_, _, rfl, .inl ⟨kvs, k, e1, keyD_of hi hk, by rw [r.len, sizeLine_eq]; omega, rfl⟩, f _ _ _ (Adv.mut (List.mem_of_getElem? ha)) (m.mut (d := .dct _) ha ⟨_, upd_same, (r.put hv).adv (Adv.mut (List.mem_of_getElem? ha))⟩) q⟩
      · exact h.elim
  · exact h.elim
def hSub (mo mi : ME) (n : MSet) : MG := fun d ρ M Q => mo ρ M fun o M1 => mi ρ M1 fun i M2 => n o i d M2 fun M3 => Q ρ M3
theorem G_sub {r : TSet} {n : MSet} (o : SSet K r n) (a : SE K ta ma) (b : SE K tb mb) : SG K (fun W => gSub (ta W) (tb W) r) (fun W => hSub (ma W) (mb W) n) := ⟨fun r m w rv f h =>
  a.run r m w (fun v d H1 φ1 M1 A1 m1 r1 h1 => b.run (r.adv A1) m1 (w.adv A1) (fun u e H2 φ2 M2 A2 m2 r2 h2 => o m2 (r1.adv A2) r2 (rv.adv (A1.trans A2)) (fun H3 φ3 M3 A3 m3 h3 => f _ _ _ _ _ ((A1.trans A2).trans A3) (r.adv ((A1.trans A2).trans A3)) m3 h3) h2) h1) h⟩
end
end Z
namespace Z
open PySem PySem.Spec PyProof.Rows L2 Evl
section
variable {K : PySem.W.Frag} {ta tb : WX → TE} {ma mb : WD → ME} {as : WX → TA} {ms : WD → MA}
def ldD : Da → Bool
  | .lst _ => true
  | .dct _ => true
  | _ => false
structure SN (K : PySem.W.Frag) (te : WX → TE) (me : WD → ME) : Prop where
  run : ∀ {χ W W' σ H φ ρ M} {Q : VK} {Q' : TK}, Rs K H φ χ σ ρ → Mm K H φ χ M → FW K χ H φ W' W → (∀ d M', Q' d M' → ldD d = true) →
    (∀ p d H' φ' M', Adv H φ H' φ' → H p = none → p ∉ φ' → p ∉ χ → Mm K H' φ' (p :: χ) M' → CellAt K H' φ' (p :: χ) p d → Q' d M' → Q (.ref p) H') → me W' ρ M Q' → te W σ H Q
/-- the simple way: a new list at the end -/
theorem SN.lst {χ φ φ1 : List Addr} {H H1 : Hp} {M1 : Mem} {Q : VK} {Q' : TK} (f : ∀ p d H' φ' M', Adv H φ H' φ' → H p = none → p ∉ φ' → p ∉ χ → Mm K H' φ' (p :: χ) M' → CellAt K H' φ' (p :: χ) p d → Q' d M' → Q (.ref p) H')
    {p : Addr} {vs : List V} {ds : List Da} (A : Adv H φ H1 φ1) (m : Mm K H1 φ1 χ M1) (hp : H1 p = none) (r : RpL K H1 φ1 χ vs ds) (q : Q' (.lst ds) M1) : Q (.ref p) (upd H1 p (.lst vs)) := by
  have h0 : H p = none := by
    cases e : H p with
    | none => rfl
    | some o => exact absurd hp (A.dom p (by rw [e]; simp))
  refine f p (.lst ds) _ φ1 M1 (A.trans (Adv.new hp)) h0 (m.nin hp) (fun c => m.hid p c hp) (m.hideN hp) ⟨vs, upd_same, (r.hide hp).at_ (List.mem_cons_self ..)⟩ q
theorem SN.dct {χ φ φ1 : List Addr} {H H1 : Hp} {M1 : Mem} {Q : VK} {Q' : TK} (f : ∀ p d H' φ' M', Adv H φ H' φ' → H p = none → p ∉ φ' → p ∉ χ → Mm K H' φ' (p :: χ) M' → CellAt K H' φ' (p :: χ) p d → Q' d M' → Q (.ref p) H')
    {p : Addr} {vs : List (Key × V)} {ds : List (Key × Da)} (A : Adv H φ H1 φ1) (m : Mm K H1 φ1 χ M1) (hp : H1 p = none) (r : RpK K H1 φ1 χ vs ds) (q : Q' (.dct ds) M1) : Q (.ref p) (upd H1 p (.dK vs)) := by
  have h0 : H p = none := by
    cases e : H p with
    | none => rfl
    | some o => exact absurd hp (A.dom p (by rw [e]; simp))
  refine f p (.dct ds) _ φ1 M1 (A.trans (Adv.new hp)) h0 (m.nin hp) (fun c => m.hid p c hp) (m.hideN hp) ⟨vs, upd_same, (r.hide hp).at_ (List.mem_cons_self ..)⟩ q
theorem N_lst (s : SA K as ms) : SN K (fun W => tLst (as W)) (fun W => mLst (ms W)) := ⟨fun r m w sh f h =>
  s.run r m w (fun vs ds H1 φ1 M1 A1 m1 r1 h1 => ⟨by rw [r1.len]; exact mio h1.1, fun p hp => SN.lst f A1 m1 hp r1 h1.2⟩) h⟩
theorem N_dnew : SN K (fun _ => tDNewK) (fun _ => mDNew) := ⟨fun r m w sh f h p hp => SN.dct f Adv.refl m hp .nil h⟩
theorem N_list (s : SA K as ms) : SN K (fun W => tCB (rListA K) (as W)) (fun W => mCB nList (ms W)) := ⟨fun r m w sh f h =>
  s.run r m w (fun vs ds H1 φ1 M1 A1 m1 r1 h1 => by
    unfold nList at h1
    split at h1
    · obtain ⟨v, rfl, h2⟩ := r1.one
      split at h1
      · rename_i ds e
        obtain ⟨a, vs, rfl, hs, rl⟩ := seqD_of m1 h2 e
        exact ⟨a, vs, rfl, hs, fun l hl => SN.lst f A1 m1 hl rl h1⟩
      · exact h1.elim
    · exact h1.elim) h⟩
/-- the new object as a cell -/
def mCell (ma : ME) : ME := fun ρ M Q => ma ρ M fun d M1 => match d with
  | .lst ds => Q (.cell M1.length) (M1 ++ [.lst ds])
  | .dct kds => Q (.cell M1.length) (M1 ++ [.dct kds])
  | _ => False
theorem snoc_at {α : Type} (l : List α) (a : α) : (l ++ [a])[l.length]? = some a := by simp
theorem nap {α : Type} {a p : α} {l : List α} (h : a ∉ l) (n : a ≠ p) : a ∉ l ++ [p] := fun m => (List.mem_append.1 m).elim h fun q => n (List.mem_singleton.1 q)
theorem nhd {α : Type} {a p : α} {l : List α} (h : a ∉ p :: l) : a ≠ p ∧ a ∉ l := ⟨fun e => h (by rw [e]; exact List.mem_cons_self ..), fun m => h (List.mem_cons_of_mem _ m)⟩
mutual
theorem Rp.toC {H : Hp} {φ χ : List Addr} {p : Addr} : ∀ {v : V} {d : Da}, Rp K H φ (p :: χ) v d → Rp K H (φ ++ [p]) χ v d
  | _, _, .non => .non
  | _, _, .bl b => .bl b
  | _, _, .int i => .int i
  | _, _, .str h => .str h
  | _, _, .ty n => .ty n
  | _, _, .gl x => .gl x
  | _, _, .tup h n m r => .tup h (nap n (nhd m).1) (nhd m).2 (RpL.toC r)
  | _, _, .lst h n m r => .lst h (nap n (nhd m).1) (nhd m).2 (RpL.toC r)
  | _, _, .dct h c n m r => .dct h c (nap n (nhd m).1) (nhd m).2 (RpK.toC r)
  | _, _, .obj h n m r => .obj h (nap n (nhd m).1) (nhd m).2 (RpF.toC r)
  | _, _, .klR h q n m r => .klR h q (nap n (nhd m).1) (nhd m).2 (RpL.toC r)
  | _, _, .klK h r => .klK h (RpL.toC r)
  | _, _, .ktK h r => .ktK h (RpL.toC r)
  | _, _, .cell h => .cell (by rw [List.getElem?_append_left (List.getElem?_eq_some_iff.1 h).1]; exact h)
  | _, _, .exv h n m r => .exv h (nap n (nhd m).1) (nhd m).2 (RpF.toC r)
theorem RpL.toC {H : Hp} {φ χ : List Addr} {p : Addr} : ∀ {v : List V} {d : List Da}, RpL K H φ (p :: χ) v d → RpL K H (φ ++ [p]) χ v d
  | _, _, .nil => .nil
  | _, _, .cons h r => .cons (Rp.toC h) (RpL.toC r)
theorem RpK.toC {H : Hp} {φ χ : List Addr} {p : Addr} : ∀ {v : List (Key × V)} {d : List (Key × Da)}, RpK K H φ (p :: χ) v d → RpK K H (φ ++ [p]) χ v d
  | _, _, .nil => .nil
  | _, _, .cons h r => .cons (Rp.toC h) (RpK.toC r)
theorem RpF.toC {H : Hp} {φ χ : List Addr} {p : Addr} : ∀ {v : List (Str × V)} {d : List (Str × Da)}, RpF K H φ (p :: χ) v d → RpF K H (φ ++ [p]) χ v d
  | _, _, .nil => .nil
  | _, _, .cons h r => .cons (Rp.toC h) (RpF.toC r)
end
theorem CellAt.toC {H : Hp} {φ χ : List Addr} {p a : Addr} {d : Da} (c : CellAt K H φ (p :: χ) a d) : CellAt K H (φ ++ [p]) χ a d := by
  cases d with
  | lst ds => obtain ⟨vs, q, r⟩ := c; exact ⟨vs, q, r.toC⟩
  | dct ds => obtain ⟨vs, q, r⟩ := c; exact ⟨vs, q, r.toC⟩
  | obj c ds => obtain ⟨dx, vs, q, r⟩ := c; exact ⟨dx, vs, q, r.toC⟩
  | gl x => exact c
  | _ => exact c.elim
theorem Mm.toC {H : Hp} {φ χ : List Addr} {p : Addr} {M : Mem} {d : Da} (m : Mm K H φ (p :: χ) M) (np : p ∉ φ) (nx : p ∉ χ) (c : CellAt K H φ (p :: χ) p d) : Mm K H (φ ++ [p]) χ (M ++ [d]) where
  nd := by
    rw [List.nodup_append]
    refine ⟨m.nd, by simp, fun a ha b hb q => ?_⟩
    rw [List.mem_singleton.1 hb] at q
    exact np (by rw [← q]; exact ha)
  len := by rw [List.length_append, List.length_append, m.len]; rfl
  dis := fun a ha => by
    rcases List.mem_append.1 ha with ha | ha
    · exact (nhd (m.dis a ha)).2
    · rw [List.mem_singleton.1 ha]; exact nx
  hid := fun a ha => m.hid a (List.mem_cons_of_mem _ ha)
  at_ := fun n a e e1 e2 => by
    by_cases l : n < φ.length
    · rw [List.getElem?_append_left l] at e1
      rw [List.getElem?_append_left (by rw [← m.len]; exact l)] at e2
      exact (m.at_ n a e e1 e2).toC
    · have l2 : φ.length ≤ n := Nat.le_of_not_lt l
      rw [List.getElem?_append_right l2] at e1
      rw [List.getElem?_append_right (by rw [← m.len]; exact l2)] at e2
      have z : n - φ.length = 0 := by
        have := (List.getElem?_eq_some_iff.1 e1).1
        simp at this
        omega
      rw [z] at e1
      rw [show n - M.length = 0 by rw [← m.len]; exact z] at e2
      simp at e1 e2
      rw [← e1, ← e2]
      exact c.toC
theorem E_cell (a : SN K ta ma) : SE K ta (fun W => mCell (ma W)) := ⟨fun {χ W W' σ H φ ρ M Q Q'} r m w f h => by
  refine a.run r m w (Q' := fun d M1 => match d with | .lst ds => Q' (.cell M1.length) (M1 ++ [.lst ds]) | .dct kds => Q' (.cell M1.length) (M1 ++ [.dct kds]) | _ => False) ?_ ?_ h
  · intro d M1 q
    split at q
    · rfl
    · rfl
    · exact q.elim
  · intro p d H' φ' M' A hp np nx m' c q
    have A2 : Adv H φ H' (φ' ++ [p]) := ⟨A.keep, by
      obtain ⟨ψ, e, z⟩ := A.pre
      refine ⟨ψ ++ [p], by rw [e]; simp, fun a ha => ?_⟩
      rcases List.mem_append.1 ha with ha | ha
      · exact z a ha
      · rw [List.mem_singleton.1 ha]; exact hp, A.dom⟩
    have at_ : (φ' ++ [p])[M'.length]? = some p := by
      rw [← m'.len]
      exact snoc_at _ _
    split at q
    · exact f _ _ _ (φ' ++ [p]) _ A2 (m'.toC np nx c) (.cell at_) q
    · exact f _ _ _ (φ' ++ [p]) _ A2 (m'.toC np nx c) (.cell at_) q
    · exact q.elim⟩
variable {ts us : WX → TS} {mt mu : WD → MS} {tt : WX → TT} {mtt : WD → MT} {tg : WX → TG} {mg : WD → MG}
def mNext : MS := fun D ρ M => D.nx ρ M
theorem S_next : SS K (fun _ => tNext) (fun _ => mNext) := ⟨fun r m w n t b c h => n _ _ _ _ _ Adv.refl r m h⟩
def mSeq (t u : MS) : MS := fun D ρ M => t { D with nx := fun ρ M => u D ρ M } ρ M
theorem S_seq (s : SS K ts mt) (u : SS K us mu) : SS K (fun W => tSeq (ts W) (us W)) (fun W => mSeq (mt W) (mu W)) := ⟨fun {χ W W' σ H φ ρ M D D'} r m w n t b c h =>
  s.run (D' := { D' with nx := fun ρ M => mu W' D' ρ M }) (D := { D with nx := us W D }) r m w (fun σ' H' φ' ρ' M' A r' m' h' => u.run r' m' (w.adv A) (n.adv A) (t.adv A) (b.adv A) (c.adv A) h') t b c h⟩
def mCut (t u : MS) : MS := fun D ρ M => ∃ Mid : Sl → Mem → Prop, t { D with nx := Mid } ρ M ∧ ∀ ρ' M', Mid ρ' M' → u D ρ' M'
theorem S_cut (s : SS K ts mt) (u : SS K us mu) : SS K (fun W => tCut (ts W) (us W)) (fun W => mCut (mt W) (mu W)) := ⟨fun {χ W W' σ H φ ρ M D D'} r m w n t b c h => by
  obtain ⟨Mid, h1, h2⟩ := h
  exact ⟨us W D, s.run (D' := { D' with nx := Mid }) (D := { D with nx := us W D }) r m w (fun σ' H' φ' ρ' M' A r' m' h' => u.run r' m' (w.adv A) (n.adv A) (t.adv A) (b.adv A) (c.adv A) (h2 _ _ h')) t b c h1, fun _ _ h => h⟩⟩
def mRet (ma : ME) : MS := fun D ρ M => ma ρ M D.rt
theorem S_ret (a : SE K ta ma) : SS K (fun W => tRet (ta W)) (fun W => mRet (ma W)) := ⟨fun r m w n t b c h => a.run r m w t h⟩
def mRetN : MS := fun D _ M => D.rt .non M
def mIfS (c : MT) (t u : MS) : MS := fun D ρ M => c ρ M fun k M1 => if k = true then t D ρ M1 else u D ρ M1
theorem S_if (k : ST K tt mtt) (s : SS K ts mt) (u : SS K us mu) : SS K (fun W => tIfS (tt W) (ts W) (us W)) (fun W => mIfS (mtt W) (mt W) (mu W)) := ⟨fun r m w n t b c h =>
  k.run r m w (fun k H1 φ1 M1 A1 m1 h1 => by
    cases k with
    | true => exact s.run (r.adv A1) m1 (w.adv A1) (n.adv A1) (t.adv A1) (b.adv A1) (c.adv A1) h1
    | false => exact u.run (r.adv A1) m1 (w.adv A1) (n.adv A1) (t.adv A1) (b.adv A1) (c.adv A1) h1) h⟩
def mDrop (ma : ME) : MS := fun D ρ M => ma ρ M fun _ M1 => D.nx ρ M1
theorem S_drop (a : SE K ta ma) : SS K (fun W => tDrop (ta W)) (fun W => mDrop (ma W)) := ⟨fun r m w n t b c h => a.run r m w (fun v d H1 φ1 M1 A1 m1 r1 h1 => n _ _ _ _ _ A1 (r.adv A1) m1 h1) h⟩
def mAsg (ma : ME) (g : MG) : MS := fun D ρ M => ma ρ M fun x M1 => g x ρ M1 D.nx
theorem S_asg (a : SE K ta ma) (g : SG K tg mg) : SS K (fun W => tAsg (ta W) (tg W)) (fun W => mAsg (ma W) (mg W)) := ⟨fun r m w n t b c h =>
  a.run r m w (fun v d H1 φ1 M1 A1 m1 r1 h1 => g.run (r.adv A1) m1 (w.adv A1) r1 (n.adv A1) h1) h⟩
def mPar (i j : Nat) (s : MA) : MS := fun D ρ M => s ρ M fun ds M1 => match ds with
  | [x, y] => D.nx ((ρ.set i (some x)).set j (some y)) M1
  | _ => False
theorem S_par {i j : Nat} (s : SA K as ms) : SS K (fun W => tPar i j (as W)) (fun W => mPar i j (ms W)) := ⟨fun r m w n t b c h =>
  s.run r m w (fun vs ds H1 φ1 M1 A1 m1 r1 h1 => by
    split at h1
    · obtain ⟨v, u, rfl, h2, h3⟩ := r1.two
      exact ⟨v, u, rfl, n _ _ _ _ _ A1 (((r.adv A1).set h2).set h3) m1 h1⟩
    · exact h1.elim) h⟩
theorem RpL.three {H : Hp} {φ χ : List Addr} {vs : List V} {d e f : Da} (r : RpL K H φ χ vs [d, e, f]) : ∃ v w u, vs = [v, w, u] ∧ Rp K H φ χ v d ∧ Rp K H φ χ w e ∧ Rp K H φ χ u f := by
  cases r with
  | cons h r =>
    obtain ⟨w, u, rfl, q, q'⟩ := r.two
    exact ⟨_, w, u, rfl, h, q, q'⟩
def mPar3 (i j l : Nat) (s : MA) : MS := fun D ρ M => s ρ M fun ds M1 => match ds with
  | [x, y, z] => D.nx (((ρ.set i (some x)).set j (some y)).set l (some z)) M1
  | _ => False
theorem S_par3 {i j l : Nat} (s : SA K as ms) : SS K (fun W => tPar3 i j l (as W)) (fun W => mPar3 i j l (ms W)) := ⟨fun r m w n t b c h =>
  s.run r m w (fun vs ds H1 φ1 M1 A1 m1 r1 h1 => by
    split at h1
    · obtain ⟨v, u, z, rfl, h2, h3, h4⟩ := r1.three
      exact ⟨v, u, z, rfl, n _ _ _ _ _ A1 ((((r.adv A1).set h2).set h3).set h4) m1 h1⟩
    · exact h1.elim) h⟩
/-- from one heap to a later one, but for what is hidden -/
structure AdvX (χ : List Addr) (H : Hp) (φ : List Addr) (H' : Hp) (φ' : List Addr) : Prop where
  keep : ∀ a o, H a = some o → a ∉ φ → a ∉ χ → H' a = some o
  pre : ∃ ψ, φ' = φ ++ ψ ∧ ∀ a ∈ ψ, H a = none
theorem Adv.toX {χ : List Addr} {H H' : Hp} {φ φ' : List Addr} (A : Adv H φ H' φ') : AdvX χ H φ H' φ' := ⟨fun a o h n _ => A.keep a o h n, A.pre⟩
theorem AdvX.nin {χ : List Addr} {H H' : Hp} {φ φ' : List Addr} (A : AdvX χ H φ H' φ') {a : Addr} {o : HO} (h : H a = some o) (n : a ∉ φ) : a ∉ φ' := by
  obtain ⟨ψ, rfl, q⟩ := A.pre
  intro m
  rcases List.mem_append.1 m with m | m
  · exact n m
  · rw [q a m] at h
    cases h
theorem AdvX.at_ {χ : List Addr} {H H' : Hp} {φ φ' : List Addr} (A : AdvX χ H φ H' φ') {n : Nat} {a : Addr} (h : φ[n]? = some a) : φ'[n]? = some a := by
  obtain ⟨ψ, rfl, _⟩ := A.pre
  rw [List.getElem?_append_left (List.getElem?_eq_some_iff.1 h).1]
  exact h
section
variable {H0 H : Hp} {φ0 φ χ χ1 : List Addr}
mutual
theorem Rp.at1 (hχ : ∀ a ∈ χ1, a ∈ χ ∨ H0 a = none) (A : AdvX χ H0 φ0 H φ) : ∀ {v : V} {d : Da}, Rp K H0 φ0 χ v d → Rp K H φ χ1 v d
  | _, _, .non => .non
  | _, _, .bl b => .bl b
  | _, _, .int i => .int i
  | _, _, .str h => .str h
  | _, _, .ty n => .ty n
  | _, _, .gl x => .gl x
  | _, _, .tup h n m r => .tup (A.keep _ _ h n m) (A.nin h n) (fun q => (hχ _ q).elim m fun z => ne_of_none h z rfl) (RpL.at1 hχ A r)
  | _, _, .lst h n m r => .lst (A.keep _ _ h n m) (A.nin h n) (fun q => (hχ _ q).elim m fun z => ne_of_none h z rfl) (RpL.at1 hχ A r)
  | _, _, .dct h c n m r => .dct (A.keep _ _ h n m) c (A.nin h n) (fun q => (hχ _ q).elim m fun z => ne_of_none h z rfl) (RpK.at1 hχ A r)
  | _, _, .obj h n m r => .obj (A.keep _ _ h n m) (A.nin h n) (fun q => (hχ _ q).elim m fun z => ne_of_none h z rfl) (RpF.at1 hχ A r)
  | _, _, .klR h e n m r => .klR (A.keep _ _ h n m) e (A.nin h n) (fun q => (hχ _ q).elim m fun z => ne_of_none h z rfl) (RpL.at1 hχ A r)
  | _, _, .klK h r => .klK h (RpL.at1 hχ A r)
  | _, _, .ktK h r => .ktK h (RpL.at1 hχ A r)
  | _, _, .cell h => .cell (A.at_ h)
  | _, _, .exv h n m r => .exv (A.keep _ _ h n m) (A.nin h n) (fun q => (hχ _ q).elim m fun z => ne_of_none h z rfl) (RpF.at1 hχ A r)
theorem RpL.at1 (hχ : ∀ a ∈ χ1, a ∈ χ ∨ H0 a = none) (A : AdvX χ H0 φ0 H φ) : ∀ {v : List V} {d : List Da}, RpL K H0 φ0 χ v d → RpL K H φ χ1 v d
  | _, _, .nil => .nil
  | _, _, .cons h r => .cons (Rp.at1 hχ A h) (RpL.at1 hχ A r)
theorem RpK.at1 (hχ : ∀ a ∈ χ1, a ∈ χ ∨ H0 a = none) (A : AdvX χ H0 φ0 H φ) : ∀ {v : List (Key × V)} {d : List (Key × Da)}, RpK K H0 φ0 χ v d → RpK K H φ χ1 v d
  | _, _, .nil => .nil
  | _, _, .cons h r => .cons (Rp.at1 hχ A h) (RpK.at1 hχ A r)
theorem RpF.at1 (hχ : ∀ a ∈ χ1, a ∈ χ ∨ H0 a = none) (A : AdvX χ H0 φ0 H φ) : ∀ {v : List (Str × V)} {d : List (Str × Da)}, RpF K H0 φ0 χ v d → RpF K H φ χ1 v d
  | _, _, .nil => .nil
  | _, _, .cons h r => .cons (Rp.at1 hχ A h) (RpF.at1 hχ A r)
end
end
structure ItD where
  items : List Da
  still : Mem → Prop
abbrev MI := Sl → Mem → (ItD → Mem → Prop) → Prop
def Turns (K : PySem.W.Frag) (χ : List Addr) (J : It) (I : ItD) (H0 : Hp) (φ0 : List Addr) : Prop := ∀ H φ M χ1, (∀ a ∈ χ1, a ∈ χ ∨ H0 a = none) → AdvX χ H0 φ0 H φ → Mm K H φ χ1 M → I.still M →
  (∀ i, i < I.items.length → J.go i H ∧ ∀ x H', J.yld i H x H' → ∃ d, I.items[i]? = some d ∧ Adv H φ H' φ ∧ Mm K H' φ χ1 M ∧ Rp K H' φ χ1 x d) ∧ J.stop I.items.length H
structure SI (K : PySem.W.Frag) (wi : WX → TI) (mi : WD → MI) : Prop where
  run : ∀ {χ W W' σ H φ ρ M} {R : It → Hp → Prop} {R' : ItD → Mem → Prop}, Rs K H φ χ σ ρ → Mm K H φ χ M → FW K χ H φ W' W →
    (∀ J I H' φ' M', Adv H φ H' φ' → Mm K H' φ' χ M' → Turns K χ J I H' φ' → I.still M' → R' I M' → R J H') → mi W' ρ M R' → wi W σ H R
/-- a list, a tuple, a text -/
def itD (M : Mem) (x : Da) : Option (List Da) := match look M x with
  | .lst ds => some ds
  | .tup ds => some ds
  | .str z => some (z.cps.toList.map chS)
  | _ => none
def mAny (ma : ME) : MI := fun ρ M R => ma ρ M fun x M1 => match itD M1 x with
  | some ds => R ⟨ds, fun M2 => itD M2 x = some ds⟩ M1
  | none => False
/-- what stands at a place, whichever way it is told: by the relation to one list of data -/
theorem turns_seq {χ : List Addr} {H0 : Hp} {φ0 : List Addr} {M0 : Mem} {v : V} {x : Da} {ds : List Da} (m0 : Mm K H0 φ0 χ M0) (hv : Rp K H0 φ0 χ v x) (e0 : itD M0 x = some ds) :
    ((∃ a, v = .ref a ∧ (∃ xs, SqL K H0 a xs) ∧ (∀ H φ M χ1, (∀ a ∈ χ1, a ∈ χ ∨ H0 a = none) → AdvX χ H0 φ0 H φ → Mm K H φ χ1 M → itD M x = some ds → ∃ vs, SqL K H a vs ∧ RpL K H φ χ1 vs ds)) ∨
     (∃ a, v = .ref a ∧ (∃ xs, SqT K H0 a xs) ∧ (∀ H φ M χ1, (∀ a ∈ χ1, a ∈ χ ∨ H0 a = none) → AdvX χ H0 φ0 H φ → Mm K H φ χ1 M → itD M x = some ds → ∃ vs, SqT K H a vs ∧ RpL K H φ χ1 vs ds)) ∨
     ∃ z, v = .str z ∧ ds = z.cps.toList.map chS) := by
  have e := e0
  unfold itD at e
  split at e
  · rename_i es q
    cases e
    obtain ⟨a, vs, rfl, hs, r⟩ := vL m0 hv q
    refine .inl ⟨a, rfl, ⟨vs, hs⟩, fun H φ M χ1 hχ A m e1 => ?_⟩
    have h1 := Rp.at1 hχ A hv
    unfold itD at e1
    split at e1
    · rename_i fs q1
      cases e1
      obtain ⟨b, ws, e, hs, r⟩ := vL m h1 q1
      cases e
      exact ⟨ws, hs, r⟩
    · rename_i fs q1
      -- a list is no tuple: the same datum
      exfalso
      cases x <;> first | (cases q; done) | (cases q1; done) | skip
      · cases h1 with
        | cell h =>
          obtain ⟨d, e1', _, c⟩ := m.look h
          have e2 : M.getD _ (.gl "") = Da.tup _ := q1
          rw [e1'] at e2
          subst e2
          exact c
    · rename_i z q1
      exfalso
      obtain ⟨e, _⟩ := vS m h1 q1
      cases e
    · cases e1
  · rename_i es q
    cases e
    obtain ⟨a, vs, rfl, hs, r⟩ := vT m0 hv q
    refine .inr (.inl ⟨a, rfl, ⟨vs, hs⟩, fun H φ M χ1 hχ A m e1 => ?_⟩)
    have h1 := Rp.at1 hχ A hv
    unfold itD at e1
    split at e1
    · rename_i fs q1
      exfalso
      cases x <;> first | (cases q; done) | (cases q1; done) | skip
      · cases hv with
        | cell h =>
          obtain ⟨d, e1', _, c⟩ := m0.look h
          have e2 : M0.getD _ (.gl "") = Da.tup _ := q
          rw [e1'] at e2
          subst e2
          exact c
    · rename_i fs q1
      cases e1
      obtain ⟨b, ws, e, hs, r⟩ := vT m h1 q1
      cases e
      exact ⟨ws, hs, r⟩
    · rename_i z q1
      exfalso
      obtain ⟨e, _⟩ := vS m h1 q1
      cases e
    · cases e1
  · rename_i z q
    cases e
    obtain ⟨rfl, _⟩ := vS m0 hv q
    exact .inr (.inr ⟨z, rfl, rfl⟩)
  · cases e
theorem I_seq (a : SE K ta ma) : SI K (fun W => iSeq K (ta W)) (fun W => mAny (ma W)) := ⟨fun {χ W W' σ H φ ρ M R R'} r m w f h => by
  refine a.run r m w (fun v x H1 φ1 M1 A1 m1 r1 h1 => ?_) h
  split at h1
  · rename_i ds e
    rcases turns_seq m1 r1 e with ⟨a, rfl, hx, t⟩ | ⟨a, rfl, hx, t⟩ | ⟨z, rfl, rfl⟩
    · refine .inl ⟨a, rfl, hx, f _ _ _ _ _ A1 m1 ?_ e h1⟩
      intro H φ M χ1 hχ A m st
      obtain ⟨vs, hs, rl⟩ := t H φ M χ1 hχ A m st
      refine ⟨fun i hi => ⟨?_, ?_⟩, ⟨vs, hs, Nat.le_of_eq rl.len⟩⟩
      · obtain ⟨v, hv, _⟩ := rl.get (i := i) (d := ds[i]) (by simp)
        exact ⟨vs, v, hs, hv⟩
      · rintro x H' ⟨rfl, y⟩
        obtain ⟨d, hd, rd⟩ := rl.get' (y vs hs)
        exact ⟨d, hd, Adv.refl, m, rd⟩
    · refine .inr (.inl ⟨a, rfl, hx, f _ _ _ _ _ A1 m1 ?_ e h1⟩)
      intro H φ M χ1 hχ A m st
      obtain ⟨vs, hs, rl⟩ := t H φ M χ1 hχ A m st
      refine ⟨fun i hi => ⟨?_, ?_⟩, ⟨vs, hs, Nat.le_of_eq rl.len⟩⟩
      · obtain ⟨v, hv, _⟩ := rl.get (i := i) (d := ds[i]) (by simp)
        exact ⟨vs, v, hs, hv⟩
      · rintro x H' ⟨rfl, y⟩
        obtain ⟨d, hd, rd⟩ := rl.get' (y vs hs)
        exact ⟨d, hd, Adv.refl, m, rd⟩
    · refine .inr (.inr ⟨z, rfl, f _ _ _ _ _ A1 m1 ?_ e h1⟩)
      intro H φ M χ1 hχ A m st
      have hl : (z.cps.toList.map chS).length = z.cps.size := by simp
      refine ⟨fun i hi => ⟨by show i < z.cps.size; rw [← hl]; exact hi, ?_⟩, by show z.cps.size ≤ _; rw [hl]; exact Nat.le_refl _⟩
      rintro x H' ⟨rfl, c, hc, rfl⟩
      refine ⟨chS c, ?_, Adv.refl, m, .ch c⟩
      show (List.map chS z.cps.toList)[i]? = _
      rw [List.getElem?_map, Array.getElem?_toList, hc]
      rfl
  · exact h1.elim⟩
def rngD (lo : Int) (n : Nat) : List Da := (List.range n).map fun (k : Nat) => .int (lo + (k : Int))
theorem rngD_len (lo : Int) (n : Nat) : (rngD lo n).length = n := by simp [rngD]
theorem turns_rng {χ : List Addr} {H0 : Hp} {φ0 : List Addr} (lo : Int) (n : Nat) : Turns K χ (Itr lo n) ⟨rngD lo n, fun _ => True⟩ H0 φ0 := fun H φ M χ1 hχ A m _ => by
  refine ⟨fun i hi => ⟨by show i < n; rw [← rngD_len lo n]; exact hi, ?_⟩, by show n ≤ (rngD lo n).length; rw [rngD_len]; exact Nat.le_refl _⟩
  rintro x H' ⟨rfl, rfl⟩
  have hi' : i < n := by rw [← rngD_len lo n]; exact hi
  exact ⟨.int (lo + i), by simp [rngD, hi'], Adv.refl, m, .int _⟩
def mRng1 (s : MA) : MI := fun ρ M R => s ρ M fun ds M1 => match ds with
  | [.int j] => -(2 ^ 62) ≤ j ∧ j < 2 ^ 62 ∧ R ⟨rngD 0 j.toNat, fun _ => True⟩ M1
  | _ => False
theorem I_rng1 (s : SA K as ms) : SI K (fun W => iRng1 (as W)) (fun W => mRng1 (ms W)) := ⟨fun {χ W W' σ H φ ρ M R R'} r m w f h => by
  refine s.run r m w (fun vs ds H1 φ1 M1 A1 m1 r1 h1 => ?_) h
  split at h1
  · obtain ⟨v, rfl, h2⟩ := r1.one
    obtain rfl := vInt h2
    exact ⟨_, rfl, h1.1, h1.2.1, f _ _ _ _ _ A1 m1 (turns_rng 0 _) trivial h1.2.2⟩
  · exact h1.elim⟩
def mRng2 (s : MA) : MI := fun ρ M R => s ρ M fun ds M1 => match ds with
  | [.int i, .int j] => (-(2 ^ 62) ≤ i ∧ i < 2 ^ 62 ∧ -(2 ^ 62) ≤ j ∧ j < 2 ^ 62) ∧ R ⟨rngD i (j - i).toNat, fun _ => True⟩ M1
  | _ => False
/-- later cells and some slots are forgotten -/
def Wk (n : Nat) (ρ : Sl) (M : Mem) (ρ' : Sl) (M' : Mem) : Prop := (ρ' = ρ ∧ M' = M) ∨ (n ≤ M.length ∧ M' = M.take n ∧ cloL n M' = true ∧ slClo n ρ ρ')
theorem Wk.run {n : Nat} {χ : List Addr} {H0 H : Hp} {φ0 φ : List Addr} {σ : L2.St} {ρ ρ' : Sl} {M M' : Mem} (k : Wk n ρ M ρ' M') (hn : φ0.length ≤ n) (A : Adv H0 φ0 H φ) (r : Rs K H φ χ σ ρ) (m : Mm K H φ χ M) :
    ∃ φ', Adv H0 φ0 H φ' ∧ Rs K H φ' χ σ ρ' ∧ Mm K H φ' χ M' := by
  rcases k with ⟨rfl, rfl⟩ | ⟨h1, rfl, h2, h3⟩
  · exact ⟨φ, A, r, m⟩
  · exact ⟨φ.take n, A.cut hn, r.cut h3, m.cut h2⟩
def forL (still : Mem → Prop) (g : MG) (tb : MS) (D : En) (n : Nat) : List Da → Sl → Mem → Prop
  | [], ρ, M => D.nx ρ M
  | d :: ds, ρ, M => g d ρ M fun ρ1 M1 => tb { nx := fun ρ2 M2 => ∃ ρ3 M3, Wk n ρ2 M2 ρ3 M3 ∧ still M3 ∧ forL still g tb D n ds ρ3 M3, rt := D.rt, bk := D.nx, ct := fun ρ2 M2 => ∃ ρ3 M3, Wk n ρ2 M2 ρ3 M3 ∧ still M3 ∧ forL still g tb D n ds ρ3 M3 } ρ1 M1
def mFor (mi : MI) (g : MG) (tb : MS) : MS := fun D ρ M => mi ρ M fun I M1 => forL I.still g tb D M1.length I.items ρ M1
theorem S_for {wi : WX → TI} {mi : WD → MI} (i : SI K wi mi) (g : SG K tg mg) (s : SS K ts mt) : SS K (fun W => tFor (wi W) (tg W) (ts W)) (fun W => mFor (mi W) (mg W) (mt W)) := ⟨fun {χ W W' σ H φ ρ M D D'} r m w n t b c h => by
  refine i.run r m w (fun J I H0 φ0 M0 A0 m0 T st h1 => ?_) h
  let Inv : Nat → Nat → L2.St → Hp → Prop := fun k j σ1 H1 => ∃ φ1 ρ1 M1, k + j = I.items.length ∧ Adv H0 φ0 H1 φ1 ∧ Rs K H1 φ1 χ σ1 ρ1 ∧ Mm K H1 φ1 χ M1 ∧ I.still M1 ∧ forL I.still (mg W') (mt W') D' M0.length (I.items.drop k) ρ1 M1
  refine ⟨Inv, ⟨I.items.length, φ0, ρ, M0, by omega, Adv.refl, r.adv A0, m0, st, by rw [List.drop_zero]; exact h1⟩, ?_⟩
  rintro k j σ1 H1 ⟨φ1, ρ1, M1, hk, A1, r1, m1, st1, q⟩
  obtain ⟨go, stop⟩ := T H1 φ1 M1 χ (fun a h => .inl h) A1.toX m1 st1
  cases e : I.items.drop k with
  | nil =>
    have hl : I.items.length ≤ k := by
      have := congrArg List.length e
      rw [List.length_drop] at this
      simp at this
      omega
    have : k = I.items.length := by omega
    subst this
    rw [e] at q
    exact .inl ⟨stop, n _ _ _ _ _ (A0.trans A1) r1 m1 q⟩
  | cons d ds =>
    have hl : k < I.items.length := by
      have := congrArg List.length e
      rw [List.length_drop] at this
      simp at this
      omega
    have ed : I.items[k]? = some d := by
      have := congrArg (fun l => l[0]?) e
      simpa using this
    have eds : I.items.drop (k + 1) = ds := by
      have := congrArg List.tail e
      simpa using this
    rw [e] at q
    obtain ⟨g1, y1⟩ := go k hl
    refine .inr ⟨g1, fun σ' H' => ∃ φ' ρ' M', Adv H0 φ0 H' φ' ∧ Rs K H' φ' χ σ' ρ' ∧ Mm K H' φ' χ M' ∧ I.still M' ∧ forL I.still (mg W') (mt W') D' M0.length ds ρ' M', ?_, ?_⟩
    · rintro σ' H' ⟨φ', ρ', M', a1, a2, a3, a4, a5⟩
      exact ⟨j - 1, by omega, φ', ρ', M', by omega, a1, a2, a3, a4, by rw [eds]; exact a5⟩
    · intro x H2 y
      obtain ⟨d', hd', A2, m2, rx⟩ := y1 x H2 y
      rw [ed] at hd'
      cases hd'
      have A02 := A1.trans A2
      have wk : ∀ {σ' H' φ' ρ' M'}, Adv H0 φ0 H' φ' → Rs K H' φ' χ σ' ρ' → Mm K H' φ' χ M' → (∃ ρ3 M3, Wk M0.length ρ' M' ρ3 M3 ∧ I.still M3 ∧ forL I.still (mg W') (mt W') D' M0.length ds ρ3 M3) →
          ∃ φ' ρ' M', Adv H0 φ0 H' φ' ∧ Rs K H' φ' χ σ' ρ' ∧ Mm K H' φ' χ M' ∧ I.still M' ∧ forL I.still (mg W') (mt W') D' M0.length ds ρ' M' := by
        rintro σ' H' φ' ρ' M' A r m ⟨ρ3, M3, k, s3, q3⟩
        obtain ⟨φ3, A3, r3, m3⟩ := k.run (Nat.le_of_eq m0.len) A r m
        exact ⟨φ3, ρ3, M3, A3, r3, m3, s3, q3⟩
      refine g.run (r1.adv A2) m2 (w.adv (A0.trans A02)) rx (fun σ3 H3 φ3 ρ3 M3 A3 r3 m3 h3 => ?_) q
      let N' : Sl → Mem → Prop := fun ρ2 M2 => ∃ ρ3 M3, Wk M0.length ρ2 M2 ρ3 M3 ∧ I.still M3 ∧ forL I.still (mg W') (mt W') D' M0.length ds ρ3 M3
      refine s.run (D' := { nx := N', rt := D'.rt, bk := D'.nx, ct := N' }) r3 m3 (w.adv (A0.trans (A02.trans A3))) ?_ (t.adv (A0.trans (A02.trans A3))) ?_ ?_ h3
      · exact fun σ4 H4 φ4 ρ4 M4 A4 r4 m4 h4 => wk ((A02.trans A3).trans A4) r4 m4 h4
      · exact fun σ4 H4 φ4 ρ4 M4 A4 r4 m4 h4 => n _ _ _ _ _ (A0.trans ((A02.trans A3).trans A4)) r4 m4 h4
      · exact fun σ4 H4 φ4 ρ4 M4 A4 r4 m4 h4 => wk ((A02.trans A3).trans A4) r4 m4 h4⟩
end
end Z
namespace Z
open PySem PySem.Spec PyProof.Rows L2 Evl
section
variable {K : PySem.W.Frag} {ta tb : WX → TE} {ma mb : WD → ME} {as as' : WX → TA} {ms ms' : WD → MA} {ts us : WX → TS} {mt mu : WD → MS} {tt : WX → TT} {mtt : WD → MT}
def wipeD (ρ : Sl) : List Nat → Sl
  | [] => ρ
  | v :: vs => (wipeD ρ vs).set v none
theorem Rs.wipe {H : Hp} {φ χ : List Addr} {σ : L2.St} {ρ : Sl} (r : Rs K H φ χ σ ρ) : ∀ vs : List Nat, Rs K H φ χ (wipe σ vs) (wipeD ρ vs)
  | [] => r
  | _ :: vs => (r.wipe vs).gone
theorem wipe_set {σ : L2.St} {i : Nat} {x : Option V} : ∀ {vs : List Nat}, i ∈ vs → wipe (σ.set i x) vs = wipe σ vs
  | [], h => by cases h
  | v :: vs, h => by
    unfold L2.wipe
    by_cases m : i ∈ vs
    · rw [wipe_set m]
    · have e : i = v := (List.mem_cons.1 h).elim id fun q => absurd q m
      subst e
      have c : ∀ {vs : List Nat}, i ∉ vs → L2.wipe (σ.set i x) vs = (L2.wipe σ vs).set i x := by
        intro vs
        induction vs with
        | nil => intro _; rfl
        | cons u us ih =>
          intro h
          unfold L2.wipe
          rw [ih (fun q => h (List.mem_cons_of_mem _ q)), List.set_comm]
          exact fun q => h (by rw [q]; exact List.mem_cons_self ..)
      rw [c m, List.set_set]
theorem wipe_wipe {σ : L2.St} : ∀ (vs : List Nat), wipe (wipe σ vs) vs = wipe σ vs := by
  have go : ∀ (us vs : List Nat), (∀ u ∈ us, u ∈ vs) → wipe (wipe σ us) vs = wipe σ vs := by
    intro us
    induction us with
    | nil => intro vs _; rfl
    | cons u us ih =>
      intro vs h
      show wipe ((wipe σ us).set u none) vs = _
      rw [wipe_set (h u (List.mem_cons_self ..))]
      exact ih vs fun w hw => h w (List.mem_cons_of_mem _ hw)
  exact fun vs => go vs vs fun _ h => h
/-- targets of a comprehension: they change the slots vs alone -/
structure SV (K : PySem.W.Frag) (vs : List Nat) (g : TG) (mg : MG) : Prop where
  run : ∀ {χ σ H φ ρ M v d} {Q : L2.St → Hp → Prop} {Q' : Sl → Mem → Prop}, Rs K H φ χ σ ρ → Mm K H φ χ M → Rp K H φ χ v d → (∀ σ' H' φ' ρ' M', Adv H φ H' φ' → Rs K H' φ' χ σ' ρ' → Mm K H' φ' χ M' → wipe σ' vs = wipe σ vs → Q' ρ' M' → Q σ' H') → mg d ρ M Q' → g v σ H Q
structure SVs (K : PySem.W.Frag) (vs : List Nat) (g : TGs) (mg : MGs) : Prop where
  run : ∀ {χ σ H φ ρ M v d} {Q : L2.St → Hp → Prop} {Q' : Sl → Mem → Prop}, Rs K H φ χ σ ρ → Mm K H φ χ M → RpL K H φ χ v d → (∀ σ' H' φ' ρ' M', Adv H φ H' φ' → Rs K H' φ' χ σ' ρ' → Mm K H' φ' χ M' → wipe σ' vs = wipe σ vs → Q' ρ' M' → Q σ' H') → mg d ρ M Q' → g v σ H Q
theorem V_name {vs : List Nat} (i : Nat) (h : i ∈ vs) : SV K vs (gName i) (hName i) := ⟨fun r m rv f q => f _ _ _ _ _ Adv.refl (r.set rv) m (wipe_set h) q⟩
theorem V_nil {vs : List Nat} : SVs K vs gNil hNil := ⟨fun r m rv f h => by
  obtain ⟨rfl, h⟩ := h
  cases rv
  exact ⟨rfl, f _ _ _ _ _ Adv.refl r m rfl h⟩⟩
theorem V_cons {vs : List Nat} {g : TG} {mg : MG} {gs : TGs} {mgs : MGs} (a : SV K vs g mg) (b : SVs K vs gs mgs) : SVs K vs (gCons g gs) (hCons mg mgs) := ⟨fun r m rv f h => by
  unfold hCons at h
  split at h
  · cases rv with
    | cons h1 r1 =>
      exact ⟨_, _, rfl, a.run r m h1 (fun σ' H' φ' ρ' M' A r' m' e' h' => b.run r' m' (r1.adv A) (fun σ2 H2 φ2 ρ2 M2 A2 r2 m2 e2 h2 => f _ _ _ _ _ (A.trans A2) r2 m2 (e2.trans e') h2) h') h⟩
  · exact h.elim⟩
theorem V_tup {vs : List Nat} {n : Nat} {gs : TGs} {mgs : MGs} (s : SVs K vs gs mgs) : SV K vs (gTup K n gs) (hTup n mgs) := ⟨fun r m rv f h => by
  unfold hTup at h
  split at h
  · rename_i ds e
    obtain ⟨a, ws, rfl, hs, rl⟩ := vT m rv e
    exact ⟨a, ws, rfl, hs, by rw [rl.len]; exact h.1, s.run r m rl f h.2⟩
  · exact h.elim⟩
def lcL (still : Mem → Prop) (g : MG) (tt : MT) (te : ME) (vs : List Nat) (ρ : Sl) : List Da → List Da → Mem → TK → Prop
  | [], acc, M, Q => Q (.lst acc) M
  | d :: ds, acc, M, Q => g d (wipeD ρ vs) M fun ρ2 M2 => tt ρ2 M2 fun b M3 => if b = true then te ρ2 M3 fun y M4 => still M4 ∧ lcL still g tt te vs ρ ds (acc ++ [y]) M4 Q else still M3 ∧ lcL still g tt te vs ρ ds acc M3 Q
def mLc (mi : MI) (g : MG) (tt : MT) (te : ME) (vs : List Nat) : ME := fun ρ M Q => mi ρ M fun I M1 => I.items.length ≤ 1000000 ∧ lcL I.still g tt te vs ρ I.items [] M1 Q
def W0 : WX := fun _ _ _ _ => False
def WD0 : WD := fun _ _ _ _ => False
theorem FW0 {χ φ : List Addr} {H : Hp} {W : WX} : FW K χ H φ WD0 W := fun _ _ _ _ _ _ _ _ _ _ _ _ _ _ _ _ h => h.elim
theorem E_lc {wi : WX → TI} {mi : WD → MI} {g : TG} {mg : MG} {tt : TT} {mt : MT} {te : TE} {me : ME} {vs : List Nat} (i : SI K wi mi) (v : SV K vs g mg) (t : ST K (fun _ => tt) (fun _ => mt)) (e : SE K (fun _ => te) (fun _ => me)) :
    SE K (fun W => tLc (wi W) g tt te vs) (fun W => mLc (mi W) mg mt me vs) := ⟨fun {χ W W' σ H φ ρ M Q Q'} r m w f h => by
  refine i.run r m w (fun J I H0 φ0 M0 A0 m0 T st h1 => ?_) h
  obtain ⟨hlen, h1⟩ := h1
  intro D hD
  have nD : D ∉ φ0 := m0.nin hD
  have hχ : ∀ a ∈ D :: χ, a ∈ χ ∨ H0 a = none := hidden hD
  have AD : Adv H0 φ0 (upd H0 D (.lst [])) φ0 := Adv.new hD
  have inD : D ∈ D :: χ := List.mem_cons_self ..
  let Inv : Nat → Nat → Hp → Prop := fun k j H1 => ∃ φ1 M1 vs1 acc, k + j = I.items.length ∧ Adv (upd H0 D (.lst [])) φ0 (upd H1 D (.lst [])) φ1 ∧ D ∉ φ1 ∧ Mm K H1 φ1 (D :: χ) M1 ∧ Rs K H1 φ1 (D :: χ) σ ρ ∧ I.still M1 ∧ H1 D = some (.lst vs1) ∧ RpL K H1 φ1 (D :: χ) vs1 acc ∧ acc.length ≤ k ∧
    lcL I.still mg mt me vs ρ (I.items.drop k) acc M1 Q'
  -- what stays true of the rest of the heap while the new list grows
  have shift : ∀ {H1 H2 : Hp} {φ1 φ2 : List Addr} {vs1 vs2 : List V}, H1 D = some (.lst vs1) → D ∉ φ1 → Adv (upd H0 D (.lst [])) φ0 (upd H1 D (.lst [])) φ1 → Adv H1 φ1 H2 φ2 → Adv (upd H0 D (.lst [])) φ0 (upd (upd H2 D (.lst vs2)) D (.lst [])) φ2 := by
    intro H1 H2 φ1 φ2 vs1 vs2 hd n1 A B
    rw [upd_upd]
    have n2 : D ∉ φ2 := B.nin hd n1
    refine A.trans ⟨fun a o e n => ?_, ?_, fun a e => ?_⟩
    · by_cases q : a = D
      · subst q
        rw [upd_same] at e ⊢
        exact e
      · rw [upd_ne q] at e ⊢
        exact B.keep a o e n
    · obtain ⟨ψ, e, q⟩ := B.pre
      refine ⟨ψ, e, fun a ha => ?_⟩
      have na : a ≠ D := fun z => n2 (by rw [e, ← z]; exact List.mem_append_right _ ha)
      rw [upd_ne na]
      exact q a ha
    · by_cases q : a = D
      · subst q
        rw [upd_same]
        simp
      · rw [upd_ne q] at e ⊢
        exact B.dom a e
  have full : ∀ {H1 : Hp} {φ1 : List Addr}, Adv (upd H0 D (.lst [])) φ0 (upd H1 D (.lst [])) φ1 → H1 D ≠ none → Adv H0 φ0 H1 φ1 := by
    intro H1 φ1 A hd
    refine ⟨fun a o e n => ?_, ?_, fun a e => ?_⟩
    · have na : a ≠ D := ne_of_none e hD
      have := A.keep a o (by rw [upd_ne na]; exact e) n
      rw [upd_ne na] at this
      exact this
    · obtain ⟨ψ, e, q⟩ := A.pre
      refine ⟨ψ, e, fun a ha => ?_⟩
      have z := q a ha
      by_cases na : a = D
      · rw [na]; exact hD
      · rw [upd_ne na] at z; exact z
    · by_cases na : a = D
      · rw [na]; exact hd
      · have := A.dom a (by rw [upd_ne na]; exact e)
        rw [upd_ne na] at this
        exact this
  refine ⟨Inv, ⟨I.items.length, φ0, M0, [], [], by omega, by rw [upd_upd]; exact Adv.refl, nD, m0.hideN hD, (r.adv A0).hideN hD, st, upd_same, .nil, Nat.le_refl _, by rw [List.drop_zero]; exact h1⟩, ?_⟩
  rintro k j H1 ⟨φ1, M1, vs1, acc, hk, A1, n1, m1, r1, st1, hd1, ra, la, q⟩
  have A01 : Adv H0 φ0 H1 φ1 := full A1 (by rw [hd1]; simp)
  obtain ⟨go, stop⟩ := T H1 φ1 M1 (D :: χ) hχ A01.toX m1 st1
  cases e2 : I.items.drop k with
  | nil =>
    have hl : I.items.length ≤ k := by
      have := congrArg List.length e2
      rw [List.length_drop] at this
      simp at this
      omega
    have : k = I.items.length := by omega
    subst this
    rw [e2] at q
    refine .inl ⟨stop, f _ _ _ φ1 _ (A0.trans A01) m1.bare (.lst hd1 n1 (fun c => m0.hid D c hD) ra.bare) q⟩
  | cons d ds =>
    have hl : k < I.items.length := by
      have := congrArg List.length e2
      rw [List.length_drop] at this
      simp at this
      omega
    have ed : I.items[k]? = some d := by
      have := congrArg (fun l => l[0]?) e2
      simpa using this
    have eds : I.items.drop (k + 1) = ds := by
      have := congrArg List.tail e2
      simpa using this
    rw [e2] at q
    obtain ⟨g1, y1⟩ := go k hl
    refine .inr ⟨g1, fun H' => ∃ φ' M' vs' acc', Adv (upd H0 D (.lst [])) φ0 (upd H' D (.lst [])) φ' ∧ D ∉ φ' ∧ Mm K H' φ' (D :: χ) M' ∧ Rs K H' φ' (D :: χ) σ ρ ∧ I.still M' ∧ H' D = some (.lst vs') ∧ RpL K H' φ' (D :: χ) vs' acc' ∧ acc'.length ≤ k + 1 ∧
      lcL I.still mg mt me vs ρ ds acc' M' Q', ?_, ?_⟩
    · rintro H' ⟨φ', M', vs', acc', a1, a2, a3, a4, a5, a6, a7, a8, a9⟩
      exact ⟨j - 1, by omega, φ', M', vs', acc', by omega, a1, a2, a3, a4, a5, a6, a7, a8, by rw [eds]; exact a9⟩
    · intro x H2 y
      obtain ⟨d', hd', A2, m2, rx⟩ := y1 x H2 y
      rw [ed] at hd'
      cases hd'
      refine v.run ((r1.adv A2).wipe vs) m2 rx (fun σ3 H3 φ3 ρ3 M3 A3 r3 m3 e3 h3 => ⟨e3.trans (wipe_wipe vs), ?_⟩) q
      refine t.run (W := W0) r3 m3 FW0 (fun b H4 φ4 M4 A4 m4 h4 => ?_) h3
      have A14 := (A2.trans A3).trans A4
      have hd4 : H4 D = some (.lst vs1) := A14.keep D _ hd1 n1
      have n4 : D ∉ φ4 := A14.nin hd1 n1
      cases b with
      | false =>
        refine iteF ?_
        obtain ⟨s4, q4⟩ := h4
        have sh := shift (vs2 := vs1) hd1 n1 A1 A14
        rw [show upd (upd H4 D (.lst vs1)) D (.lst []) = upd H4 D (.lst []) from upd_upd] at sh
        exact ⟨φ4, M4, vs1, acc, sh, n4, m4, r1.adv A14, s4, hd4, ra.adv A14, by omega, q4⟩
      | true =>
        refine iteT ?_
        refine e.run (W := W0) (r3.adv A4) m4 FW0 (fun u z H5 φ5 M5 A5 m5 r5 h5 => ?_) h4
        obtain ⟨s5, q5⟩ := h5
        have A15 := A14.trans A5
        have hd5 : H5 D = some (.lst vs1) := A15.keep D _ hd1 n1
        have n5 : D ∉ φ5 := A15.nin hd1 n1
        refine ⟨vs1, hd5, ?_, φ5, M5, vs1 ++ [u], acc ++ [z], shift hd1 n1 A1 A15, n5, m5.updH inD, (r1.adv A15).updH inD, s5, upd_same, ((ra.adv A15).app (.cons r5 .nil)).at_ inD, ?_, q5⟩
        · rw [ra.len, sizeLine_eq]
          omega
        · rw [List.length_append]
          simp
          omega⟩
end
end Z
namespace Z
open PySem PySem.Spec PyProof.Rows L2 Evl
section
variable {K : PySem.W.Frag} {H : Hp} {φ χ : List Addr} {M : Mem}
def nCount : Da → List Da → Mem → TK → Prop := fun x ds M Q => match look M x, ds with
  | .lst es, [y] => pdL es ∧ pd (lookE M y) ∧ Q (.int (es.countP fun z => eqD z (lookE M y) : Nat)) M
  | _, _ => False
def nIndex : Da → List Da → Mem → TK → Prop := fun x ds M Q => match look M x, ds with
  | .lst es, [y] => pdL es ∧ pd (lookE M y) ∧ ∃ j : Nat, es.findIdx? (fun z => eqD z (lookE M y)) = some j ∧ Q (.int (j : Nat)) M
  | _, _ => False
def mStar (ma : ME) (ms : MA) : MA := fun ρ M Q => ma ρ M fun x M1 => match look M1 x with
  | .lst ds => ms ρ M1 fun xs M2 => Q (ds ++ xs) M2
  | .tup ds => ms ρ M1 fun xs M2 => Q (ds ++ xs) M2
  | _ => False
def enuD (ds : List Da) : List Da := ds.zipIdx.map fun p => .tup [.int (p.2 : Nat), p.1]
def mEnum (s : MA) : MI := fun ρ M R => s ρ M fun xs M1 => match xs with
  | [x] => match look M1 x with
    | .lst ds => R ⟨enuD ds, fun M2 => look M2 x = .lst ds⟩ M1
    | _ => False
  | _ => False
theorem enuD_at {ds : List Da} {i : Nat} {d : Da} (h : ds[i]? = some d) : (enuD ds)[i]? = some (.tup [.int (i : Nat), d]) := by
  unfold enuD
  rw [List.getElem?_map, List.getElem?_zipIdx, h]
  simp
theorem enuD_len (ds : List Da) : (enuD ds).length = ds.length := by
  unfold enuD
  rw [List.length_map, List.length_zipIdx]
end
end Z
namespace Z
open PySem PySem.Spec PyProof.Rows L2 Evl
abbrev XD := Str → List (Str × Da) → Mem → Prop
abbrev MP := List Da → Mem → TK → XD → Prop
def FX (K : PySem.W.Frag) (χ : List Addr) (H : Hp) (φ : List Addr) (E' : XD) (E : XK) : Prop := ∀ c fs vfs dd H' φ' M', Adv H φ H' φ' → Mm K H' φ' χ M' → H' dd = some (.xd vfs) → dd ∉ φ' → dd ∉ χ → RpF K H' φ' χ vfs fs → E' c fs M' → E (.ref (He.ga K c)) (some dd) H'
def up (K : PySem.W.Frag) (f : MP) : Sp := fun vs H Q E => ∃ φ χ M ds Q' E', RpL K H φ χ vs ds ∧ Mm K H φ χ M ∧ FE K χ H φ Q' Q ∧ FX K χ H φ E' E ∧ f ds M Q' E'
def mapO (g : Da → Option Da) : List Da → Option (List Da)
  | [] => some []
  | d :: ds => match g d, mapO g ds with
    | some e, some es => some (e :: es)
    | _, _ => none
def mapOK (g : Da → Option Da) : List (Key × Da) → Option (List (Key × Da))
  | [] => some []
  | (k, d) :: ds => match g d, mapOK g ds with
    | some e, some es => some ((k, e) :: es)
    | _, _ => none
def mapOF (g : Da → Option Da) : List (Str × Da) → Option (List (Str × Da))
  | [] => some []
  | (k, d) :: ds => match g d, mapOF g ds with
    | some e, some es => some ((k, e) :: es)
    | _, _ => none
def frz (n : Nat) : Nat → Mem → Da → Option Da
  | 0, _, d => if cloD n d = true then some d else none
  | f + 1, M, d => if cloD n d = true then some d else match d with
    | .cell m => match M[m]? with
      | some (.lst ds) => (mapO (frz n f M) ds).map .lst
      | some (.dct kds) => (mapOK (frz n f M) kds).map .dct
      | some (.obj c fds) => (mapOF (frz n f M) fds).map (.obj c)
      | _ => none
    | .tup ds => (mapO (frz n f M) ds).map .tup
    | .lst ds => (mapO (frz n f M) ds).map .lst
    | .dct kds => (mapOK (frz n f M) kds).map .dct
    | .obj c fds => (mapOF (frz n f M) fds).map (.obj c)
    | _ => none
section
variable {K : PySem.W.Frag} {χ φ : List Addr} {H : Hp} {M : Mem}
theorem mapO_run {n : Nat} {g : Da → Option Da} (ih : ∀ {v : V} {d d' : Da}, Rp K H φ χ v d → g d = some d' → Rp K H (φ.take n) χ v d') : ∀ {vs : List V} {ds es : List Da}, RpL K H φ χ vs ds → mapO g ds = some es → RpL K H (φ.take n) χ vs es
  | _, _, es, .nil, e => by cases e; exact .nil
  | _, _, es, .cons h r, e => by
    unfold mapO at e
    split at e
    · rename_i e1 e2
      cases e
      exact .cons (ih h e1) (mapO_run ih r e2)
    · cases e
theorem mapOK_run {n : Nat} {g : Da → Option Da} (ih : ∀ {v : V} {d d' : Da}, Rp K H φ χ v d → g d = some d' → Rp K H (φ.take n) χ v d') : ∀ {vs : List (Key × V)} {ds es : List (Key × Da)}, RpK K H φ χ vs ds → mapOK g ds = some es → RpK K H (φ.take n) χ vs es
  | _, _, es, .nil, e => by cases e; exact .nil
  | _, _, es, .cons h r, e => by
    unfold mapOK at e
    split at e
    · rename_i e1 e2
      cases e
      exact .cons (ih h e1) (mapOK_run ih r e2)
    · cases e
theorem mapOF_run {n : Nat} {g : Da → Option Da} (ih : ∀ {v : V} {d d' : Da}, Rp K H φ χ v d → g d = some d' → Rp K H (φ.take n) χ v d') : ∀ {vs : List (Str × V)} {ds es : List (Str × Da)}, RpF K H φ χ vs ds → mapOF g ds = some es → RpF K H (φ.take n) χ vs es
  | _, _, es, .nil, e => by cases e; exact .nil
  | _, _, es, .cons h r, e => by
    unfold mapOF at e
    split at e
    · rename_i e1 e2
      cases e
      exact .cons (ih h e1) (mapOF_run ih r e2)
    · cases e
theorem cell_out {n m : Nat} {a : Addr} (nd : φ.Nodup) (h : φ[m]? = some a) (le : n ≤ m) : a ∉ φ.take n := fun q => by
  obtain ⟨k, l, e⟩ := List.getElem_of_mem q
  rw [List.length_take] at l
  rw [List.getElem_take] at e
  have l2 := List.getElem?_eq_some_iff.1 h
  have : k = m := (List.getElem?_inj (by omega) nd).1 (by rw [h, List.getElem?_eq_getElem (by omega), e])
  omega
theorem frz_run (m : Mm K H φ χ M) {n : Nat} : ∀ (f : Nat) {v : V} {d d' : Da}, Rp K H φ χ v d → frz n f M d = some d' → Rp K H (φ.take n) χ v d'
  | 0, v, d, d', h, e => by
    unfold frz at e
    split at e
    · rename_i c
      cases e
      exact h.cut c
    · cases e
  | f + 1, v, d, d', h, e => by
    unfold frz at e
    split at e
    · rename_i c
      cases e
      exact h.cut c
    · rename_i c
      have ih : ∀ {v : V} {d d' : Da}, Rp K H φ χ v d → frz n f M d = some d' → Rp K H (φ.take n) χ v d' := fun h e => frz_run m f h e
      cases h with
      | cell ha =>
        rename_i k a
        have le : n ≤ k := by
          unfold cloD at c
          simp at c
          exact c
        have out := cell_out m.nd ha le
        have nx := m.dis a (List.mem_of_getElem? ha)
        simp only at e
        split at e
        · rename_i ds q
          obtain ⟨vs, e1, r⟩ := m.at_ _ _ _ ha q
          obtain ⟨es, e2, e3⟩ := Option.map_eq_some_iff.1 e
          rw [← e3]
          exact .lst e1 out nx (mapO_run ih r e2)
        · rename_i ds q
          obtain ⟨vs, e1, r⟩ := m.at_ _ _ _ ha q
          obtain ⟨es, e2, e3⟩ := Option.map_eq_some_iff.1 e
          rw [← e3]
          exact .dct e1 rfl out nx (mapOK_run ih r e2)
        · rename_i c ds q
          obtain ⟨dx, vs, e1, r⟩ := m.at_ _ _ _ ha q
          obtain ⟨es, e2, e3⟩ := Option.map_eq_some_iff.1 e
          rw [← e3]
          exact .obj e1 out nx (mapOF_run ih r e2)
        · cases e
      | tup h n1 n2 r =>
        simp only at e
        obtain ⟨es, e2, e3⟩ := Option.map_eq_some_iff.1 e
        rw [← e3]
        exact .tup h (nin_take n1) n2 (mapO_run ih r e2)
      | lst h n1 n2 r =>
        simp only at e
        obtain ⟨es, e2, e3⟩ := Option.map_eq_some_iff.1 e
        rw [← e3]
        exact .lst h (nin_take n1) n2 (mapO_run ih r e2)
      | dct h cD n1 n2 r =>
        simp only at e
        obtain ⟨es, e2, e3⟩ := Option.map_eq_some_iff.1 e
        rw [← e3]
        exact .dct h cD (nin_take n1) n2 (mapOK_run ih r e2)
      | obj h n1 n2 r =>
        simp only at e
        obtain ⟨es, e2, e3⟩ := Option.map_eq_some_iff.1 e
        rw [← e3]
        exact .obj h (nin_take n1) n2 (mapOF_run ih r e2)
      | _ => cases e
def Lv (n : Nat) (d : Da) (M : Mem) (d' : Da) (M' : Mem) : Prop := (d' = d ∧ M' = M) ∨ (n ≤ M.length ∧ M' = M.take n ∧ cloL n M' = true ∧ frz n 4 M d = some d')
def leave (n : Nat) (Q : TK) : TK := fun d M => ∃ d' M', Lv n d M d' M' ∧ Q d' M'
def leaveX (n : Nat) (E : XD) : XD := fun c fs M => ∃ M', (M' = M ∨ (n ≤ M.length ∧ M' = M.take n ∧ cloL n M' = true ∧ cloF n fs = true)) ∧ E c fs M'
def startD (N : Nat) (ds : List Da) : Sl := ds.map some ++ List.replicate (N - ds.length) none
def dfn (N np : Nat) (mw : WD → MS) : MP := fun ds M Q E => ds.length = np ∧ (cloL M.length M = true → cloL M.length ds = true → mw (fun c fs _ M' => leaveX M.length E c fs M') { nx := fun _ M' => leave M.length Q .non M', rt := leave M.length Q } (startD N ds) M)
theorem Rs.start {vs : List V} {ds : List Da} (r : RpL K H φ χ vs ds) (N : List Str) : Rs K H φ χ (L2.start N vs) (startD N.length ds) := ⟨by
  unfold L2.start startD
  rw [List.length_append, List.length_append, List.length_map, List.length_map, List.length_replicate, List.length_replicate, r.len], fun i d e => by
  unfold startD at e
  unfold L2.start
  by_cases l : i < ds.length
  · rw [List.getElem?_append_left (by rw [List.length_map]; exact l)] at e
    rw [List.getElem?_append_left (by rw [List.length_map, r.len]; exact l)]
    rw [List.getElem?_map] at e ⊢
    cases q : ds[i]? with
    | none => rw [q] at e; cases e
    | some d' =>
      rw [q] at e
      cases e
      obtain ⟨v, h1, h2⟩ := r.get q
      exact ⟨v, by rw [h1]; rfl, h2⟩
  · rw [List.getElem?_append_right (by rw [List.length_map]; omega)] at e
    rw [List.getElem?_replicate] at e
    split at e <;> cases e⟩
theorem Lv.run {n : Nat} {d d' : Da} {M' : Mem} {H0 : Hp} {φ0 : List Addr} {v : V} (k : Lv n d M d' M') (hn : φ0.length ≤ n) (A : Adv H0 φ0 H φ) (m : Mm K H φ χ M) (h : Rp K H φ χ v d) : ∃ φ', Adv H0 φ0 H φ' ∧ Mm K H φ' χ M' ∧ Rp K H φ' χ v d' := by
  rcases k with ⟨rfl, rfl⟩ | ⟨h1, rfl, h2, h3⟩
  · exact ⟨φ, A, m, h⟩
  · exact ⟨φ.take n, A.cut hn, m.cut h2, frz_run m 4 h h3⟩
theorem up_run {tw : WX → TS} {mw : WD → MS} (s : SS K tw mw) {N : List Str} {n np : Nat} (hN : N.length = n) {vs : List V} {Q : VK} {E : XK} (h : up K (dfn n np mw) vs H Q E) : tw (fun cls d _ H => E cls d H) { nx := fun _ H' => Q .non H', rt := Q } (L2.start N vs) H := by
  obtain ⟨φ, χ, M, ds, Q', E', r, m, f, x, _, q⟩ := h
  subst hN
  refine s.run (D' := { nx := fun _ M' => leave M.length Q' .non M', rt := leave M.length Q' }) (W' := fun c fs _ M' => leaveX M.length E' c fs M') (Rs.start r N) m ?_ ?_ ?_ (fun _ _ _ _ _ _ _ _ h => h.elim) (fun _ _ _ _ _ _ _ _ h => h.elim) (q m.clo (r.clo (Nat.le_of_eq m.len)))
  · rintro c fs vfs dd σ' H' φ' ρ' M' A r' m' hd n1 n2 rf ⟨M2, hk, he⟩
    rcases hk with rfl | ⟨h1, rfl, h2, h3⟩
    · exact x _ _ _ _ _ _ _ A m' hd n1 n2 rf he
    · exact x _ _ _ _ _ _ _ (A.cut (Nat.le_of_eq m.len)) (m'.cut h2) hd (nin_take n1) n2 (rf.cut h3) he
  · rintro σ' H' φ' ρ' M' A r' m' ⟨d', M2, k, h'⟩
    obtain ⟨φ2, A2, m2, r2⟩ := k.run (Nat.le_of_eq m.len) A m' .non
    exact f _ _ _ _ _ A2 m2 r2 h'
  · rintro v d H' φ' M' A m' r' ⟨d', M2, k, h'⟩
    obtain ⟨φ2, A2, m2, r2⟩ := k.run (Nat.le_of_eq m.len) A m' r'
    exact f _ _ _ _ _ A2 m2 r2 h'
theorem up_len {n np : Nat} {mw : WD → MS} {vs : List V} {Q : VK} {E : XK} (h : up K (dfn n np mw) vs H Q E) : vs.length = np := by
  obtain ⟨φ, χ, M, ds, Q', E', r, _, _, _, hl, _⟩ := h
  rw [r.len]
  exact hl
end
section
variable {K : PySem.W.Frag} {as as' : WX → TA} {ms ms' : WD → MA} {f : MP}
def XD0 : XD := fun _ _ _ => False
def mCall (f : MP) (s : MA) : ME := fun ρ M Q => s ρ M fun ds M1 => f ds M1 Q XD0
theorem E_call (f : MP) (s : SA K as ms) : SE K (fun W => tCall (up K f) [] E0 (as W)) (fun W => mCall f (ms W)) := ⟨fun {χ W W' σ H φ ρ M Q Q'} r m w fe h =>
  s.run r m w (fun vs ds H1 φ1 M1 A1 m1 r1 h1 => ⟨φ1, χ, M1, ds, Q', XD0, by rw [List.append_nil]; exact r1, m1, fe.adv A1, fun _ _ _ _ _ _ _ _ _ _ _ _ _ h => h.elim, h1⟩) h⟩
def mCallS (f : MP) (s : MA) (W : WD) : ME := fun ρ M Q => s ρ M fun ds M1 => f ds M1 Q fun c fs M2 => W c fs ρ M2
theorem E_callS (f : MP) (s : SA K as ms) : SE K (fun W => tCallS (up K f) (WE W) (as W)) (fun W => mCallS f (ms W) W) := ⟨fun {χ W W' σ H φ ρ M Q Q'} r m w fe h =>
  s.run r m w (fun vs ds H1 φ1 M1 A1 m1 r1 h1 => ⟨φ1, χ, M1, ds, Q', fun c fs M2 => W' c fs ρ M2, r1, m1, fe.adv A1, fun c fs vfs dd H2 φ2 M2 A2 m2 hd n1 n2 rf q => w _ _ _ _ _ _ _ _ _ (A1.trans A2) (r.adv (A1.trans A2)) m2 hd n1 n2 rf q, h1⟩) h⟩
theorem RpL.perm {H : Hp} {φ χ : List Addr} {vs : List V} {ds : List Da} (r : RpL K H φ χ vs ds) : ∀ p : List Nat, RpL K H φ χ (perm p vs) (perm p ds)
  | [] => .nil
  | i :: p => by
    have ih := r.perm p
    unfold Z.perm at ih ⊢
    rw [List.filterMap_cons, List.filterMap_cons]
    cases e : ds[i]? with
    | none =>
      have hl : vs[i]? = none := by
        rw [List.getElem?_eq_none_iff] at e ⊢
        rw [r.len]
        exact e
      rw [hl]
      exact ih
    | some d =>
      obtain ⟨v, hv, rv⟩ := r.get e
      rw [hv]
      exact .cons rv ih
def mCallP (p : List Nat) (n m : Nat) (f : MP) (s sk : MA) : ME := fun ρ M Q => s ρ M fun ds M1 => sk ρ M1 fun es M2 => ds.length = n ∧ es.length = m ∧ f (perm p (ds ++ es)) M2 Q XD0
def mCallPS (p : List Nat) (n m : Nat) (f : MP) (s sk : MA) (W : WD) : ME := fun ρ M Q => s ρ M fun ds M1 => sk ρ M1 fun es M2 => ds.length = n ∧ es.length = m ∧ f (perm p (ds ++ es)) M2 Q fun c fs M3 => W c fs ρ M3
theorem E_callP (p : List Nat) (n m : Nat) (f : MP) (s : SA K as ms) (sk : SA K as' ms') : SE K (fun W => tCallP p n m (up K f) (fun _ => E0) (as W) (as' W)) (fun W => mCallP p n m f (ms W) (ms' W)) := ⟨fun {χ W W' σ H φ ρ M Q Q'} r mm w fe h =>
  s.run r mm w (fun vs ds H1 φ1 M1 A1 m1 r1 h1 => sk.run (r.adv A1) m1 (w.adv A1) (fun ws es H2 φ2 M2 A2 m2 r2 h2 => ⟨by rw [r1.len]; exact h2.1, by rw [r2.len]; exact h2.2.1, φ2, χ, M2, _, Q', XD0, ((r1.adv A2).app r2).perm p, m2, fe.adv (A1.trans A2), fun _ _ _ _ _ _ _ _ _ _ _ _ _ h => h.elim, h2.2.2⟩) h1) h⟩
abbrev HdM : Type := Str × Option Nat × (Addr → Addr → MS)
def unbD (i : Option Nat) (D : En) : En := match i with
  | none => D
  | some i => { nx := fun ρ M => D.nx (ρ.set i none) M, rt := D.rt, bk := fun ρ M => D.bk (ρ.set i none) M, ct := fun ρ M => D.ct (ρ.set i none) M }
def bndD (i : Option Nat) (d : Da) (ρ : Sl) : Sl := match i with
  | none => ρ
  | some i => ρ.set i (some d)
abbrev ExT := List ((Str × Str) × Bool)
/-- which clause catches which class -/
def ExOk (K : PySem.W.Frag) (X : ExT) : Prop := ∀ c x b, X.lookup (c, x) = some b → PySem.W.exmOne K (.ref (He.ga K c)) (.ref (He.ga K x)) = some b
theorem ExOk.nil {K : PySem.W.Frag} : ExOk K [] := fun _ _ _ h => by cases h
theorem ExOk.cons {K : PySem.W.Frag} {c x : Str} {b : Bool} {X : ExT} (h : PySem.W.exmOne K (.ref (He.ga K c)) (.ref (He.ga K x)) = some b) (r : ExOk K X) : ExOk K (((c, x), b) :: X) := fun c' x' b' e => by
  rw [List.lookup_cons] at e
  split at e
  · rename_i q
    have q : (c', x') = (c, x) := by simpa using q
    cases q
    cases e
    exact h
  · exact r _ _ _ e
def mMix (X : ExT) (W : WD) (D : En) : List HdM → WD
  | [] => W
  | (x, i, ts) :: r => fun c fs ρ M => match X.lookup (c, x) with
    | some true => (i.isSome = true → c = x) ∧ ∀ a dd, ts a dd (unbD i D) (bndD i (.exv a dd c fs) ρ) M
    | some false => mMix X W D r c fs ρ M
    | none => False
def mTry (X : ExT) (hs : List HdM) (tb : WD → MS) (W : WD) : MS := fun D ρ M => tb (mMix X W D hs) D ρ M
def mRaise (c f : Str) (s : MA) (W : WD) : MS := fun _ ρ M => s ρ M fun ds M1 => match ds with
  | [d] => W c [(f, d)] ρ M1
  | _ => False
theorem raise_run {c f : Str} {χ φ : List Addr} {H : Hp} {W : WX} {W' : WD} {σ : L2.St} {ρ : Sl} {M : Mem} (s : SA K as ms) (r : Rs K H φ χ σ ρ) (m : Mm K H φ χ M) (w : FW K χ H φ W' W) {D : En} (h : mRaise c f (ms W') W' D ρ M) :
    as W σ H fun vs H1 => ∃ v, vs = [v] ∧ ∀ d, H1 d = none → W (.ref (He.ga K c)) (some d) σ (upd H1 d (.xd [(f, v)])) := by
  refine s.run r m w (fun vs ds H1 φ1 M1 A1 m1 r1 h1 => ?_) h
  split at h1
  · rename_i d
    obtain ⟨v, rfl, h2⟩ := r1.one
    refine ⟨v, rfl, fun dd hdd => ?_⟩
    have A2 : Adv H1 φ1 (upd H1 dd (.xd [(f, v)])) φ1 := Adv.new hdd
    exact w _ _ [(f, v)] dd _ _ φ1 _ _ (A1.trans A2) (r.adv (A1.trans A2)) (m1.new hdd) upd_same (m1.nin hdd) (fun q => m1.hid dd q hdd) (.cons (h2.adv A2) .nil) h1
  · exact h1.elim
theorem RpL.mk_ints {H : Hp} {φ χ : List Addr} : ∀ ns : List Int, RpL K H φ χ (ns.map V.int) (ns.map Da.int)
  | [] => .nil
  | n :: ns => .cons (.int n) (RpL.mk_ints ns)
/-- the law's promise at its end -/
def sp_law0 (K : PySem.W.Frag) : Sp := fun vs H Q _ => ∃ (a : Addr) (ns : List Int), vs = [.ref a] ∧ SqL K H a (ns.map V.int) ∧ ns.length ≤ 63 ∧ ∀ H', Q (.bl true) H'
theorem law_up (K : PySem.W.Frag) {f : MP} (h : ∀ ns : List Int, ns.length ≤ 63 → f [.kl (ns.map Da.int)] [] (fun d _ => d = .bl true) XD0) : ∀ vs H Q E, sp_law0 K vs H Q E → up K f vs H Q E := by
  rintro vs H Q E ⟨a, ns, rfl, hs, hl, q⟩
  refine ⟨[], [], [], [.kl (ns.map Da.int)], fun d _ => d = .bl true, XD0, .cons ?_ .nil, ⟨by simp, rfl, (fun _ h => by cases h), (fun _ h => by cases h), (fun n a d h => by simp at h)⟩, ?_, (fun _ _ _ _ _ _ _ _ _ _ _ _ _ h => h.elim), h ns hl⟩
  · rcases hs with hs | hs
    · rcases hs with hs | ⟨ob, hs⟩
      · exact .klR hs (.inl rfl) (by simp) (by simp) (RpL.mk_ints ns)
      · exact .klR hs (.inr ⟨ob, rfl⟩) (by simp) (by simp) (RpL.mk_ints ns)
    · exact .klK (fun _ => .inr hs) (RpL.mk_ints ns)
  · rintro v d H' φ' M' A m r rfl
    cases r
    exact q H'
end
end Z
namespace Z
open PySem PySem.Spec PyProof.Rows L2 Evl
theorem S_raisevalue {K : PySem.W.Frag} (c : Str) {as : WX → TA} {ms : WD → MA} (s : SA K as ms) : SS K (fun W => tRaisevalue (He.ga K c) W (as W)) (fun W => mRaise c "value" (ms W) W) := ⟨fun r m w n t b k h => raise_run s r m w h⟩
end Z
namespace Z
open PySem PySem.Spec PyProof.Rows L2 Evl
section
variable {K : PySem.W.Frag} {χ φ : List Addr} {H : Hp} {M : Mem} {v : V} {d : Da}
def putFD (f : Str) (d : Da) : List (Str × Da) → List (Str × Da)
  | [] => [(f, d)]
  | (g, x) :: r => if g = f then (g, d) :: r else (g, x) :: putFD f d r
theorem RpF.put {f : Str} (hd : Rp K H φ χ v d) : ∀ {vs : List (Str × V)} {ds : List (Str × Da)}, RpF K H φ χ vs ds → RpF K H φ χ (putF f v vs) (putFD f d ds)
  | _, _, .nil => .cons hd .nil
  | _, _, .cons (k := k) h r => by
    unfold putF putFD
    by_cases q : k = f
    · rw [if_pos q, if_pos q]; exact .cons hd r
    · rw [if_neg q, if_neg q]; exact .cons h (r.put hd)
theorem RpF.len : ∀ {vs : List (Str × V)} {ds : List (Str × Da)}, RpF K H φ χ vs ds → vs.length = ds.length
  | _, _, .nil => rfl
  | _, _, .cons _ r => by rw [List.length_cons, List.length_cons, r.len]
end
section
variable {K : PySem.W.Frag} {ta tb : WX → TE} {ma mb : WD → ME} {as as' : WX → TA} {ms ms' : WD → MA}
/-- e.f -/
def mFld (c f : Str) (ma : ME) : ME := fun ρ M Q => ma ρ M fun x M1 => match look M1 x with
  | .obj c' fds => c' = c ∧ match fds.lookup f with
    | some d => Q d M1
    | none => False
  | _ => False
/-- e.f = value, in the making of an instance -/
def mFldS (c f : Str) (mo mv : ME) : MS := fun D ρ M => mv ρ M fun y M1 => mo ρ M1 fun o M2 => match o with
  | .cell n => match M2[n]? with
    | some (.obj c' fds) => c' = c ∧ fds.length < 1000 ∧ D.nx ρ (M2.set n (.obj c' (putFD f y fds)))
    | _ => False
  | _ => False
/-- defaults -/
def DfL (K : PySem.W.Frag) (dvs : List V) (dfs : List Da) : Prop := ∀ H φ χ, RpL K H φ χ dvs dfs
theorem DfL.nil : DfL K [] [] := fun _ _ _ => .nil
/-- o.m(..) -/
def mMeth (c m : Str) (pm : List Nat) (n mm : Nat) (f : MP) (dfs : List Da) (ma : ME) (s sk : MA) : ME := fun ρ M Q => ma ρ M fun x M1 => match look M1 x with
  | .obj c' fds => c' = c ∧ fds.lookup m = none ∧ s ρ M1 fun ds M2 => sk ρ M2 fun es M3 => ds.length = n ∧ es.length = mm ∧ f (perm pm ((x :: ds) ++ es ++ dfs)) M3 Q XD0
  | _ => False
def mMethS (c m : Str) (pm : List Nat) (n mm : Nat) (f : MP) (dfs : List Da) (ma : ME) (s sk : MA) (W : WD) : ME := fun ρ M Q => ma ρ M fun x M1 => match look M1 x with
  | .obj c' fds => c' = c ∧ fds.lookup m = none ∧ s ρ M1 fun ds M2 => sk ρ M2 fun es M3 => ds.length = n ∧ es.length = mm ∧ f (perm pm ((x :: ds) ++ es ++ dfs)) M3 Q fun c fs M4 => W c fs ρ M4
  | _ => False
/-- C(..): a new cell, __init__, then the instance as a datum -/
def mMakeE (c : Str) (pm : List Nat) (f : MP) (dfs ds es : List Da) (M2 : Mem) (Q : TK) (E : XD) : Prop :=
  f (perm pm ((.cell M2.length :: ds) ++ es ++ dfs)) (M2 ++ [.obj c []]) (fun d M3 => d = .non ∧ leave M2.length Q (.cell M2.length) M3) (leaveX M2.length E)
def mMake (c : Str) (pm : List Nat) (n mm : Nat) (f : MP) (dfs : List Da) (s sk : MA) : ME := fun ρ M Q => s ρ M fun ds M1 => sk ρ M1 fun es M2 => ds.length = n ∧ es.length = mm ∧ mMakeE c pm f dfs ds es M2 Q XD0
def mMakeS (c : Str) (pm : List Nat) (n mm : Nat) (f : MP) (dfs : List Da) (s sk : MA) (W : WD) : ME := fun ρ M Q => s ρ M fun ds M1 => sk ρ M1 fun es M2 => ds.length = n ∧ es.length = mm ∧ mMakeE c pm f dfs ds es M2 Q fun c fs M4 => W c fs ρ M4
end
section
variable {K : PySem.W.Frag}
def nLenO (c : Str) (pm : List Nat) (f : MP) (dfs : List Da) : List Da → Mem → TK → Prop := fun ds M Q => match ds with
  | [x] => match look M x with
    | .obj c' _ => c' = c ∧ f (perm pm ([x] ++ dfs)) M (fun d M' => ∃ i : Int, d = .int i ∧ 0 ≤ i ∧ i < 2 ^ 63 ∧ Q (.int i) M') XD0
    | _ => False
  | _ => False
def nEqO (c : Str) (pm : List Nat) (f : MP) (dfs : List Da) : MO := fun x y M Q => match look M x with
  | .obj c1 _ => match look M y with
    | .obj c2 _ => c1 = c ∧ c2 = c ∧ f (perm pm ([x, y] ++ dfs)) M (fun d M' => ∃ b : Bool, d = .bl b ∧ Q (.bl b) M') XD0
    | _ => False
  | _ => False
def nInO (c : Str) (pm : List Nat) (f : MP) (dfs : List Da) : MO := fun x y M Q => match look M y with
  | .obj c2 _ => c2 = c ∧ f (perm pm ([y, x] ++ dfs)) M (fun d M' => ∃ b : Bool, d = .bl b ∧ Q (.bl b) M') XD0
  | _ => False
def nNinO (c : Str) (pm : List Nat) (f : MP) (dfs : List Da) : MO := fun x y M Q => match look M y with
  | .obj c2 _ => c2 = c ∧ f (perm pm ([y, x] ++ dfs)) M (fun d M' => ∃ b : Bool, d = .bl b ∧ Q (.bl (!b)) M') XD0
  | _ => False
def nIsiO (c : Str) : List Da → Mem → TK → Prop := fun ds M Q => match ds with
  | [x, .gl c'] => c' = c ∧ match look M x with
    | .obj c2 _ => c2 = c ∧ Q (.bl true) M
    | _ => match tyDa M x with
      | some _ => Q (.bl false) M
      | none => False
  | _ => False
def pdK : List (Key × Da) → Prop := fun ks => ∀ p ∈ ks, pd p.2
def eqKD (ks ls : List (Key × Da)) : Bool := decide (ks.length = ls.length) && ks.all fun p => match valD ls p.1 with
  | some e => eqD p.2 e
  | none => false
def nEqK : MO := fun x y M Q => match look M x with
  | .dct ks => match look M y with
    | .dct ls => pdK ks ∧ pdK ls ∧ Q (.bl (eqKD ks ls)) M
    | _ => False
  | _ => False
end
end Z
namespace Z
open PySem PySem.Spec PyProof.Rows L2 Evl
/-- what stays true of the rest of the heap while a new object at D grows -/
theorem grow {χ : List Addr} {H0 : Hp} {φ0 : List Addr} {D : Addr} {z o1 o2 : HO} {H1 H2 : Hp} {φ1 φ2 : List Addr} (hd : H1 D = some o1) (n1 : D ∉ φ1) (A : Adv (upd H0 D z) φ0 (upd H1 D z) φ1) (B : Adv H1 φ1 H2 φ2) : Adv (upd H0 D z) φ0 (upd (upd H2 D o2) D z) φ2 := by
  rw [upd_upd]
  have n2 : D ∉ φ2 := B.nin hd n1
  refine A.trans ⟨fun a o e n => ?_, ?_, fun a e => ?_⟩
  · by_cases q : a = D
    · subst q
      rw [upd_same] at e ⊢
      exact e
    · rw [upd_ne q] at e ⊢
      exact B.keep a o e n
  · obtain ⟨ψ, e, q⟩ := B.pre
    refine ⟨ψ, e, fun a ha => ?_⟩
    have na : a ≠ D := fun z => n2 (by rw [e, ← z]; exact List.mem_append_right _ ha)
    rw [upd_ne na]
    exact q a ha
  · by_cases q : a = D
    · subst q
      rw [upd_same]
      simp
    · rw [upd_ne q] at e ⊢
      exact B.dom a e
theorem ungrow {H0 : Hp} {φ0 : List Addr} {D : Addr} {z : HO} {H1 : Hp} {φ1 : List Addr} (hD : H0 D = none) (A : Adv (upd H0 D z) φ0 (upd H1 D z) φ1) (hd : H1 D ≠ none) : Adv H0 φ0 H1 φ1 := by
  refine ⟨fun a o e n => ?_, ?_, fun a e => ?_⟩
  · have na : a ≠ D := ne_of_none e hD
    have := A.keep a o (by rw [upd_ne na]; exact e) n
    rw [upd_ne na] at this
    exact this
  · obtain ⟨ψ, e, q⟩ := A.pre
    refine ⟨ψ, e, fun a ha => ?_⟩
    have z := q a ha
    by_cases na : a = D
    · rw [na]; exact hD
    · rw [upd_ne na] at z; exact z
  · by_cases na : a = D
    · rw [na]; exact hd
    · have := A.dom a (by rw [upd_ne na]; exact e)
      rw [upd_ne na] at this
      exact this
theorem drop_at {α : Type} {l : List α} {k : Nat} {d : α} {ds : List α} (e2 : l.drop k = d :: ds) : k < l.length ∧ l[k]? = some d ∧ l.drop (k + 1) = ds := by
  refine ⟨?_, ?_, ?_⟩
  · have := congrArg List.length e2
    rw [List.length_drop] at this
    simp at this
    omega
  · have := congrArg (fun l => l[0]?) e2
    simpa using this
  · have := congrArg List.tail e2
    simpa using this
section
variable {K : PySem.W.Frag} {ta tb : WX → TE} {ma mb : WD → ME} {as as' : WX → TA} {ms ms' : WD → MA}
theorem N_lc {wi : WX → TI} {mi : WD → MI} {g : TG} {mg : MG} {tt : TT} {mt : MT} {te : TE} {me : ME} {vs : List Nat} (i : SI K wi mi) (v : SV K vs g mg) (t : ST K (fun _ => tt) (fun _ => mt)) (e : SE K (fun _ => te) (fun _ => me)) :
    SN K (fun W => tLc (wi W) g tt te vs) (fun W => mLc (mi W) mg mt me vs) := ⟨fun {χ W W' σ H φ ρ M Q Q'} r m w sh f h => by
  refine i.run r m w (fun J I H0 φ0 M0 A0 m0 T st h1 => ?_) h
  obtain ⟨hlen, h1⟩ := h1
  intro D hD
  have h0 : H D = none := by
    cases e : H D with
    | none => rfl
    | some o => exact absurd hD (A0.dom D (by rw [e]; simp))
  have nD : D ∉ φ0 := m0.nin hD
  have hχ : ∀ a ∈ D :: χ, a ∈ χ ∨ H0 a = none := hidden hD
  have AD : Adv H0 φ0 (upd H0 D (.lst [])) φ0 := Adv.new hD
  have inD : D ∈ D :: χ := List.mem_cons_self ..
  let Inv : Nat → Nat → Hp → Prop := fun k j H1 => ∃ φ1 M1 vs1 acc, k + j = I.items.length ∧ Adv (upd H0 D (.lst [])) φ0 (upd H1 D (.lst [])) φ1 ∧ D ∉ φ1 ∧ Mm K H1 φ1 (D :: χ) M1 ∧ Rs K H1 φ1 (D :: χ) σ ρ ∧ I.still M1 ∧ H1 D = some (.lst vs1) ∧ RpL K H1 φ1 (D :: χ) vs1 acc ∧ acc.length ≤ k ∧
    lcL I.still mg mt me vs ρ (I.items.drop k) acc M1 Q'
  refine ⟨Inv, ⟨I.items.length, φ0, M0, [], [], by omega, by rw [upd_upd]; exact Adv.refl, nD, m0.hideN hD, (r.adv A0).hideN hD, st, upd_same, .nil, Nat.le_refl _, by rw [List.drop_zero]; exact h1⟩, ?_⟩
  rintro k j H1 ⟨φ1, M1, vs1, acc, hk, A1, n1, m1, r1, st1, hd1, ra, la, q⟩
  have A01 : Adv H0 φ0 H1 φ1 := ungrow hD A1 (by rw [hd1]; simp)
  obtain ⟨go, stop⟩ := T H1 φ1 M1 (D :: χ) hχ A01.toX m1 st1
  cases e2 : I.items.drop k with
  | nil =>
    have hl : I.items.length ≤ k := by
      have := congrArg List.length e2
      rw [List.length_drop] at this
      simp at this
      omega
    have : k = I.items.length := by omega
    subst this
    rw [e2] at q
    exact .inl ⟨stop, f D (.lst acc) _ φ1 _ (A0.trans A01) h0 n1 (fun c => m0.hid D c hD) m1 ⟨vs1, hd1, ra⟩ q⟩
  | cons d ds =>
    obtain ⟨hl, ed, eds⟩ := drop_at e2
    rw [e2] at q
    obtain ⟨g1, y1⟩ := go k hl
    refine .inr ⟨g1, fun H' => ∃ φ' M' vs' acc', Adv (upd H0 D (.lst [])) φ0 (upd H' D (.lst [])) φ' ∧ D ∉ φ' ∧ Mm K H' φ' (D :: χ) M' ∧ Rs K H' φ' (D :: χ) σ ρ ∧ I.still M' ∧ H' D = some (.lst vs') ∧ RpL K H' φ' (D :: χ) vs' acc' ∧ acc'.length ≤ k + 1 ∧
      lcL I.still mg mt me vs ρ ds acc' M' Q', ?_, ?_⟩
    · rintro H' ⟨φ', M', vs', acc', a1, a2, a3, a4, a5, a6, a7, a8, a9⟩
      exact ⟨j - 1, by omega, φ', M', vs', acc', by omega, a1, a2, a3, a4, a5, a6, a7, a8, by rw [eds]; exact a9⟩
    · intro x H2 y
      obtain ⟨d', hd', A2, m2, rx⟩ := y1 x H2 y
      rw [ed] at hd'
      cases hd'
      refine v.run ((r1.adv A2).wipe vs) m2 rx (fun σ3 H3 φ3 ρ3 M3 A3 r3 m3 e3 h3 => ⟨e3.trans (wipe_wipe vs), ?_⟩) q
      refine t.run (W := W0) r3 m3 FW0 (fun b H4 φ4 M4 A4 m4 h4 => ?_) h3
      have A14 := (A2.trans A3).trans A4
      have hd4 : H4 D = some (.lst vs1) := A14.keep D _ hd1 n1
      have n4 : D ∉ φ4 := A14.nin hd1 n1
      cases b with
      | false =>
        refine iteF ?_
        obtain ⟨s4, q4⟩ := h4
        have sh := grow (χ := χ) (o2 := .lst vs1) hd1 n1 A1 A14
        rw [show upd (upd H4 D (.lst vs1)) D (.lst []) = upd H4 D (.lst []) from upd_upd] at sh
        exact ⟨φ4, M4, vs1, acc, sh, n4, m4, r1.adv A14, s4, hd4, ra.adv A14, by omega, q4⟩
      | true =>
        refine iteT ?_
        refine e.run (W := W0) (r3.adv A4) m4 FW0 (fun u z H5 φ5 M5 A5 m5 r5 h5 => ?_) h4
        obtain ⟨s5, q5⟩ := h5
        have A15 := A14.trans A5
        have hd5 : H5 D = some (.lst vs1) := A15.keep D _ hd1 n1
        have n5 : D ∉ φ5 := A15.nin hd1 n1
        refine ⟨vs1, hd5, ?_, φ5, M5, vs1 ++ [u], acc ++ [z], grow (χ := χ) hd1 n1 A1 A15, n5, m5.updH inD, (r1.adv A15).updH inD, s5, upd_same, ((ra.adv A15).app (.cons r5 .nil)).at_ inD, ?_, q5⟩
        · rw [ra.len, sizeLine_eq]
          omega
        · rw [List.length_append]
          simp
          omega⟩
def dcL (still : Mem → Prop) (g : MG) (tt : MT) (tk tv : ME) (vs : List Nat) (ρ : Sl) : List Da → List (Key × Da) → Mem → TK → Prop
  | [], acc, M, Q => Q (.dct acc) M
  | d :: ds, acc, M, Q => g d (wipeD ρ vs) M fun ρ2 M2 => tt ρ2 M2 fun b M3 => if b = true then tk ρ2 M3 fun y M4 => tv ρ2 M4 fun z M5 => ∃ k, keyD y = some k ∧ still M5 ∧ dcL still g tt tk tv vs ρ ds (putD acc k z) M5 Q else still M3 ∧ dcL still g tt tk tv vs ρ ds acc M3 Q
def mDc (mi : MI) (g : MG) (tt : MT) (tk tv : ME) (vs : List Nat) : ME := fun ρ M Q => mi ρ M fun I M1 => I.items.length ≤ 1000000 ∧ dcL I.still g tt tk tv vs ρ I.items [] M1 Q
end
end Z
namespace Z
open PySem PySem.Spec PyProof.Rows L2 Evl
def lcIn (still : Mem → Prop) (g : MG) (tt : MT) (te : ME) (vs : List Nat) (ρ : Sl) (C : List Da → Mem → Prop) : List Da → List Da → Mem → Prop
  | [], acc, M => C acc M
  | d :: ds, acc, M => g d (wipeD ρ vs) M fun ρ2 M2 => tt ρ2 M2 fun b M3 => if b = true then te ρ2 M3 fun y M4 => acc.length ≤ 1000000 ∧ still M4 ∧ lcIn still g tt te vs ρ C ds (acc ++ [y]) M4 else still M3 ∧ lcIn still g tt te vs ρ C ds acc M3
def lcL2 (still : Mem → Prop) (g : MG) (tt : MT) (mi : MI) (g1 : MG) (tt1 : MT) (te : ME) (vs vs1 : List Nat) (ρ : Sl) : List Da → List Da → Mem → TK → Prop
  | [], acc, M, Q => Q (.lst acc) M
  | d :: ds, acc, M, Q => g d (wipeD ρ vs) M fun ρ2 M2 => tt ρ2 M2 fun b M3 => if b = true then mi ρ2 M3 fun I1 M4 => lcIn I1.still g1 tt1 te vs1 ρ2 (fun acc' M5 => still M5 ∧ lcL2 still g tt mi g1 tt1 te vs vs1 ρ ds acc' M5 Q) I1.items acc M4
      else still M3 ∧ lcL2 still g tt mi g1 tt1 te vs vs1 ρ ds acc M3 Q
def mLc2 (mi : MI) (g : MG) (tt : MT) (mi1 : MI) (g1 : MG) (tt1 : MT) (te : ME) (vs vs1 : List Nat) : ME := fun ρ M Q => mi ρ M fun I M1 => lcL2 I.still g tt mi1 g1 tt1 te vs vs1 ρ I.items [] M1 Q
section
variable {K : PySem.W.Frag} {as : WX → TA} {ms : WD → MA}
theorem lc2_run {wi : WX → TI} {mi : WD → MI} {g : TG} {mg : MG} {tt : TT} {mt : MT} {wi1 : TI} {mi1 : MI} {g1 : TG} {mg1 : MG} {tt1 : TT} {mt1 : MT} {te : TE} {me : ME} {vs vs1 : List Nat} (i : SI K wi mi) (v : SV K vs g mg) (t : ST K (fun _ => tt) (fun _ => mt))
    (i1 : SI K (fun _ => wi1) (fun _ => mi1)) (v1 : SV K vs1 g1 mg1) (t1 : ST K (fun _ => tt1) (fun _ => mt1)) (e : SE K (fun _ => te) (fun _ => me))
    {χ : List Addr} {W : WX} {W' : WD} {σ : L2.St} {H : Hp} {φ : List Addr} {ρ : Sl} {M : Mem} {Q : VK} {Q' : TK} (r : Rs K H φ χ σ ρ) (m : Mm K H φ χ M) (w : FW K χ H φ W' W)
    (f : ∀ D vs2 acc H' φ' M', Adv H φ H' φ' → H D = none → D ∉ φ' → D ∉ χ → Mm K H' φ' (D :: χ) M' → H' D = some (.lst vs2) → RpL K H' φ' (D :: χ) vs2 acc → Q' (.lst acc) M' → Q (.ref D) H')
    (h : mLc2 (mi W') mg mt mi1 mg1 mt1 me vs vs1 ρ M Q') : tLc2 (wi W) g tt wi1 g1 tt1 te vs vs1 σ H Q := by
  refine i.run r m w (fun J I H0 φ0 M0 A0 m0 T st h1 => ?_) h
  intro D hD
  have h0 : H D = none := by
    cases e : H D with
    | none => rfl
    | some o => exact absurd hD (A0.dom D (by rw [e]; simp))
  have nD : D ∉ φ0 := m0.nin hD
  have hχ : ∀ a ∈ D :: χ, a ∈ χ ∨ H0 a = none := hidden hD
  have inD : D ∈ D :: χ := List.mem_cons_self ..
  let Inv : Nat → Nat → Hp → Prop := fun k j H1 => ∃ φ1 M1 vs2 acc, k + j = I.items.length ∧ Adv (upd H0 D (.lst [])) φ0 (upd H1 D (.lst [])) φ1 ∧ D ∉ φ1 ∧ Mm K H1 φ1 (D :: χ) M1 ∧ Rs K H1 φ1 (D :: χ) σ ρ ∧ I.still M1 ∧ H1 D = some (.lst vs2) ∧ RpL K H1 φ1 (D :: χ) vs2 acc ∧
    lcL2 I.still mg mt mi1 mg1 mt1 me vs vs1 ρ (I.items.drop k) acc M1 Q'
  refine ⟨Inv, ⟨I.items.length, φ0, M0, [], [], by omega, by rw [upd_upd]; exact Adv.refl, nD, m0.hideN hD, (r.adv A0).hideN hD, st, upd_same, .nil, by rw [List.drop_zero]; exact h1⟩, ?_⟩
  rintro k j H1 ⟨φ1, M1, vs2, acc, hk, A1, n1, m1, r1, st1, hd1, ra, q⟩
  have A01 : Adv H0 φ0 H1 φ1 := ungrow hD A1 (by rw [hd1]; simp)
  obtain ⟨go, stop⟩ := T H1 φ1 M1 (D :: χ) hχ A01.toX m1 st1
  cases e2 : I.items.drop k with
  | nil =>
    have hl : I.items.length ≤ k := by
      have := congrArg List.length e2
      rw [List.length_drop] at this
      simp at this
      omega
    have : k = I.items.length := by omega
    subst this
    rw [e2] at q
    exact .inl ⟨stop, f D vs2 acc _ φ1 _ (A0.trans A01) h0 n1 (fun c => m0.hid D c hD) m1 hd1 ra q⟩
  | cons d ds =>
    obtain ⟨hl, ed, eds⟩ := drop_at e2
    rw [e2] at q
    obtain ⟨g1', y1⟩ := go k hl
    let Nx : Hp → Prop := fun H' => ∃ φ' M' vs' acc', Adv (upd H0 D (.lst [])) φ0 (upd H' D (.lst [])) φ' ∧ D ∉ φ' ∧ Mm K H' φ' (D :: χ) M' ∧ Rs K H' φ' (D :: χ) σ ρ ∧ I.still M' ∧ H' D = some (.lst vs') ∧ RpL K H' φ' (D :: χ) vs' acc' ∧
      lcL2 I.still mg mt mi1 mg1 mt1 me vs vs1 ρ ds acc' M' Q'
    refine .inr ⟨g1', Nx, ?_, ?_⟩
    · rintro H' ⟨φ', M', vs', acc', a1, a2, a3, a4, a5, a6, a7, a9⟩
      exact ⟨j - 1, by omega, φ', M', vs', acc', by omega, a1, a2, a3, a4, a5, a6, a7, by rw [eds]; exact a9⟩
    · intro x H2 y
      obtain ⟨d', hd', A2, m2, rx⟩ := y1 x H2 y
      rw [ed] at hd'
      cases hd'
      refine v.run ((r1.adv A2).wipe vs) m2 rx (fun σ3 H3 φ3 ρ3 M3 A3 r3 m3 e3 h3 => ⟨e3.trans (wipe_wipe vs), ?_⟩) q
      refine t.run (W := W0) r3 m3 FW0 (fun b H4 φ4 M4 A4 m4 h4 => ?_) h3
      have A14 := (A2.trans A3).trans A4
      have hd4 : H4 D = some (.lst vs2) := A14.keep D _ hd1 n1
      have n4 : D ∉ φ4 := A14.nin hd1 n1
      cases b with
      | false =>
        refine iteF ?_
        obtain ⟨s4, q4⟩ := h4
        have sh := grow (χ := χ) (o2 := .lst vs2) hd1 n1 A1 A14
        rw [show upd (upd H4 D (.lst vs2)) D (.lst []) = upd H4 D (.lst []) from upd_upd] at sh
        exact ⟨φ4, M4, vs2, acc, sh, n4, m4, r1.adv A14, s4, hd4, ra.adv A14, q4⟩
      | true =>
        refine iteT ?_
        refine i1.run (W := W0) (r3.adv A4) m4 FW0 (fun J1 I1 H5 φ5 M5 A5 m5 T1 st5 h5 => ?_) h4
        have A15 := A14.trans A5
        have hd5 : H5 D = some (.lst vs2) := A15.keep D _ hd1 n1
        have n5 : D ∉ φ5 := A15.nin hd1 n1
        have r35 := r3.adv (A4.trans A5)
        let Inv1 : Nat → Nat → Hp → Prop := fun k1 j1 H6 => ∃ φ6 M6 vs3 acc3, k1 + j1 = I1.items.length ∧ Adv (upd H5 D (.lst [])) φ5 (upd H6 D (.lst [])) φ6 ∧ D ∉ φ6 ∧ Mm K H6 φ6 (D :: χ) M6 ∧ Rs K H6 φ6 (D :: χ) σ ρ ∧ Rs K H6 φ6 (D :: χ) σ3 ρ3 ∧ I1.still M6 ∧ H6 D = some (.lst vs3) ∧ RpL K H6 φ6 (D :: χ) vs3 acc3 ∧
          Adv (upd H0 D (.lst [])) φ0 (upd H6 D (.lst [])) φ6 ∧
          lcIn I1.still mg1 mt1 me vs1 ρ3 (fun acc' M5 => I.still M5 ∧ lcL2 I.still mg mt mi1 mg1 mt1 me vs vs1 ρ ds acc' M5 Q') (I1.items.drop k1) acc3 M6
        have sh5 := grow (χ := χ) (o2 := .lst []) hd1 n1 A1 A15
        rw [show upd (upd H5 D (.lst [])) D (.lst []) = upd H5 D (.lst []) from upd_upd] at sh5
        refine ⟨Inv1, ⟨I1.items.length, φ5, M5, vs2, acc, by omega, Adv.refl, n5, m5, r1.adv A15, r35, st5, hd5, ra.adv A15, sh5, by rw [List.drop_zero]; exact h5⟩, ?_⟩
        rintro k1 j1 H6 ⟨φ6, M6, vs3, acc3, hk1, A6, n6, m6, r6, r63, st6, hd6, ra6, sh6, q6⟩
        have X6 : AdvX (D :: χ) H5 φ5 H6 φ6 := by
          refine ⟨fun a o ea na nx => ?_, ?_⟩
          · have ne : a ≠ D := fun z => nx (by rw [z]; exact inD)
            have := A6.keep a o (by rw [upd_ne ne]; exact ea) na
            rw [upd_ne ne] at this
            exact this
          · obtain ⟨ψ, eψ, zz⟩ := A6.pre
            refine ⟨ψ, eψ, fun a ha => ?_⟩
            have na : a ≠ D := fun z => n6 (by rw [eψ, ← z]; exact List.mem_append_right _ ha)
            have := zz a ha
            rw [upd_ne na] at this
            exact this
        obtain ⟨go1, stop1⟩ := T1 H6 φ6 M6 (D :: χ) (fun a ha => .inl ha) X6 m6 st6
        cases e7 : I1.items.drop k1 with
        | nil =>
          have hl1 : I1.items.length ≤ k1 := by
            have := congrArg List.length e7
            rw [List.length_drop] at this
            simp at this
            omega
          have : k1 = I1.items.length := by omega
          subst this
          rw [e7] at q6
          obtain ⟨s7, q7⟩ := q6
          exact .inl ⟨stop1, φ6, M6, vs3, acc3, sh6, n6, m6, r6, s7, hd6, ra6, q7⟩
        | cons d1 ds1 =>
          obtain ⟨hl1, ed1, eds1⟩ := drop_at e7
          rw [e7] at q6
          obtain ⟨g2, y2⟩ := go1 k1 hl1
          refine .inr ⟨g2, fun H' => ∃ φ' M' vs' acc', Adv (upd H5 D (.lst [])) φ5 (upd H' D (.lst [])) φ' ∧ D ∉ φ' ∧ Mm K H' φ' (D :: χ) M' ∧ Rs K H' φ' (D :: χ) σ ρ ∧ Rs K H' φ' (D :: χ) σ3 ρ3 ∧ I1.still M' ∧ H' D = some (.lst vs') ∧ RpL K H' φ' (D :: χ) vs' acc' ∧
            Adv (upd H0 D (.lst [])) φ0 (upd H' D (.lst [])) φ' ∧ lcIn I1.still mg1 mt1 me vs1 ρ3 (fun acc' M5 => I.still M5 ∧ lcL2 I.still mg mt mi1 mg1 mt1 me vs vs1 ρ ds acc' M5 Q') ds1 acc' M', ?_, ?_⟩
          · rintro H' ⟨φ', M', vs', acc', a1, a2, a3, a4, a5, a6, a7, a8, a9, b1⟩
            exact ⟨j1 - 1, by omega, φ', M', vs', acc', by omega, a1, a2, a3, a4, a5, a6, a7, a8, a9, by rw [eds1]; exact b1⟩
          · intro x1 H7 y7
            obtain ⟨d1', hd1', A7, m7, rx7⟩ := y2 x1 H7 y7
            rw [ed1] at hd1'
            cases hd1'
            refine v1.run ((r63.adv A7).wipe vs1) m7 rx7 (fun σ8 H8 φ8 ρ8 M8 A8 r8 m8 e8 h8 => ⟨e8.trans (wipe_wipe vs1), ?_⟩) q6
            refine t1.run (W := W0) r8 m8 FW0 (fun b H9 φ9 M9 A9 m9 h9 => ?_) h8
            have A69 := (A7.trans A8).trans A9
            have hd9 : H9 D = some (.lst vs3) := A69.keep D _ hd6 n6
            have n9 : D ∉ φ9 := A69.nin hd6 n6
            cases b with
            | false =>
              refine iteF ?_
              obtain ⟨s9, q9⟩ := h9
              have a := grow (χ := χ) (o2 := .lst vs3) hd6 n6 A6 A69
              have b := grow (χ := χ) (o2 := .lst vs3) hd6 n6 sh6 A69
              rw [show upd (upd H9 D (.lst vs3)) D (.lst []) = upd H9 D (.lst []) from upd_upd] at a b
              exact ⟨φ9, M9, vs3, acc3, a, n9, m9, r6.adv A69, r63.adv A69, s9, hd9, ra6.adv A69, b, q9⟩
            | true =>
              refine iteT ?_
              refine e.run (W := W0) (r8.adv A9) m9 FW0 (fun u z Ha φa Ma Aa ma ra' ha => ?_) h9
              obtain ⟨la, sa, qa⟩ := ha
              have A6a := A69.trans Aa
              have hda : Ha D = some (.lst vs3) := A6a.keep D _ hd6 n6
              have na : D ∉ φa := A6a.nin hd6 n6
              refine ⟨vs3, hda, ?_, φa, Ma, vs3 ++ [u], acc3 ++ [z], grow (χ := χ) hd6 n6 A6 A6a, na, ma.updH inD, (r6.adv A6a).updH inD, (r63.adv A6a).updH inD, sa, upd_same, ((ra6.adv A6a).app (.cons ra' .nil)).at_ inD, grow (χ := χ) hd6 n6 sh6 A6a, qa⟩
              rw [ra6.len, sizeLine_eq]
              omega
theorem E_lc2 {wi : WX → TI} {mi : WD → MI} {g : TG} {mg : MG} {tt : TT} {mt : MT} {wi1 : TI} {mi1 : MI} {g1 : TG} {mg1 : MG} {tt1 : TT} {mt1 : MT} {te : TE} {me : ME} {vs vs1 : List Nat} (i : SI K wi mi) (v : SV K vs g mg) (t : ST K (fun _ => tt) (fun _ => mt))
    (i1 : SI K (fun _ => wi1) (fun _ => mi1)) (v1 : SV K vs1 g1 mg1) (t1 : ST K (fun _ => tt1) (fun _ => mt1)) (e : SE K (fun _ => te) (fun _ => me)) : SE K (fun W => tLc2 (wi W) g tt wi1 g1 tt1 te vs vs1) (fun W => mLc2 (mi W) mg mt mi1 mg1 mt1 me vs vs1) := ⟨fun r m w fe h =>
  lc2_run i v t i1 v1 t1 e r m w (fun D vs2 acc H' φ' M' A hD nD nx m' hd ra q => fe _ _ _ φ' _ A m'.bare (.lst hd nD nx ra.bare) q) h⟩
def iEnumA (K : PySem.W.Frag) (ta : TA) : TI := fun σ H R => ta σ H fun vs H1 => ∃ a xs, vs = [.ref a] ∧ ((SqL K H1 a xs ∧ R (Ite K a) H1) ∨ (SqT K H1 a xs ∧ R (IteT K a) H1))
theorem pi_enumA {X : Cx} {e : Expr} {ta : TA} {p pos tpos : Pos} {elts : List Expr} {kk : Nat} (hg : Gl X "enumerate") (hm : X.mg "enumerate" = none) (ha : PA X [e] ta) (hs : starEach [e] X.env = [(false, eval e X.env)] := by rfl) :
    PI X (.Tuple elts kk tpos) (.Call (.Name "enumerate" p) [e] [] pos) (iEnumA X.K ta) := by
  refine ⟨fun pins s σ H R I h => ?_⟩
  refine Call_ (ld_blt I hg hm boot_enumerate (PyProof.Rows.callWith_type1 (thn (ha.run pos pins s σ H _ I h) fun us s1 ⟨vs, H1, I1, r1, q1⟩ => ?_) hs rfl))
  obtain ⟨a, xs, ex, q1⟩ := q1
  subst ex
  cases r1 with
  | cons r rr =>
    cases rr
    cases r
    rcases q1 with ⟨hq, q⟩ | ⟨hq, q⟩
    · exact enum_list I1 hq q
    · exact enum_tup I1 hq q
def mEnumA (s : MA) : MI := fun ρ M R => s ρ M fun xs M1 => match xs with
  | [x] => match look M1 x with
    | .lst ds => R ⟨enuD ds, fun M2 => look M2 x = .lst ds⟩ M1
    | .tup ds => R ⟨enuD ds, fun M2 => look M2 x = .tup ds⟩ M1
    | _ => False
  | _ => False
theorem I_enumA (s : SA K as ms) : SI K (fun W => iEnumA K (as W)) (fun W => mEnumA (ms W)) := ⟨fun {χ W W' σ H φ ρ M R R'} r m w f h => by
  refine s.run r m w (fun vs xs H1 φ1 M1 A1 m1 r1 h1 => ?_) h
  split at h1
  · rename_i x
    obtain ⟨v, rfl, hv⟩ := r1.one
    split at h1
    · rename_i ds e
      obtain ⟨a, vs, rfl, hs, rl⟩ := vL m1 hv e
      refine ⟨a, vs, rfl, .inl ⟨hs, f _ _ _ _ _ A1 m1 ?_ e h1⟩⟩
      intro H φ M χ1 hχ A m st
      have hv2 := Rp.at1 hχ A hv
      obtain ⟨b, ws, eb, hs2, rl2⟩ := vL m hv2 st
      cases eb
      refine ⟨fun i hi => ?_, ⟨ws, hs2, by show _ ≤ (enuD ds).length; rw [enuD_len, rl2.len]; exact Nat.le_refl _⟩⟩
      have hi : i < ds.length := by rw [← enuD_len]; exact hi
      obtain ⟨y, hy, ry⟩ := rl2.get (i := i) (d := ds[i]) (by simp [hi])
      refine ⟨⟨ws, y, hs2, hy⟩, ?_⟩
      rintro u H' ⟨T, z, rfl, hT, rfl, hz⟩
      have ez : z = y := Option.some.inj ((hz ws hs2).symm.trans hy)
      subst ez
      refine ⟨_, enuD_at (List.getElem?_eq_getElem hi), Adv.new hT, m.new hT, ?_⟩
      exact .tup upd_same (m.nin hT) (fun c => m.hid T c hT) (.cons (.int _) (.cons (ry.adv (Adv.new hT)) .nil))
    · rename_i ds e
      obtain ⟨a, vs, rfl, hs, rl⟩ := vT m1 hv e
      refine ⟨a, vs, rfl, .inr ⟨hs, f _ _ _ _ _ A1 m1 ?_ e h1⟩⟩
      intro H φ M χ1 hχ A m st
      have hv2 := Rp.at1 hχ A hv
      obtain ⟨b, ws, eb, hs2, rl2⟩ := vT m hv2 st
      cases eb
      refine ⟨fun i hi => ?_, ⟨ws, hs2, by show _ ≤ (enuD ds).length; rw [enuD_len, rl2.len]; exact Nat.le_refl _⟩⟩
      have hi : i < ds.length := by rw [← enuD_len]; exact hi
      obtain ⟨y, hy, ry⟩ := rl2.get (i := i) (d := ds[i]) (by simp [hi])
      refine ⟨⟨ws, y, hs2, hy⟩, ?_⟩
      rintro u H' ⟨T, z, rfl, hT, rfl, hz⟩
      have ez : z = y := Option.some.inj ((hz ws hs2).symm.trans hy)
      subst ez
      refine ⟨_, enuD_at (List.getElem?_eq_getElem hi), Adv.new hT, m.new hT, ?_⟩
      exact .tup upd_same (m.nin hT) (fun c => m.hid T c hT) (.cons (.int _) (.cons (ry.adv (Adv.new hT)) .nil))
    · exact h1.elim
  · exact h1.elim⟩
end
end Z
namespace Z
open PySem PySem.Spec PyProof.Rows L2 Evl
end Z
namespace Z
open PySem PySem.Spec PyProof.Rows L2 Evl
def BoxD (n : Nat) (d : Da) : Prop := ∃ a b c : Int, d = .lst [.int a, .int b, .int c] ∧ 0 ≤ b ∧ b < 2147483648 ∧ 0 ≤ c ∧ c ≤ n
theorem leave_same {n : Nat} {Q : TK} {d : Da} {M : Mem} (h : Q d M) : leave n Q d M := ⟨d, M, .inl ⟨rfl, rfl⟩, h⟩
theorem atI_nat' {α : Type} (l : List α) (k : Nat) : atI l (k : Int) = l[k]? := by
  unfold atI ixN
  rw [if_pos (by omega)]
  by_cases h : (k : Int) < l.length
  · rw [if_pos h]
    simp
  · rw [if_neg h]
    symm
    rw [Option.bind_none, List.getElem?_eq_none_iff]
    omega
theorem atI_0 {α : Type} (l : List α) : atI l 0 = l[0]? := atI_nat' l 0
theorem atI_1 {α : Type} (l : List α) : atI l 1 = l[1]? := atI_nat' l 1
theorem atI_2 {α : Type} (l : List α) : atI l 2 = l[2]? := atI_nat' l 2
theorem atI_3 {α : Type} (l : List α) : atI l 3 = l[3]? := atI_nat' l 3
theorem atI_4 {α : Type} (l : List α) : atI l 4 = l[4]? := atI_nat' l 4
theorem atI_m1 {α : Type} (l : List α) : atI l (-1) = l.getLast? := by
  unfold atI ixN
  rw [if_neg (by omega), List.getLast?_eq_getElem?]
  by_cases h : -(l.length : Int) ≤ -1
  · rw [if_pos h]
    show l[(-1 + (l.length : Int)).toNat]? = _
    congr 1
    omega
  · rw [if_neg h]
    symm
    rw [Option.bind_none, List.getElem?_eq_none_iff]
    omega
theorem ixN_0 {n : Nat} (h : 0 < n) : ixN n 0 = some 0 := by
  unfold ixN
  rw [if_pos (by omega), if_pos (by omega)]
  rfl
theorem ixN_1 {n : Nat} (h : 1 < n) : ixN n 1 = some 1 := by
  unfold ixN
  rw [if_pos (by omega), if_pos (by omega)]
  rfl
theorem ixN_2 {n : Nat} (h : 2 < n) : ixN n 2 = some 2 := by
  unfold ixN
  rw [if_pos (by omega), if_pos (by omega)]
  rfl
mutual
theorem plD_clo (n : Nat) : ∀ {d : Da}, plD d = true → cloD n d = true
  | .non, _ => rfl
  | .bl _, _ => rfl
  | .int _, _ => rfl
  | .str _, _ => rfl
  | .tup ds, p => by unfold plD at p; unfold cloD; exact plL_clo n p
  | .lst ds, p => by unfold plD at p; unfold cloD; exact plL_clo n p
  | .ty _, p => by cases p
  | .gl _, p => by cases p
  | .dct _, p => by cases p
  | .obj _ _, p => by cases p
  | .kl _, p => by cases p
  | .kt _, p => by cases p
  | .cell _, p => by cases p
  | .exv _ _ _ _, p => by cases p
theorem plL_clo (n : Nat) : ∀ {ds : List Da}, plL ds = true → cloL n ds = true
  | [], _ => rfl
  | d :: ds, p => by
    unfold plL at p
    rw [Bool.and_eq_true] at p
    unfold cloL
    rw [plD_clo n p.1, plL_clo n p.2]
    rfl
end
theorem frz_clo {n f : Nat} {M : Mem} {d : Da} (h : cloD n d = true) : frz n f M d = some d := by
  cases f with
  | zero => unfold frz; rw [if_pos h]
  | succ f => unfold frz; rw [if_pos h]
theorem cloL_all {n : Nat} : ∀ {ds : List Da}, cloL n ds = true ↔ ∀ d ∈ ds, cloD n d = true
  | [] => by simp [cloL]
  | d :: ds => by
    unfold cloL
    rw [Bool.and_eq_true, cloL_all (ds := ds)]
    simp
theorem BoxD.clo {n m : Nat} {b : Da} (h : BoxD n b) : cloD m b = true := by
  obtain ⟨a, b, c, rfl, _⟩ := h
  rfl
theorem BoxD.mono {n m : Nat} {b : Da} (h : BoxD n b) (l : n ≤ m) : BoxD m b := by
  obtain ⟨a, b, c, rfl, h1, h2, h3, h4⟩ := h
  exact ⟨a, b, c, rfl, h1, h2, h3, by omega⟩
theorem okM_list : okM "list" = okLs := rfl
theorem okM_str : okM "str" = okS := rfl
theorem okM_dict : okM "dict" = okDc := rfl
theorem okS_str {z : Str} {M : Mem} : okS (.str z) M = True := by simp [okS]
/-- an item by a draw -/
theorem atI_mem {α : Type} {xs : List α} {d : Int} (h0 : 0 ≤ d) (h1 : d < (xs.length : Int)) : ∃ v, v ∈ xs ∧ atI xs d = some v := by
  obtain ⟨k, rfl⟩ := Int.eq_ofNat_of_zero_le h0
  have h : k < xs.length := by omega
  exact ⟨xs[k], List.getElem_mem h, by rw [atI_nat']; simp [h]⟩
end Z
namespace Z
open PySem PySem.Spec PyProof.Rows L2 Evl
theorem set_last {α : Type} (R : List α) (x y : α) : (R ++ [x]).set R.length y = R ++ [y] := by simp
theorem get_last {α : Type} (R : List α) (x : α) : (R ++ [x])[R.length]? = some x := by simp
theorem perm_erase {α : Type} {l : List α} {i : Nat} (h : i < l.length) : (l[i] :: l.eraseIdx i).Perm l := by
  have e : l.take i ++ l[i] :: l.drop (i + 1) = l := by rw [← List.drop_eq_getElem_cons h, List.take_append_drop]
  rw [List.eraseIdx_eq_take_drop_succ]
  have q : (l[i] :: (l.take i ++ l.drop (i + 1))).Perm (l.take i ++ l[i] :: l.drop (i + 1)) := List.perm_middle.symm
  rw [e] at q
  exact q
def one (c : Nat) : Str := ⟨#[c]⟩
theorem seqI {d : Int} {n : Nat} (h0 : 0 ≤ d) (h1 : d < n) : seqIndex? d n = some d.toNat := by
  unfold seqIndex?
  first
    | (simp; omega)
    | (rw [if_neg (by omega)]; simp; omega)
theorem log_nat {n : Nat} (h : n < 9000) : ((n : Int)).natAbs.log2 < 9000 := by
  have h1 : ((n : Int)).natAbs = n := by omega
  rw [h1]
  have h2 := Nat.log2_le_self n
  omega
end Z
namespace Z
open PySem PySem.Spec PyProof.Rows L2 Evl
theorem forL_ind {still : Mem → Prop} {g : MG} {tb : MS} {D : En} {n : Nat} {items : List Da} {ρ : Sl} {M : Mem} (P : Nat → Sl → Mem → Prop) (h0 : P 0 ρ M)
    (hs : ∀ k d ρ M, items[k]? = some d → P k ρ M → ∀ C : Sl → Mem → Prop, (∀ ρ' M' ρ3 M3, Wk n ρ' M' ρ3 M3 → still M3 → P (k + 1) ρ3 M3 → C ρ' M') → g d ρ M fun ρ1 M1 => tb { nx := C, rt := D.rt, bk := D.nx, ct := C } ρ1 M1)
    (he : ∀ ρ M, P items.length ρ M → D.nx ρ M) : forL still g tb D n items ρ M := by
  have go : ∀ (ds : List Da) (k : Nat) (ρ : Sl) (M : Mem), items.drop k = ds → k ≤ items.length → P k ρ M → forL still g tb D n ds ρ M := by
    intro ds
    induction ds with
    | nil =>
      intro k ρ M e l p
      have : items.length ≤ k := by
        have := congrArg List.length e
        rw [List.length_drop] at this
        simp at this
        omega
      have : k = items.length := by omega
      subst this
      exact he ρ M p
    | cons d ds ih =>
      intro k ρ M e l p
      have hl : k < items.length := by
        have := congrArg List.length e
        rw [List.length_drop] at this
        simp at this
        omega
      have ed : items[k]? = some d := by
        have := congrArg (fun l => l[0]?) e
        simpa using this
      have eds : items.drop (k + 1) = ds := by
        have := congrArg List.tail e
        simpa using this
      unfold forL
      exact hs k d ρ M ed p _ fun ρ' M' ρ3 M3 w s p' => ⟨ρ3, M3, w, s, ih (k + 1) ρ3 M3 eds hl p'⟩
  exact go items 0 ρ M rfl (Nat.zero_le _) h0
theorem Wk.same {n : Nat} {ρ : Sl} {M : Mem} : Wk n ρ M ρ M := .inl ⟨rfl, rfl⟩
theorem rngD_at {lo : Int} {n k : Nat} {d : Da} (h : (rngD lo n)[k]? = some d) : k < n ∧ d = .int (lo + (k : Int)) := by
  unfold rngD at h
  rw [List.getElem?_map] at h
  by_cases l : k < n
  · rw [List.getElem?_range l] at h
    exact ⟨l, (Option.some.inj h).symm⟩
  · rw [List.getElem?_eq_none (by simp; omega)] at h
    cases h
theorem mapO_id {n f : Nat} {M : Mem} : ∀ {ds : List Da}, cloL n ds = true → mapO (frz n f M) ds = some ds
  | [], _ => rfl
  | d :: ds, h => by
    unfold cloL at h
    rw [Bool.and_eq_true] at h
    unfold mapO
    rw [frz_clo h.1, mapO_id h.2]
/-- a def's own list as a datum -/
theorem frz_cell {n m f : Nat} {M : Mem} {ds : List Da} (h : M[m]? = some (.lst ds)) (le : n ≤ m) (c : cloL n ds = true) : frz n (f + 1) M (.cell m) = some (.lst ds) := by
  have nc : ¬ cloD n (.cell m) = true := by
    unfold cloD
    simp
    exact le
  unfold frz
  rw [if_neg nc]
  simp only [h]
  rw [mapO_id c]
  rfl
theorem plL_map {α : Type} {f : α → Da} (h : ∀ x, plD (f x) = true) (l : List α) : plL (l.map f) = true := by
  induction l with
  | nil => rfl
  | cons x l ih =>
    show (plD (f x) && plL (l.map f)) = true
    rw [h x, ih]
    rfl
theorem dpL_map {α : Type} {f : α → Da} (h : ∀ x, dpD (f x) = 0) (l : List α) : dpL (l.map f) = 0 := by
  induction l with
  | nil => rfl
  | cons x l ih =>
    show max (dpD (f x)) (dpL (l.map f)) = 0
    rw [h x, ih]
    rfl
theorem eqL_nil (xs : List Da) : eqL xs [] = xs.isEmpty := by
  cases xs <;> rfl
theorem plL_all {ds : List Da} : plL ds = true ↔ ∀ d ∈ ds, plD d = true := by
  induction ds with
  | nil => simp [plL]
  | cons d ds ih =>
    unfold plL
    rw [Bool.and_eq_true, ih]
    simp
theorem dpL_le {ds : List Da} {n : Nat} : dpL ds ≤ n ↔ ∀ d ∈ ds, dpD d ≤ n := by
  induction ds with
  | nil => simp [dpL]
  | cons d ds ih =>
    unfold dpL
    rw [Nat.max_le, ih]
    simp
end Z
namespace Z
open PySem PySem.Spec PyProof.Rows L2 Evl
section
variable (M : Mem)
theorem look_non  : look M (.non) = .non := rfl
theorem lookE_non  : lookE M (.non) = .non := rfl
theorem look_bl (b : Bool) : look M (.bl b) = .bl b := rfl
theorem lookE_bl (b : Bool) : lookE M (.bl b) = .bl b := rfl
theorem look_int (i : Int) : look M (.int i) = .int i := rfl
theorem lookE_int (i : Int) : lookE M (.int i) = .int i := rfl
theorem look_str (s : Str) : look M (.str s) = .str s := rfl
theorem lookE_str (s : Str) : lookE M (.str s) = .str s := rfl
theorem look_tup (ds : List Da) : look M (.tup ds) = .tup ds := rfl
theorem lookE_tup (ds : List Da) : lookE M (.tup ds) = .tup ds := rfl
theorem look_lst (ds : List Da) : look M (.lst ds) = .lst ds := rfl
theorem lookE_lst (ds : List Da) : lookE M (.lst ds) = .lst ds := rfl
theorem look_dct (ds : List (Key × Da)) : look M (.dct ds) = .dct ds := rfl
theorem lookE_dct (ds : List (Key × Da)) : lookE M (.dct ds) = .dct ds := rfl
theorem look_obj (c : Str) (fs : List (Str × Da)) : look M (.obj c fs) = .obj c fs := rfl
theorem lookE_obj (c : Str) (fs : List (Str × Da)) : lookE M (.obj c fs) = .obj c fs := rfl
theorem look_ty (n : String) : look M (.ty n) = .ty n := rfl
theorem lookE_ty (n : String) : lookE M (.ty n) = .ty n := rfl
theorem look_gl (x : Str) : look M (.gl x) = .gl x := rfl
theorem lookE_gl (x : Str) : lookE M (.gl x) = .gl x := rfl
theorem look_exv (a dd : Addr) (c : Str) (fs : List (Str × Da)) : look M (.exv a dd c fs) = .exv a dd c fs := rfl
theorem lookE_exv (a dd : Addr) (c : Str) (fs : List (Str × Da)) : lookE M (.exv a dd c fs) = .exv a dd c fs := rfl
theorem look_cell (n : Nat) : look M (.cell n) = M[n]?.getD (.gl "") := List.getD_eq_getElem?_getD
theorem lookE_cell (n : Nat) : lookE M (.cell n) = M[n]?.getD (.gl "") := List.getD_eq_getElem?_getD
theorem look_kl (ds : List Da) : look M (.kl ds) = .lst ds := rfl
theorem look_kt (ds : List Da) : look M (.kt ds) = .tup ds := rfl
theorem tyDa_non  : tyDa M (.non) = some "NoneType" := rfl
theorem tyDa_bl (b : Bool) : tyDa M (.bl b) = some "bool" := rfl
theorem tyDa_int (i : Int) : tyDa M (.int i) = some "int" := rfl
theorem tyDa_str (s : Str) : tyDa M (.str s) = some "str" := rfl
theorem tyDa_tup (ds : List Da) : tyDa M (.tup ds) = some "tuple" := rfl
theorem tyDa_lst (ds : List Da) : tyDa M (.lst ds) = some "list" := rfl
theorem tyDa_dct (ds : List (Key × Da)) : tyDa M (.dct ds) = some "dict" := rfl
theorem tyDa_kt (ds : List Da) : tyDa M (.kt ds) = some "tuple" := rfl
theorem tyDa_cell (n : Nat) : tyDa M (.cell n) = match M[n]?.getD (.gl "") with | .lst _ => some "list" | .dct _ => some "dict" | _ => none := by
  rw [← List.getD_eq_getElem?_getD]
  rfl
theorem nonD_non  : nonD (.non) = true := rfl
theorem nonD_bl (b : Bool) : nonD (.bl b) = false := rfl
theorem nonD_int (i : Int) : nonD (.int i) = false := rfl
theorem nonD_str (s : Str) : nonD (.str s) = false := rfl
theorem nonD_tup (ds : List Da) : nonD (.tup ds) = false := rfl
theorem nonD_lst (ds : List Da) : nonD (.lst ds) = false := rfl
theorem nonD_dct (ds : List (Key × Da)) : nonD (.dct ds) = false := rfl
theorem nonD_obj (c : Str) (fs : List (Str × Da)) : nonD (.obj c fs) = false := rfl
theorem nonD_ty (n : String) : nonD (.ty n) = false := rfl
theorem nonD_gl (x : Str) : nonD (.gl x) = false := rfl
theorem nonD_exv (a dd : Addr) (c : Str) (fs : List (Str × Da)) : nonD (.exv a dd c fs) = false := rfl
/-- plain or a dict -/
def pdd : Da → Bool
  | .dct _ => true
  | d => plD d
variable {M} {d : Da}
theorem pdd_of (h : plD d = true) : pdd d = true := by
  cases d <;> first | exact h | rfl
theorem lookE_pdd (h : pdd d = true) : lookE M d = d := by
  cases d <;> first | rfl | cases h
theorem lookE_pl (h : plD d = true) : lookE M d = d := lookE_pdd (pdd_of h)
end
/-- a block, statement by statement: what follows stands hidden in N -/
theorem seq_hide {t u : MS} {D : En} {ρ : Sl} {M : Mem} (h : ∀ N : Sl → Mem → Prop, (∀ ρ' M', u D ρ' M' → N ρ' M') → t { nx := N, rt := D.rt, bk := D.bk, ct := D.ct } ρ M) : mSeq t u D ρ M := h _ fun _ _ h => h
theorem cut_hide {t u : MS} {D : En} {ρ : Sl} {M : Mem} (h : ∀ N : Sl → Mem → Prop, (∀ ρ' M', u D ρ' M' → N ρ' M') → t { nx := N, rt := D.rt, bk := D.bk, ct := D.ct } ρ M) : mCut t u D ρ M := ⟨_, h _ fun _ _ h => h, fun _ _ h => h⟩
theorem natc_0 : ((0 : Nat) : Int) = 0 := rfl
theorem natc_1 : ((1 : Nat) : Int) = 1 := rfl
theorem natc_2 : ((2 : Nat) : Int) = 2 := rfl
theorem natc_3 : ((3 : Nat) : Int) = 3 := rfl
theorem natc_4 : ((4 : Nat) : Int) = 4 := rfl
theorem natc_5 : ((5 : Nat) : Int) = 5 := rfl
theorem natc_6 : ((6 : Nat) : Int) = 6 := rfl
theorem natc_7 : ((7 : Nat) : Int) = 7 := rfl
theorem natc_8 : ((8 : Nat) : Int) = 8 := rfl
theorem natc_9 : ((9 : Nat) : Int) = 9 := rfl
theorem natc_10 : ((10 : Nat) : Int) = 10 := rfl
theorem natc_11 : ((11 : Nat) : Int) = 11 := rfl
theorem natc_12 : ((12 : Nat) : Int) = 12 := rfl
theorem natc_13 : ((13 : Nat) : Int) = 13 := rfl
theorem natc_14 : ((14 : Nat) : Int) = 14 := rfl
theorem natc_15 : ((15 : Nat) : Int) = 15 := rfl
theorem natc_16 : ((16 : Nat) : Int) = 16 := rfl
theorem q_bd {Q : TK} {M : Mem} {b b' : Bool} (h : Q (.bl b) M) (e : b' = b) : Q (.bl b') M := by
  rw [e]
  exact h
theorem if_hide {c : MT} {t u : MS} {D : En} {ρ : Sl} {M : Mem} (h : ∀ T U : Mem → Prop, (∀ M', t D ρ M' → T M') → (∀ M', u D ρ M' → U M') → c ρ M fun k M1 => if k = true then T M1 else U M1) : mIfS c t u D ρ M := h (fun M' => t D ρ M') (fun M' => u D ρ M') (fun _ h => h) fun _ h => h
theorem next_run {D : En} {ρ : Sl} {M : Mem} (h : D.nx ρ M) : mNext D ρ M := h
theorem valD_nil {κ : Type} [DecidableEq κ] {k : κ} : valD ([] : List (κ × Da)) k = none := rfl
theorem valD_cons {κ : Type} [DecidableEq κ] {k j : κ} {d : Da} {r : List (κ × Da)} : valD ((j, d) :: r) k = if j = k then some d else valD r k := by
  unfold valD
  rw [List.find?_cons]
  by_cases h : j = k <;> simp [h]
theorem look_lastM {M : Mem} {x : Da} : look (M ++ [x]) (.cell M.length) = x := by
  rw [look_cell]
  simp
theorem valD_put (kds : List (Key × Da)) (k j : Key) (d : Da) : valD (putD kds k d) j = if k = j then some d else valD kds j := by
  unfold putD
  split
  · rename_i h
    have go : ∀ kds : List (Key × Da), valD (kds.map fun kv => if kv.1 = k then (kv.1, d) else kv) j = if k = j then (if (kds.any fun kv => decide (kv.1 = k)) = true then some d else none) else valD kds j := by
      intro kds
      induction kds with
      | nil => simp [valD]
      | cons p r ih =>
        obtain ⟨i, e⟩ := p
        rw [List.map_cons]
        by_cases c : i = k
        · subst c
          simp only [if_true]
          rw [valD_cons, valD_cons, ih]
          by_cases c2 : i = j
          · simp [c2]
          · simp [c2]
        · simp only [c, if_false]
          rw [valD_cons, valD_cons, ih]
          by_cases c2 : i = j
          · have c3 : ¬ k = j := fun z => c (c2.trans z.symm)
            simp [c2, c3]
          · rw [List.any_cons, decide_eq_false c, Bool.false_or, if_neg c2, if_neg c2]
    rw [go, h, if_pos rfl]
  · rename_i h
    have go : ∀ kds : List (Key × Da), ¬ (kds.any fun kv => decide (kv.1 = k)) = true → valD (kds ++ [(k, d)]) j = if k = j then some d else valD kds j := by
      intro kds
      induction kds with
      | nil => intro _; rw [List.nil_append, valD_cons]
      | cons p r ih =>
        intro h
        obtain ⟨i, e⟩ := p
        rw [List.any_cons] at h
        have h1 : ¬ i = k := fun z => h (by simp [z])
        have h2 := ih fun z => h (by rw [z]; simp)
        rw [List.cons_append, valD_cons, valD_cons, h2]
        by_cases c2 : i = j
        · have c3 : ¬ k = j := fun z => h1 (c2.trans z.symm)
          simp [c2, c3]
        · simp [c2]
    exact go kds h
theorem putD_len (kds : List (Key × Da)) (k : Key) (d : Da) : (putD kds k d).length ≤ kds.length + 1 := by
  unfold putD
  split
  · rw [List.length_map]; omega
  · rw [List.length_append]; simp
theorem mergeD_len : ∀ (l acc : List (Key × Da)), (mergeD acc l).length ≤ acc.length + l.length
  | [], acc => by show acc.length ≤ _; simp
  | (k, d) :: l, acc => by
    have h := mergeD_len l (putD acc k d)
    have h2 := putD_len acc k d
    show (mergeD (putD acc k d) l).length ≤ _
    rw [List.length_cons]
    omega
theorem mergeD_nil (acc : List (Key × Da)) : mergeD acc [] = acc := rfl
theorem mergeD_cons (acc : List (Key × Da)) (k : Key) (d : Da) (l : List (Key × Da)) : mergeD acc ((k, d) :: l) = mergeD (putD acc k d) l := rfl
end Z
namespace Z
open PySem PySem.Spec PyProof.Rows L2 Evl
theorem lookup_one {α : Type} (k : Str) (d : α) : List.lookup k [(k, d)] = some d := by
  rw [List.lookup_cons, beq_self_eq_true]
theorem enuD_get {ds : List Da} {k : Nat} {d : Da} (h : (enuD ds)[k]? = some d) : ∃ x, ds[k]? = some x ∧ d = .tup [.int (k : Nat), x] := by
  unfold enuD at h
  rw [List.getElem?_map, List.getElem?_zipIdx] at h
  cases e : ds[k]? with
  | none => rw [e] at h; cases h
  | some x =>
    rw [e] at h
    refine ⟨x, rfl, ?_⟩
    simpa using h.symm
theorem cutL_takeD {α : Type} (xs : List α) (m : Nat) : cutL xs none (some (m : Int)) = xs.take m := by
  unfold cutL
  have e1 : HT.sIx xs.length xs.length (some (m : Int)) = min m xs.length := HT.sIx_nat _ _ _
  rw [e1, show HT.sIx xs.length 0 none = 0 from rfl, List.drop_zero, Nat.sub_zero]
  by_cases h : m ≤ xs.length
  · rw [Nat.min_eq_left h]
  · rw [Nat.min_eq_right (by omega), List.take_of_length_le (by omega), List.take_of_length_le (by omega)]
theorem cutL_dropD {α : Type} (xs : List α) (n : Nat) : cutL xs (some (n : Int)) none = xs.drop n := by
  have e1 : HT.sIx xs.length 0 (some (n : Int)) = min n xs.length := HT.sIx_nat _ _ _
  have e2 : HT.sIx xs.length xs.length none = xs.length := rfl
  unfold cutL
  rw [e1, e2]
  by_cases h : n ≤ xs.length
  · rw [Nat.min_eq_left h]
    apply List.take_of_length_le
    rw [List.length_drop]
    exact Nat.le_refl _
  · rw [Nat.min_eq_right (by omega), Nat.sub_self, List.take_zero, List.drop_of_length_le (by omega)]
theorem lcL2_pureG {still : Mem → Prop} {g : MG} {tt : MT} {mi : MI} {g1 : MG} {tt1 : MT} {te : ME} {vs vs1 : List Nat} {ρ : Sl} {M : Mem} {Q : TK} {items : List Da} (sl : Da → Sl) (out : Da → List Da) (hl : (items.flatMap out).length ≤ 900000)
    (hg : ∀ d ∈ items, ∀ R : Sl → Mem → Prop, R (sl d) M → g d (wipeD ρ vs) M R) (ht : ∀ d ∈ items, ∀ R : Bool → Mem → Prop, R true M → tt (sl d) M R)
    (hin : ∀ d ∈ items, ∀ (acc : List Da) (C : List Da → Mem → Prop), acc.length ≤ 900000 → C (acc ++ out d) M → mi (sl d) M fun I1 M4 => lcIn I1.still g1 tt1 te vs1 (sl d) C I1.items acc M4)
    (hS : still M) (q : Q (.lst (items.flatMap out)) M) : lcL2 still g tt mi g1 tt1 te vs vs1 ρ items [] M Q := by
  have go : ∀ (ds es : List Da), es ++ ds = items → lcL2 still g tt mi g1 tt1 te vs vs1 ρ ds (es.flatMap out) M Q := by
    intro ds
    induction ds with
    | nil =>
      intro es e
      rw [List.append_nil] at e
      subst e
      exact q
    | cons d ds ih =>
      intro es e
      have hd : d ∈ items := by rw [← e]; simp
      have hle : (es.flatMap out).length ≤ 900000 := by
        have e2 : (items.flatMap out).length = (es.flatMap out).length + ((d :: ds).flatMap out).length := by
          rw [← e, List.flatMap_append, List.length_append]
        omega
      unfold lcL2
      refine hg d hd _ (ht d hd _ (iteT (hin d hd _ _ hle ⟨hS, ?_⟩)))
      have e3 : es.flatMap out ++ out d = (es ++ [d]).flatMap out := by simp
      rw [e3]
      exact ih (es ++ [d]) (by rw [List.append_assoc]; exact e)
  exact go items [] rfl
theorem eqD_non_non   : eqD (.non) (.non) = true := rfl
theorem eqD_non_bl  (b : Bool) : eqD (.non) (.bl b) = false := rfl
theorem eqD_non_int  (b : Int) : eqD (.non) (.int b) = false := rfl
theorem eqD_non_str  (b : Str) : eqD (.non) (.str b) = false := rfl
theorem eqD_non_tup  (b : List Da) : eqD (.non) (.tup b) = false := rfl
theorem eqD_non_lst  (b : List Da) : eqD (.non) (.lst b) = false := rfl
theorem eqD_non_dct  (b : List (Key × Da)) : eqD (.non) (.dct b) = false := rfl
theorem eqD_non_obj  (b : Str) (b' : List (Str × Da)) : eqD (.non) (.obj b b') = false := rfl
theorem eqD_bl_non (a : Bool)  : eqD (.bl a) (.non) = false := rfl
theorem eqD_bl_bl (a : Bool) (b : Bool) : eqD (.bl a) (.bl b) = decide (a = b) := rfl
theorem eqD_bl_int (a : Bool) (b : Int) : eqD (.bl a) (.int b) = ((if a then 1 else 0) == b) := rfl
theorem eqD_bl_str (a : Bool) (b : Str) : eqD (.bl a) (.str b) = false := rfl
theorem eqD_bl_tup (a : Bool) (b : List Da) : eqD (.bl a) (.tup b) = false := rfl
theorem eqD_bl_lst (a : Bool) (b : List Da) : eqD (.bl a) (.lst b) = false := rfl
theorem eqD_bl_dct (a : Bool) (b : List (Key × Da)) : eqD (.bl a) (.dct b) = false := rfl
theorem eqD_bl_obj (a : Bool) (b : Str) (b' : List (Str × Da)) : eqD (.bl a) (.obj b b') = false := rfl
theorem eqD_int_non (a : Int)  : eqD (.int a) (.non) = false := rfl
theorem eqD_int_bl (a : Int) (b : Bool) : eqD (.int a) (.bl b) = (a == (if b then 1 else 0)) := rfl
theorem eqD_int_int (a : Int) (b : Int) : eqD (.int a) (.int b) = decide (a = b) := rfl
theorem eqD_int_str (a : Int) (b : Str) : eqD (.int a) (.str b) = false := rfl
theorem eqD_int_tup (a : Int) (b : List Da) : eqD (.int a) (.tup b) = false := rfl
theorem eqD_int_lst (a : Int) (b : List Da) : eqD (.int a) (.lst b) = false := rfl
theorem eqD_int_dct (a : Int) (b : List (Key × Da)) : eqD (.int a) (.dct b) = false := rfl
theorem eqD_int_obj (a : Int) (b : Str) (b' : List (Str × Da)) : eqD (.int a) (.obj b b') = false := rfl
theorem eqD_str_non (a : Str)  : eqD (.str a) (.non) = false := rfl
theorem eqD_str_bl (a : Str) (b : Bool) : eqD (.str a) (.bl b) = false := rfl
theorem eqD_str_int (a : Str) (b : Int) : eqD (.str a) (.int b) = false := rfl
theorem eqD_str_str (a : Str) (b : Str) : eqD (.str a) (.str b) = decide (a = b) := rfl
theorem eqD_str_tup (a : Str) (b : List Da) : eqD (.str a) (.tup b) = false := rfl
theorem eqD_str_lst (a : Str) (b : List Da) : eqD (.str a) (.lst b) = false := rfl
theorem eqD_str_dct (a : Str) (b : List (Key × Da)) : eqD (.str a) (.dct b) = false := rfl
theorem eqD_str_obj (a : Str) (b : Str) (b' : List (Str × Da)) : eqD (.str a) (.obj b b') = false := rfl
theorem eqD_tup_non (a : List Da)  : eqD (.tup a) (.non) = false := rfl
theorem eqD_tup_bl (a : List Da) (b : Bool) : eqD (.tup a) (.bl b) = false := rfl
theorem eqD_tup_int (a : List Da) (b : Int) : eqD (.tup a) (.int b) = false := rfl
theorem eqD_tup_str (a : List Da) (b : Str) : eqD (.tup a) (.str b) = false := rfl
theorem eqD_tup_tup (a : List Da) (b : List Da) : eqD (.tup a) (.tup b) = eqL a b := rfl
theorem eqD_tup_lst (a : List Da) (b : List Da) : eqD (.tup a) (.lst b) = false := rfl
theorem eqD_tup_dct (a : List Da) (b : List (Key × Da)) : eqD (.tup a) (.dct b) = false := rfl
theorem eqD_tup_obj (a : List Da) (b : Str) (b' : List (Str × Da)) : eqD (.tup a) (.obj b b') = false := rfl
theorem eqD_lst_non (a : List Da)  : eqD (.lst a) (.non) = false := rfl
theorem eqD_lst_bl (a : List Da) (b : Bool) : eqD (.lst a) (.bl b) = false := rfl
theorem eqD_lst_int (a : List Da) (b : Int) : eqD (.lst a) (.int b) = false := rfl
theorem eqD_lst_str (a : List Da) (b : Str) : eqD (.lst a) (.str b) = false := rfl
theorem eqD_lst_tup (a : List Da) (b : List Da) : eqD (.lst a) (.tup b) = false := rfl
theorem eqD_lst_lst (a : List Da) (b : List Da) : eqD (.lst a) (.lst b) = eqL a b := rfl
theorem eqD_lst_dct (a : List Da) (b : List (Key × Da)) : eqD (.lst a) (.dct b) = false := rfl
theorem eqD_lst_obj (a : List Da) (b : Str) (b' : List (Str × Da)) : eqD (.lst a) (.obj b b') = false := rfl
theorem eqD_dct_non (a : List (Key × Da))  : eqD (.dct a) (.non) = false := rfl
theorem eqD_dct_bl (a : List (Key × Da)) (b : Bool) : eqD (.dct a) (.bl b) = false := rfl
theorem eqD_dct_int (a : List (Key × Da)) (b : Int) : eqD (.dct a) (.int b) = false := rfl
theorem eqD_dct_str (a : List (Key × Da)) (b : Str) : eqD (.dct a) (.str b) = false := rfl
theorem eqD_dct_tup (a : List (Key × Da)) (b : List Da) : eqD (.dct a) (.tup b) = false := rfl
theorem eqD_dct_lst (a : List (Key × Da)) (b : List Da) : eqD (.dct a) (.lst b) = false := rfl
theorem eqD_dct_dct (a : List (Key × Da)) (b : List (Key × Da)) : eqD (.dct a) (.dct b) = false := rfl
theorem eqD_dct_obj (a : List (Key × Da)) (b : Str) (b' : List (Str × Da)) : eqD (.dct a) (.obj b b') = false := rfl
theorem eqD_obj_non (a : Str) (a' : List (Str × Da))  : eqD (.obj a a') (.non) = false := rfl
theorem eqD_obj_bl (a : Str) (a' : List (Str × Da)) (b : Bool) : eqD (.obj a a') (.bl b) = false := rfl
theorem eqD_obj_int (a : Str) (a' : List (Str × Da)) (b : Int) : eqD (.obj a a') (.int b) = false := rfl
theorem eqD_obj_str (a : Str) (a' : List (Str × Da)) (b : Str) : eqD (.obj a a') (.str b) = false := rfl
theorem eqD_obj_tup (a : Str) (a' : List (Str × Da)) (b : List Da) : eqD (.obj a a') (.tup b) = false := rfl
theorem eqD_obj_lst (a : Str) (a' : List (Str × Da)) (b : List Da) : eqD (.obj a a') (.lst b) = false := rfl
theorem eqD_obj_dct (a : Str) (a' : List (Str × Da)) (b : List (Key × Da)) : eqD (.obj a a') (.dct b) = false := rfl
theorem eqD_obj_obj (a : Str) (a' : List (Str × Da)) (b : Str) (b' : List (Str × Da)) : eqD (.obj a a') (.obj b b') = false := rfl
theorem eqL_nn : eqL [] [] = true := rfl
theorem eqL_nc (y : Da) (ys : List Da) : eqL [] (y :: ys) = false := rfl
theorem eqL_cn (y : Da) (ys : List Da) : eqL (y :: ys) [] = false := rfl
theorem eqL_cc (x y : Da) (xs ys : List Da) : eqL (x :: xs) (y :: ys) = (eqD x y && eqL xs ys) := rfl
end Z
namespace Z
open PySem PySem.Spec PyProof.Rows L2 Evl
section
variable {X : Cx} {k n : Nat} {ps : List Str} {sp : Sp} {C m : Str} {pm : List Nat} {dvs : List V}
abbrev TJ := Str → L2.St → Hp → (Str → Hp → Prop) → Prop
end
end Z
namespace Z
open PySem PySem.Spec PyProof.Rows L2 Evl
section
variable {K : PySem.W.Frag} {χ φ : List Addr} {H : Hp} {M : Mem}
abbrev MJ := Str → Sl → Mem → (Str → Mem → Prop) → Prop
def FJ (K : PySem.W.Frag) (χ : List Addr) (H : Hp) (φ : List Addr) (Q' : Str → Mem → Prop) (Q : Str → Hp → Prop) : Prop := ∀ z H' φ' M', z.length ≤ sizeLine → Adv H φ H' φ' → Mm K H' φ' χ M' → Q' z M' → Q z H'
theorem FJ.adv {H1 : Hp} {φ1 : List Addr} {Q' : Str → Mem → Prop} {Q : Str → Hp → Prop} (f : FJ K χ H φ Q' Q) (A : Adv H φ H1 φ1) : FJ K χ H1 φ1 Q' Q := fun z H' φ' M' l B => f z H' φ' M' l (A.trans B)
variable {te : WX → TE} {me : WD → ME} {tj : WX → TJ} {mj : WD → MJ}
end
end Z
namespace Z
open PySem PySem.Spec PyProof.Rows L2 Evl
section
variable {X : Cx}
def rSortD : List V → Hp → VK → Prop := fun xs H Q => ∃ (a : Addr) (kvs : List (Key × V)) (ks : List Str), xs = [.ref a] ∧ Rd H a (.dK kvs) ∧ kvs.map (·.1) = ks.map Sum.inr ∧ ks.length < 64 ∧
    ∀ ys p, ys.Perm ks → sortedS ys = true → H p = none → Q (.ref p) (upd H p (.lst (ys.map V.str)))
def rSortA (K : PySem.W.Frag) : List V → Hp → VK → Prop := fun xs H Q => rSortedS K xs H Q ∨ rSortD xs H Q
theorem call_sortA (hc : X.calm = true) : CallR X (.builtin "sorted") (rSortA X.K) := CallR.or cr_sortedS (call_sortedD hc)
def rDictP (K : PySem.W.Frag) : List V → Hp → VK → Prop := fun xs H Q => ∃ (a : Addr) (ps : List Addr) (kvs : List (Key × V)), xs = [.ref a] ∧ SqL K H a (ps.map V.ref) ∧ Paired (fun p kv => SqT K H p [kV kv.1, kv.2]) ps kvs ∧
    ∀ p, H p = none → Q (.ref p) (upd H p (.dK (mergeK [] kvs)))
theorem call_dictA (hc : X.calm = true) : CallR X (.type "dict") (rDictP X.K) := call_dictP hc
def lkW (W : WX) (d : Addr) (od : Obj) (u : HO) : WX := fun c x σ' H' => H' d = some (.frz od u) ∧ W c x σ' (upd H' d u)
def lkD (D : Ends) (d : Addr) (od : Obj) (u : HO) : Ends := ⟨fun σ' H' => H' d = some (.frz od u) ∧ D.nx σ' (upd H' d u), fun v H' => H' d = some (.frz od u) ∧ D.rt v (upd H' d u), fun σ' H' => H' d = some (.frz od u) ∧ D.bk σ' (upd H' d u), fun σ' H' => H' d = some (.frz od u) ∧ D.ct σ' (upd H' d u)⟩
def tLockW (t : WX → TS) (W : WX) : TS := fun D σ H => (∃ d u, H d = some u ∧ Mut (some u) ∧ ∀ od, t (lkW W d od u) (lkD D d od u) σ (upd H d (.frz od u))) ∨ t W D σ H
theorem takes_lock {W : WX} {d : Addr} {od : Obj} {u : HO} (tk : L2.Takes X W) (hn : ∀ o' u', X.H_0 d ≠ some (.frz o' u')) : L2.Takes X (lkW W d od u) := fun e s' ⟨a, B, sI, pins, σ, H, cls, dd, eu, I, nb, up, sky, na, os, ag, e1, w⟩ =>
  tk e s' ⟨a, B, sI, pins, σ, _, cls, dd, eu, I.unlock e1 hn, nb, up, sky, by rw [upd_ne (fun q => by rw [q, e1] at na; cases na)]; exact na, os, ag, w⟩
theorem ps_lockW {st : Stmt} {t : WX → TS} {W : WX} (tk : L2.Takes X W) (h : ∀ W2, L2.Takes X W2 → PS X st (t W2)) : PS X st (tLockW t W) := by
  refine ⟨fun pins s σ H D I hw => ?_⟩
  rcases hw with ⟨d, u, hd, mu, hw⟩ | hw
  · obtain ⟨od, I1⟩ := I.lock hd mu
    have hn := I.nofrz hd mu
    refine thn ((h _ (takes_lock tk hn)).run pins s σ _ _ I1 (hw od)) fun f s1 q => ?_
    cases f with
    | next => obtain ⟨σ', H', I2, e, q⟩ := q; exact ⟨σ', _, I2.unlock e hn, q⟩
    | brk => obtain ⟨σ', H', I2, e, q⟩ := q; exact ⟨σ', _, I2.unlock e hn, q⟩
    | cont => obtain ⟨σ', H', I2, e, q⟩ := q; exact ⟨σ', _, I2.unlock e hn, q⟩
    | ret v => obtain ⟨x, σ', H', I2, r, e, q⟩ := q; exact ⟨x, σ', _, I2.unlock e hn, r, q⟩
  · exact (h W tk).run pins s σ H D I hw
theorem takes_no : L2.Takes X (fun _ _ _ _ => False) := fun e s' ⟨a, B, sI, pins, σ, H, cls, dd, eu, I, nb, up, sky, na, os, ag, w⟩ => w.elim
/-- a, b = .. of a tuple or a list -/
def gTL (K : PySem.W.Frag) (n : Nat) (t : TGs) : TG := fun v σ H Q => gTup K n t v σ H Q ∨ gLst K n t v σ H Q
theorem pg_tl {es : List Expr} {k : Nat} {t : TGs} {n : Nat} {pos : Pos} (hc : X.calm = true) (h : PGs X es t)
    (hn : (assignEach es X.env).length = n := by rfl) (hst : (assignEach es X.env).findIdx? (·.1) = none := by rfl) : PG X (.Tuple es k pos) (gTL X.K n t) :=
  ⟨fun pins s σ H v u Q I r hw => hw.elim ((pg_tup hc h hn hst).run pins s σ H v u Q I r) ((pg_lst hc h hn hst).run pins s σ H v u Q I r)⟩
end
end Z
namespace Z
open PySem PySem.Spec PyProof.Rows L2 Evl
section
variable {K : PySem.W.Frag} {χ φ : List Addr} {H : Hp} {M : Mem} {v : V} {d : Da}
theorem strs_len : ∀ {ns : List Str} {vs : List V}, RpL K H φ χ vs (ns.map Da.str) → ∀ z ∈ ns, z.length ≤ sizeLine
  | [], _, _, z, hz => by cases hz
  | n :: ns, _, .cons h r, z, hz => by
    rcases List.mem_cons.1 hz with rfl | hz
    · exact (vStr h).2
    · exact strs_len r z hz
theorem strs_rp : ∀ {ns : List Str}, (∀ z ∈ ns, z.length ≤ sizeLine) → RpL K H φ χ (ns.map V.str) (ns.map Da.str)
  | [], _ => .nil
  | n :: ns, h => .cons (.str (h n (List.mem_cons_self ..))) (strs_rp fun z hz => h z (List.mem_cons_of_mem _ hz))
def keysS : List (Key × Da) → Option (List Str)
  | [] => some []
  | (.inr z, _) :: r => (keysS r).map (z :: ·)
  | _ => none
theorem keysS_of : ∀ {kvs : List (Key × V)} {kds : List (Key × Da)} {zs : List Str}, RpK K H φ χ kvs kds → keysS kds = some zs → kvs.map (·.1) = zs.map Sum.inr
  | _, _, _, .nil, e => by cases e; rfl
  | _, _, zs, .cons (k := k) (ds := ds) h r, e => by
    cases k with
    | inl i => cases e
    | inr z =>
      have e : (keysS ds).map (z :: ·) = some zs := e
      obtain ⟨ys, e1, rfl⟩ := Option.map_eq_some_iff.1 e
      rw [List.map_cons, List.map_cons, keysS_of r e1]
def nSort : List Da → Mem → TK → Prop := fun ds M Q => match ds with
  | [x] => match look M x with
    | .lst es => match strsD es with
      | some zs => zs.length < 64 ∧ ∀ ys, ys.Perm zs → sortedS ys = true → Q (.lst (ys.map Da.str)) M
      | none => False
    | .dct kds => match keysS kds with
      | some zs => zs.length < 64 ∧ (∀ z ∈ zs, z.length ≤ sizeLine) ∧ ∀ ys, ys.Perm zs → sortedS ys = true → Q (.lst (ys.map Da.str)) M
      | none => False
    | _ => False
  | _ => False
theorem C_sort : SC K (rSortA K) nSort := by
  intro χ H φ M x dx Q Q' m hx f h
  unfold nSort at h
  split at h
  · obtain ⟨v, rfl, h1⟩ := hx.one
    split at h
    · rename_i es e
      split at h
      · rename_i zs e2
        obtain ⟨a, vs, rfl, hs, r⟩ := vL m h1 e
        rw [strsD_of e2] at r
        have hl := strs_len r
        rw [r.strs] at hs
        exact .inl ⟨a, zs, rfl, hs, h.1, fun ys p pm so hp => f.lst m (strs_rp fun z hz => hl z (pm.mem_iff.1 hz)) hp (h.2 ys pm so)⟩
      · exact h.elim
    · rename_i kds e
      split at h
      · rename_i zs e2
        obtain ⟨a, kvs, rfl, hr, r⟩ := vD m h1 e
        exact .inr ⟨a, kvs, zs, rfl, hr, keysS_of r e2, h.1, fun ys p pm so hp => f.lst m (strs_rp fun z hz => h.2.1 z (pm.mem_iff.1 hz)) hp (h.2.2 ys pm so)⟩
      · exact h.elim
    · exact h.elim
  · exact h.elim
def pairsD (M : Mem) : List Da → Option (List (Key × Da))
  | [] => some []
  | d :: r => match look M d with
    | .tup [x, y] => match keyD x, pairsD M r with
      | some k, some ks => some ((k, y) :: ks)
      | _, _ => none
    | _ => none
theorem pairsD_of (m : Mm K H φ χ M) : ∀ {ds : List Da} {ks : List (Key × Da)} {vs : List V}, RpL K H φ χ vs ds → pairsD M ds = some ks → ∃ (ps : List Addr) (kvs : List (Key × V)), vs = ps.map V.ref ∧ Paired (fun p (kv : Key × V) => SqT K H p [kV kv.1, kv.2]) ps kvs ∧ RpK K H φ χ kvs ks
  | [], ks, vs, r, e => by
    cases r
    cases e
    exact ⟨[], [], rfl, .nil, .nil⟩
  | d :: ds, ks, vs, r, e => by
    cases r with
    | cons h r =>
      unfold pairsD at e
      split at e
      · rename_i x y e1
        split at e
        · rename_i k kk e2 e3
          cases e
          obtain ⟨a, us, rfl, hs, ru⟩ := vT m h e1
          obtain ⟨ps, kvs, rfl, pp, rk⟩ := pairsD_of m r e3
          obtain ⟨u, w, rfl, hu, hw⟩ := ru.two
          rw [keyD_of hu e2] at hs
          exact ⟨a :: ps, (k, w) :: kvs, rfl, .cons hs pp, .cons hw rk⟩
        · cases e
      · cases e
def nDictP : List Da → Mem → TK → Prop := fun ds M Q => match ds with
  | [x] => match look M x with
    | .lst es => match pairsD M es with
      | some ks => Q (.dct (mergeD [] ks)) M
      | none => False
    | _ => False
  | _ => False
theorem C_dictP : SC K (rDictP K) nDictP := by
  intro χ H φ M x dx Q Q' m hx f h
  unfold nDictP at h
  split at h
  · obtain ⟨v, rfl, h1⟩ := hx.one
    split at h
    · rename_i es e
      split at h
      · rename_i ks e2
        obtain ⟨a, vs, rfl, hs, r⟩ := vL m h1 e
        obtain ⟨ps, kvs, rfl, pp, rk⟩ := pairsD_of m r e2
        refine ⟨a, ps, kvs, rfl, hs, pp, fun p hp => f _ _ _ _ _ (Adv.new hp) (m.new hp) (.dct upd_same rfl (m.nin hp) (fun c => m.hid p c hp) ((mergeD_run rk .nil).adv (Adv.new hp))) h⟩
      · exact h.elim
    · exact h.elim
  · exact h.elim
def intsD : List Da → Option (List Int)
  | [] => some []
  | .int i :: r => (intsD r).map (i :: ·)
  | _ => none
theorem intsD_of : ∀ {ds : List Da} {ns : List Int} {vs : List V}, RpL K H φ χ vs ds → intsD ds = some ns → vs = ns.map V.int
  | [], ns, vs, r, e => by cases r; cases e; rfl
  | d :: ds, ns, vs, r, e => by
    cases r with
    | cons h r =>
      cases d with
      | int i =>
        have e : (intsD ds).map (i :: ·) = some ns := e
        obtain ⟨ms, e1, rfl⟩ := Option.map_eq_some_iff.1 e
        rw [vInt h, intsD_of r e1]
        rfl
      | _ => cases e
structure SameBut (D : Addr) (H1 H2 : Hp) (kvs : List (Key × V)) : Prop where
  ne : ∀ a, a ≠ D → H2 a = H1 a
  o1 : ∃ o, H1 D = some o ∧ coreD o = some kvs
  o2 : ∃ o, H2 D = some o ∧ coreD o = some kvs
section
variable {D : Addr} {H1 H2 : Hp} {kvs : List (Key × V)}
theorem SameBut.other (S : SameBut D H1 H2 kvs) {a : Addr} {o : HO} (h : H1 a = some o) (c : coreD o = none) : H2 a = some o := by
  by_cases e : a = D
  · obtain ⟨o', h1, c1⟩ := S.o1
    rw [← e, h] at h1
    cases h1
    rw [c] at c1
    cases c1
  · rw [S.ne a e]
    exact h
theorem SameBut.dct (S : SameBut D H1 H2 kvs) {a : Addr} {o : HO} {ks : List (Key × V)} (h : H1 a = some o) (c : coreD o = some ks) : ∃ o', H2 a = some o' ∧ coreD o' = some ks := by
  by_cases e : a = D
  · obtain ⟨o', h1, c1⟩ := S.o1
    obtain ⟨o2, h2, c2⟩ := S.o2
    rw [e, h1] at h
    cases h
    rw [c] at c1
    cases c1
    exact ⟨o2, by rw [e]; exact h2, c2⟩
  · exact ⟨o, by rw [S.ne a e]; exact h, c⟩
mutual
theorem Rp.same (S : SameBut D H1 H2 kvs) : ∀ {v : V} {d : Da}, Rp K H1 φ χ v d → Rp K H2 φ χ v d
  | _, _, .non => .non
  | _, _, .bl b => .bl b
  | _, _, .int i => .int i
  | _, _, .str h => .str h
  | _, _, .ty n => .ty n
  | _, _, .gl x => .gl x
  | _, _, .tup h n m r => .tup (S.other h rfl) n m (RpL.same S r)
  | _, _, .lst h n m r => .lst (S.other h rfl) n m (RpL.same S r)
  | _, _, .dct h c n m r => match S.dct h c with
    | ⟨_, h', c'⟩ => .dct h' c' n m (RpK.same S r)
  | _, _, .obj h n m r => .obj (S.other h rfl) n m (RpF.same S r)
  | _, _, .klR h e n m r => .klR (S.other h (by rcases e with rfl | ⟨ob, rfl⟩ <;> rfl)) e n m (RpL.same S r)
  | _, _, .klK h r => .klK h (RpL.same S r)
  | _, _, .ktK h r => .ktK h (RpL.same S r)
  | _, _, .cell h => .cell h
  | _, _, .exv h n m r => .exv (S.other h rfl) n m (RpF.same S r)
theorem RpL.same (S : SameBut D H1 H2 kvs) : ∀ {v : List V} {d : List Da}, RpL K H1 φ χ v d → RpL K H2 φ χ v d
  | _, _, .nil => .nil
  | _, _, .cons h r => .cons (Rp.same S h) (RpL.same S r)
theorem RpK.same (S : SameBut D H1 H2 kvs) : ∀ {v : List (Key × V)} {d : List (Key × Da)}, RpK K H1 φ χ v d → RpK K H2 φ χ v d
  | _, _, .nil => .nil
  | _, _, .cons h r => .cons (Rp.same S h) (RpK.same S r)
theorem RpF.same (S : SameBut D H1 H2 kvs) : ∀ {v : List (Str × V)} {d : List (Str × Da)}, RpF K H1 φ χ v d → RpF K H2 φ χ v d
  | _, _, .nil => .nil
  | _, _, .cons h r => .cons (Rp.same S h) (RpF.same S r)
end
theorem Mm.same (S : SameBut D H1 H2 kvs) (n : D ∉ φ) (m : Mm K H1 φ χ M) : Mm K H2 φ χ M where
  nd := m.nd
  len := m.len
  dis := m.dis
  hid := fun a ha => by
    by_cases e : a = D
    · obtain ⟨o2, h2, _⟩ := S.o2
      rw [e, h2]
      simp
    · rw [S.ne a e]
      exact m.hid a ha
  at_ := fun k a d e1 e2 => by
    have c := m.at_ k a d e1 e2
    have ne : a ≠ D := fun q => n (by rw [← q]; exact List.mem_of_getElem? e1)
    cases d with
    | lst ds => obtain ⟨vs, q, r⟩ := c; exact ⟨vs, by rw [S.ne a ne]; exact q, r.same S⟩
    | dct ds => obtain ⟨vs, q, r⟩ := c; exact ⟨vs, by rw [S.ne a ne]; exact q, r.same S⟩
    | obj c ds => obtain ⟨dx, vs, q, r⟩ := c; exact ⟨dx, vs, by rw [S.ne a ne]; exact q, r.same S⟩
    | gl x => show H2 a ≠ none; rw [S.ne a ne]; exact c
    | _ => exact c.elim
theorem Rs.same {σ : L2.St} {ρ : Sl} (S : SameBut D H1 H2 kvs) (r : Rs K H1 φ χ σ ρ) : Rs K H2 φ χ σ ρ := ⟨r.len, fun i d e => by
  obtain ⟨v, h, q⟩ := r.at_ i d e
  exact ⟨v, h, q.same S⟩⟩
/-- out of the lock -/
structure Out (D : Addr) (kvs : List (Key × V)) (od : Obj) (H : Hp) (φ : List Addr) (H' : Hp) (φ' : List Addr) : Prop where
  adv : Adv H φ (upd H' D (.dK kvs)) φ'
  at_ : H' D = some (.frz od (.dK kvs))
  nin : D ∉ φ'
  same : SameBut D H' (upd H' D (.dK kvs)) kvs
theorem out_of {od : Obj} {H H' : Hp} {φ' : List Addr} (hd : H D = some (.dK kvs)) (n : D ∉ φ) (A : Adv (upd H D (.frz od (.dK kvs))) φ H' φ') : Out D kvs od H φ H' φ' := by
  have at_ : H' D = some (.frz od (.dK kvs)) := A.keep D _ upd_same n
  refine ⟨⟨fun a o e na => ?_, ?_, fun a e => ?_⟩, at_, A.nin upd_same n, ⟨fun a e => upd_ne e, ⟨_, at_, rfl⟩, ⟨_, upd_same, rfl⟩⟩⟩
  · by_cases q : a = D
    · subst q
      rw [hd] at e
      cases e
      exact upd_same
    · rw [upd_ne q]
      exact A.keep a o (by rw [upd_ne q]; exact e) na
  · obtain ⟨ψ, e, q⟩ := A.pre
    refine ⟨ψ, e, fun a ha => ?_⟩
    have z := q a ha
    by_cases ea : a = D
    · rw [ea, upd_same] at z; cases z
    · rw [upd_ne ea] at z; exact z
  · by_cases q : a = D
    · rw [q, upd_same]; simp
    · rw [upd_ne q]
      exact A.dom a (by rw [upd_ne q]; exact e)
theorem into {od : Obj} {H : Hp} (hd : H D = some (.dK kvs)) : SameBut D H (upd H D (.frz od (.dK kvs))) kvs := ⟨fun a e => upd_ne e, ⟨_, hd, rfl⟩, ⟨_, upd_same, rfl⟩⟩
end
def keyV : Key → Da
  | .inl i => .int i
  | .inr z => .str z
def keyOk : Key → Prop
  | .inl _ => True
  | .inr z => z.length ≤ sizeLine
theorem keyV_rp {k : Key} (h : keyOk k) : Rp K H φ χ (kV k) (keyV k) := by
  cases k with
  | inl i => exact .int i
  | inr z => exact .str h
theorem RpK.get {i : Nat} : ∀ {kvs : List (Key × V)} {kds : List (Key × Da)}, RpK K H φ χ kvs kds → ∀ {k : Key} {v : V}, kvs[i]? = some (k, v) → ∃ d, kds[i]? = some (k, d) ∧ Rp K H φ χ v d := by
  induction i with
  | zero =>
    intro kvs kds r k v e
    cases r with
    | nil => cases e
    | cons h r => cases e; exact ⟨_, rfl, h⟩
  | succ i ih =>
    intro kvs kds r k v e
    cases r with
    | nil => cases e
    | cons h r => exact ih r (by simpa using e)
def keysD (kds : List (Key × Da)) : List Da := kds.map fun p => keyV p.1
theorem turns_keys {D : Addr} {o : Obj} {kvs : List (Key × V)} {kds : List (Key × Da)} (hd : H D = some (.frz o (.dK kvs))) (n : D ∉ φ) (nχ : D ∉ χ) (r : RpK K H φ χ kvs kds) (ok : ∀ p ∈ kds, keyOk p.1) : Turns K χ (Itk D o kvs) ⟨keysD kds, fun _ => True⟩ H φ := fun H1 φ1 M1 χ1 hχ A m _ => by
  have hl := r.len
  have hk : (keysD kds).length = kds.length := List.length_map ..
  refine ⟨fun i hi => ⟨⟨A.keep D _ hd n nχ, by rw [hl, ← hk]; exact hi⟩, ?_⟩, ⟨A.keep D _ hd n nχ, by rw [hl, ← hk]; exact Nat.le_refl _⟩⟩
  rintro x H' ⟨rfl, k, v, e, rfl⟩
  obtain ⟨d, e1, _⟩ := r.get e
  refine ⟨keyV k, ?_, Adv.refl, m, keyV_rp (ok _ (List.mem_of_getElem? e1))⟩
  show (List.map _ kds)[i]? = _
  rw [List.getElem?_map, e1]
  rfl
structure Pt (K : PySem.W.Frag) (te : TE) (pth : Sl → Mem → Option Da) : Prop where
  run : ∀ {χ σ H φ ρ M d}, Rs K H φ χ σ ρ → Mm K H φ χ M → pth ρ M = some d → ∃ v, Rp K H φ χ v d ∧ (∀ Q : VK, Q v H → te σ H Q) ∧ ∀ D ks o, H D = some (.dK ks) → ∀ Q : VK, Q v (upd H D o) → te σ (upd H D o) Q
def pVar (i : Nat) : Sl → Mem → Option Da := fun ρ _ => match ρ[i]? with
  | some (some d) => some d
  | _ => none
theorem P_var (i : Nat) : Pt K (tVar i) (pVar i) := ⟨fun {χ σ H φ ρ M d} r m e => by
  unfold pVar at e
  split at e
  · rename_i d' e1
    cases e
    obtain ⟨v, h1, h2⟩ := r.at_ _ _ e1
    exact ⟨v, h2, fun Q q => ⟨v, h1, q⟩, fun D ks o _ Q q => ⟨v, h1, q⟩⟩
  · cases e⟩
theorem Rp.dctOf (h : Rp K H φ χ v (.dct kds)) : ∃ a o kvs, v = .ref a ∧ H a = some o ∧ coreD o = some kvs ∧ a ∉ φ ∧ a ∉ χ ∧ RpK K H φ χ kvs kds := by
  cases h with
  | dct h c n m r => exact ⟨_, _, _, rfl, h, c, n, m, r⟩
variable {tg : WX → TG} {mg : WD → MG} {ts : WX → TS} {mt : WD → MS}
def ForT (J : It) (g : TG) (tb : TS) (D : Ends) (σ : L2.St) (H1 : Hp) : Prop := ∃ W : Nat → Nat → L2.St → Hp → Prop, (∃ m, W 0 m σ H1) ∧ ∀ i m σ H, W i m σ H →
  (J.stop i H ∧ D.nx σ H) ∨ (J.go i H ∧ ∃ N : L2.St → Hp → Prop, (∀ σ' H', N σ' H' → ∃ m', m' < m ∧ W (i + 1) m' σ' H') ∧ ∀ x H', J.yld i H x H' → g x σ H' fun σ2 H2 => tb { D with nx := N, ct := N, bk := D.nx } σ2 H2)
theorem for_run {W : WX} {W' : WD} {σ : L2.St} {H0 : Hp} {φ0 : List Addr} {ρ : Sl} {M0 : Mem} {D : Ends} {D' : En} {J : It} {I : ItD} (g : SG K tg mg) (s : SS K ts mt) (r : Rs K H0 φ0 χ σ ρ) (m0 : Mm K H0 φ0 χ M0) (w : FW K χ H0 φ0 W' W)
    (n : FN K χ H0 φ0 D'.nx D.nx) (t : FE K χ H0 φ0 D'.rt D.rt) (T : Turns K χ J I H0 φ0) (st : I.still M0) (h1 : forL I.still (mg W') (mt W') D' M0.length I.items ρ M0) : ForT J (tg W) (ts W) D σ H0 := by
  have A0 : Adv H0 φ0 H0 φ0 := Adv.refl
  let Inv : Nat → Nat → L2.St → Hp → Prop := fun k j σ1 H1 => ∃ φ1 ρ1 M1, k + j = I.items.length ∧ Adv H0 φ0 H1 φ1 ∧ Rs K H1 φ1 χ σ1 ρ1 ∧ Mm K H1 φ1 χ M1 ∧ I.still M1 ∧ forL I.still (mg W') (mt W') D' M0.length (I.items.drop k) ρ1 M1
  refine ⟨Inv, ⟨I.items.length, φ0, ρ, M0, by omega, Adv.refl, r.adv A0, m0, st, by rw [List.drop_zero]; exact h1⟩, ?_⟩
  rintro k j σ1 H1 ⟨φ1, ρ1, M1, hk, A1, r1, m1, st1, q⟩
  obtain ⟨go, stop⟩ := T H1 φ1 M1 χ (fun a h => .inl h) A1.toX m1 st1
  cases e : I.items.drop k with
  | nil =>
    have hl : I.items.length ≤ k := by
      have := congrArg List.length e
      rw [List.length_drop] at this
      simp at this
      omega
    have : k = I.items.length := by omega
    subst this
    rw [e] at q
    exact .inl ⟨stop, n _ _ _ _ _ (A0.trans A1) r1 m1 q⟩
  | cons d ds =>
    have hl : k < I.items.length := by
      have := congrArg List.length e
      rw [List.length_drop] at this
      simp at this
      omega
    have ed : I.items[k]? = some d := by
      have := congrArg (fun l => l[0]?) e
      simpa using this
    have eds : I.items.drop (k + 1) = ds := by
      have := congrArg List.tail e
      simpa using this
    rw [e] at q
    obtain ⟨g1, y1⟩ := go k hl
    refine .inr ⟨g1, fun σ' H' => ∃ φ' ρ' M', Adv H0 φ0 H' φ' ∧ Rs K H' φ' χ σ' ρ' ∧ Mm K H' φ' χ M' ∧ I.still M' ∧ forL I.still (mg W') (mt W') D' M0.length ds ρ' M', ?_, ?_⟩
    · rintro σ' H' ⟨φ', ρ', M', a1, a2, a3, a4, a5⟩
      exact ⟨j - 1, by omega, φ', ρ', M', by omega, a1, a2, a3, a4, by rw [eds]; exact a5⟩
    · intro x H2 y
      obtain ⟨d', hd', A2, m2, rx⟩ := y1 x H2 y
      rw [ed] at hd'
      cases hd'
      have A02 := A1.trans A2
      have wk : ∀ {σ' H' φ' ρ' M'}, Adv H0 φ0 H' φ' → Rs K H' φ' χ σ' ρ' → Mm K H' φ' χ M' → (∃ ρ3 M3, Wk M0.length ρ' M' ρ3 M3 ∧ I.still M3 ∧ forL I.still (mg W') (mt W') D' M0.length ds ρ3 M3) →
          ∃ φ' ρ' M', Adv H0 φ0 H' φ' ∧ Rs K H' φ' χ σ' ρ' ∧ Mm K H' φ' χ M' ∧ I.still M' ∧ forL I.still (mg W') (mt W') D' M0.length ds ρ' M' := by
        rintro σ' H' φ' ρ' M' A r m ⟨ρ3, M3, k, s3, q3⟩
        obtain ⟨φ3, A3, r3, m3⟩ := k.run (Nat.le_of_eq m0.len) A r m
        exact ⟨φ3, ρ3, M3, A3, r3, m3, s3, q3⟩
      refine g.run (r1.adv A2) m2 (w.adv (A0.trans A02)) rx (fun σ3 H3 φ3 ρ3 M3 A3 r3 m3 h3 => ?_) q
      let N' : Sl → Mem → Prop := fun ρ2 M2 => ∃ ρ3 M3, Wk M0.length ρ2 M2 ρ3 M3 ∧ I.still M3 ∧ forL I.still (mg W') (mt W') D' M0.length ds ρ3 M3
      refine s.run (D' := { nx := N', rt := D'.rt, bk := D'.nx, ct := N' }) r3 m3 (w.adv (A0.trans (A02.trans A3))) ?_ (t.adv (A0.trans (A02.trans A3))) ?_ ?_ h3
      · exact fun σ4 H4 φ4 ρ4 M4 A4 r4 m4 h4 => wk ((A02.trans A3).trans A4) r4 m4 h4
      · exact fun σ4 H4 φ4 ρ4 M4 A4 r4 m4 h4 => n _ _ _ _ _ (A0.trans ((A02.trans A3).trans A4)) r4 m4 h4
      · exact fun σ4 H4 φ4 ρ4 M4 A4 r4 m4 h4 => wk ((A02.trans A3).trans A4) r4 m4 h4
theorem FW.lock {W : WX} {W' : WD} {D : Addr} {kvs : List (Key × V)} {od : Obj} (hd : H D = some (.dK kvs)) (nd : D ∉ φ) (w : FW K χ H φ W' W) : FW K χ (upd H D (.frz od (.dK kvs))) φ W' (lkW W D od (.dK kvs)) := fun c fs vfs dd σ' H' φ' ρ' M' A r m h n1 n2 q hW => by
  have O := out_of hd nd A
  have ne : dd ≠ D := fun z => by rw [z, O.at_] at h; cases h
  exact ⟨O.at_, w c fs vfs dd σ' _ φ' ρ' M' O.adv (r.same O.same) (m.same O.same O.nin) (by rw [upd_ne ne]; exact h) n1 n2 (q.same O.same) hW⟩
theorem FN.lock {Q' : Sl → Mem → Prop} {Q : L2.St → Hp → Prop} {D : Addr} {kvs : List (Key × V)} {od : Obj} (hd : H D = some (.dK kvs)) (nd : D ∉ φ) (f : FN K χ H φ Q' Q) : FN K χ (upd H D (.frz od (.dK kvs))) φ Q' (fun σ' H' => H' D = some (.frz od (.dK kvs)) ∧ Q σ' (upd H' D (.dK kvs))) := fun σ' H' φ' ρ' M' A r m q => by
  have O := out_of hd nd A
  exact ⟨O.at_, f σ' _ φ' ρ' M' O.adv (r.same O.same) (m.same O.same O.nin) q⟩
theorem FE.lock {Q' : TK} {Q : VK} {D : Addr} {kvs : List (Key × V)} {od : Obj} (hd : H D = some (.dK kvs)) (nd : D ∉ φ) (f : FE K χ H φ Q' Q) : FE K χ (upd H D (.frz od (.dK kvs))) φ Q' (fun v H' => H' D = some (.frz od (.dK kvs)) ∧ Q v (upd H' D (.dK kvs))) := fun v d H' φ' M' A m r q => by
  have O := out_of hd nd A
  exact ⟨O.at_, f v d _ φ' M' O.adv (m.same O.same O.nin) (r.same O.same) q⟩
def mForK (pth : Sl → Mem → Option Da) (it : List (Key × Da) → List Da) (g : MG) (tb : MS) : MS := fun D ρ M => match pth ρ M with
  | some (.dct kds) => (∀ p ∈ kds, keyOk p.1) ∧ forL (fun _ => True) g tb D M.length (it kds) ρ M
  | _ => False
theorem forD {iter : TE → TI} {Jt : Addr → Obj → List (Key × V) → It} {it : List (Key × Da) → List Da}
    (hi : ∀ {te : TE} {σ : L2.St} {H : Hp} {D : Addr} {o : Obj} {kvs : List (Key × V)} {R : It → Hp → Prop}, H D = some (.frz o (.dK kvs)) → (∀ Q : VK, Q (.ref D) H → te σ H Q) → R (Jt D o kvs) H → iter te σ H R)
    (hT : ∀ {χ φ : List Addr} {H : Hp} {D : Addr} {o : Obj} {kvs : List (Key × V)} {kds : List (Key × Da)}, H D = some (.frz o (.dK kvs)) → D ∉ φ → D ∉ χ → RpK K H φ χ kvs kds → (∀ p ∈ kds, keyOk p.1) → Turns K χ (Jt D o kvs) ⟨it kds, fun _ => True⟩ H φ)
    {te : TE} {pth : Sl → Mem → Option Da} (p : Pt K te pth) (g : SG K tg mg) (s : SS K ts mt) : SS K (fun W => tLockW (fun W2 => tFor (iter te) (tg W2) (ts W2)) W) (fun W => mForK pth it (mg W) (mt W)) := ⟨fun {χ W W' σ H φ ρ M D D'} r m w n t b c h => by
  unfold mForK at h
  split at h
  · rename_i kds e
    obtain ⟨v, rv, e1, e2⟩ := p.run r m e
    obtain ⟨a, o, kvs, rfl, ha, hc, na, nx, rk⟩ := rv.dctOf
    obtain ⟨ok, h⟩ := h
    cases o with
    | dK ks =>
      cases hc
      refine .inl ⟨a, .dK kvs, ha, by trivial, fun od => ?_⟩
      have S := into (od := od) ha
      refine hi (D := a) (o := od) (kvs := kvs) upd_same (fun Q q => e2 a kvs _ ha Q q) ?_
      exact for_run (D' := D') (D := lkD D a od (.dK kvs)) g s (r.same S) (m.same S na) (w.lock ha na) (n.lock ha na) (t.lock ha na) (hT upd_same na nx (rk.same S) ok) trivial h
    | frz ob u =>
      cases u with
      | dK ks =>
        cases hc
        refine .inr (hi ha e1 ?_)
        exact for_run (D' := D') (D := D) g s r m w n t (hT ha na nx rk ok) trivial h
      | _ => cases hc
    | _ => cases hc
  · exact h.elim⟩
theorem S_forK {te : TE} {pth : Sl → Mem → Option Da} (p : Pt K te pth) (g : SG K tg mg) (s : SS K ts mt) : SS K (fun W => tLockW (fun W2 => tFor (iKeys te) (tg W2) (ts W2)) W) (fun W => mForK pth keysD (mg W) (mt W)) :=
  forD (iter := iKeys) (Jt := Itk) (fun hd he hR => he _ ⟨_, _, rfl, .inl ⟨_, hd, hR⟩⟩) turns_keys p g s
theorem S_forK0 {te : TE} {pth : Sl → Mem → Option Da} {g : TG} {mg : MG} {ts : TS} {mt : MS} (p : Pt K te pth) (g' : SG K (fun _ => g) (fun _ => mg)) (s : SS K (fun _ => ts) (fun _ => mt)) : SS K (fun _ => tLockW (fun _ => tFor (iKeys te) g ts) (fun _ _ _ _ => False)) (fun _ => mForK pth keysD mg mt) :=
  ⟨fun r m w n t b c h => (S_forK p g' s).run (W := fun _ _ _ _ => False) (W' := WD0) r m FW0 n t b c h⟩
def hTL (n : Nat) (gs : MGs) : MG := fun d ρ M Q => match look M d with
  | .tup ds => ds.length = n ∧ gs ds ρ M Q
  | .lst ds => ds.length = n ∧ gs ds ρ M Q
  | _ => False
theorem G_tl {n : Nat} {gs : WX → TGs} {mgs : WD → MGs} (s : SGs K gs mgs) : SG K (fun W => gTL K n (gs W)) (fun W => hTL n (mgs W)) := ⟨fun r m w rv f h => by
  unfold hTL at h
  split at h
  · rename_i ds e
    obtain ⟨a, vs, rfl, hs, rl⟩ := vT m rv e
    exact .inl ⟨a, vs, rfl, hs, by rw [rl.len]; exact h.1, s.run r m w rl f h.2⟩
  · rename_i ds e
    obtain ⟨a, vs, rfl, hs, rl⟩ := vL m rv e
    exact .inr ⟨a, vs, rfl, hs, by rw [rl.len]; exact h.1, s.run r m w rl f h.2⟩
  · exact h.elim⟩
end
end Z
namespace Z
open PySem PySem.Spec PyProof.Rows L2 Evl
section
variable {X : Cx} {pins : List (Addr × Obj)} {σ : L2.St} {H : Hp} {s : Shared}
theorem keys_at : ∀ {us : List Value} {ks : List Key}, us.length = ks.length → (∀ (j : Nat) (v : Value), us[j]? = some v → ∃ k, ks[j]? = some k ∧ RelV (kV k) v) → Vals (ks.map kV) us
  | [], [], _, _ => .nil
  | u :: us, k :: ks, hl, h => by
    obtain ⟨x, e1, e2⟩ := h 0 u rfl
    cases e1
    exact .cons e2 (keys_at (by simpa using hl) fun j v e => h (j + 1) v (by simpa using e))
  | [], _ :: _, hl, _ => by simp at hl
  | _ :: _, [], hl, _ => by simp at hl
theorem star_dct {a : Addr} {kvs : List (Key × V)} {E : Value → Shared → Prop} {Q : List Value → Shared → Prop} (hc : X.calm = true) (I : Inv X pins σ H s) (hd : Rd H a (.dK kvs)) (h16 : kvs.length ≤ sizeLine) (hQ : ∀ us s', Inv X pins σ H s' → Vals (kvs.map fun p => kV p.1) us → Q us s') : PySem.W.StarOf (model X.prog X.w) X.A E (.ref a) Q s := by
  obtain ⟨z, lo, vs, rel, dd⟩ := dk_rd I.hok hd
  obtain ⟨ep, hat⟩ := dd.dictAt
  have hl : vs.length = kvs.length := by
    have e := congrArg List.length rel.keys
    rw [List.length_map, List.length_map] at e
    exact e.symm
  have z : wpAny (model X.prog X.w) X.A (collect (.ref a)) Q E s := by
    refine PySem.W.kdu_collect (A := X.A) (PySem.W.kdl_dict (knd := mixKind X.prog X.w) (kvs := vs) (ep := ep) lo) (I.ok.hd hc) hat (by rw [hl]; exact h16) fun h' tk acc hk hacc => ?_
    refine hQ _ _ (I.kept hk) ?_
    have e0 : kvs.map (fun p => kV p.1) = (vs.map (·.1)).map kV := by rw [← rel.keys, List.map_map]; rfl
    rw [e0]
    refine keys_at (by rw [Array.length_toList, hacc.1, List.length_map]) fun j v e => ?_
    obtain ⟨k, x, e1, e2⟩ := hacc.2 j v (by rw [← Array.getElem?_toList]; exact e)
    refine ⟨k, by rw [List.getElem?_map, e1]; rfl, ?_⟩
    rcases keyIs_shape e2 with ⟨i, t, rfl, rfl⟩ | ⟨x, t, rfl, rfl⟩
    · exact ⟨t, rfl⟩
    · exact ⟨t, rfl⟩
  obtain ⟨o, es, ho, hx, _⟩ := hat
  have hT : s.TypeIs (.ref a) "dict" := ⟨o, ho, hx.1⟩
  unfold PySem.W.StarOf notIterableAtAll
  exact wpAny_bind (wpAny_specialOf hT PySem.F.slot_dict_iter.lookup (wpAny_pure ⟨rfl, z⟩))
end
/-- *e among items: a list, a tuple, a dict (its keys) -/
def tStarA (K : PySem.W.Frag) (te : TE) (t : TA) : TA := fun σ H Q => te σ H fun x H1 => (∃ p xs, x = V.ref p ∧ (SqT K H1 p xs ∨ SqL K H1 p xs) ∧ t σ H1 fun ys H2 => Q (xs ++ ys) H2) ∨
  ∃ p kvs, x = V.ref p ∧ Rd H1 p (.dK kvs) ∧ kvs.length ≤ sizeLine ∧ t σ H1 fun ys H2 => Q (kvs.map (fun p => kV p.1) ++ ys) H2
section
variable {X : Cx} {CX : CXT} {k : Nat} {C f : Str} {ps : List Str} {sp : Sp} {e : Expr} {es : List Expr} {te ta : TE} {t : TA} {p pos : Pos}
theorem pa_starA (hc : X.calm = true) (he : PE X e te) (hr : PA X es t) (hs : starEach (.Starred e p :: es) X.env = (true, eval e X.env) :: starEach es X.env := by rfl) : PA X (.Starred e p :: es) (tStarA X.K te t) := by
  refine ⟨fun pos pins s σ H Q I h => ?_⟩
  refine PySem.W.items_star (thn (he.run pins s σ H _ I h) fun v s1 ⟨y, H1, I1, ry, q⟩ => ?_) hs
  rcases q with ⟨a, xs, ey, hx, q⟩ | ⟨a, kvs, ey, hx, hl, q⟩
  · subst ey
    obtain rfl : v = Value.ref a := ry
    refine StX.star_any I1 hx fun us s2 I2 rv => ?_
    exact thn (hr.run pos pins s2 σ H1 _ I2 q) fun ws s3 ⟨vs, H3, I3, r3, q3⟩ => ⟨xs ++ vs, H3, I3, rv.append r3, q3⟩
  · subst ey
    obtain rfl : v = Value.ref a := ry
    refine star_dct hc I1 hx hl fun us s2 I2 rv => ?_
    exact thn (hr.run pos pins s2 σ H1 _ I2 q) fun ws s3 ⟨vs, H3, I3, r3, q3⟩ => ⟨kvs.map (fun p => kV p.1) ++ vs, H3, I3, rv.append r3, q3⟩
end
def rSortDI : List V → Hp → VK → Prop := fun xs H Q => ∃ (a : Addr) (kvs : List (Key × V)) (ks : List Int), xs = [.ref a] ∧ Rd H a (.dK kvs) ∧ kvs.map (·.1) = ks.map Sum.inl ∧ ks.length < 64 ∧
    ∀ (ys : List Int) (p : Addr), ys.Perm ks → ys.Pairwise (· ≤ ·) → H p = none → Q (.ref p) (upd H p (.lst (ys.map V.int)))
def rSortB (K : PySem.W.Frag) : List V → Hp → VK → Prop := fun xs H Q => rSortA K xs H Q ∨ (rSortedI K xs H Q ∨ rSortDI xs H Q)
theorem call_sortB {X : Cx} (hc : X.calm = true) : CallR X (.builtin "sorted") (rSortB X.K) := CallR.or (call_sortA hc) (CallR.or cr_sortedI (call_sortedDI hc))
end Z
namespace Z
open PySem PySem.Spec PyProof.Rows L2 Evl
section
variable {K : PySem.W.Frag} {χ φ : List Addr} {H : Hp} {M : Mem} {v : V} {d : Da}
theorem RpK.keysR {kvs : List (Key × V)} {kds : List (Key × Da)} (r : RpK K H φ χ kvs kds) (ok : ∀ p ∈ kds, keyOk p.1) : RpL K H φ χ (kvs.map fun p => kV p.1) (keysD kds) := by
  induction kds generalizing kvs with
  | nil => cases r; exact .nil
  | cons p l ih =>
    cases r with
    | cons h r => exact .cons (keyV_rp (ok _ (List.mem_cons_self ..))) (ih r fun q hq => ok q (List.mem_cons_of_mem _ hq))
def mStarA (ma : ME) (ms : MA) : MA := fun ρ M Q => ma ρ M fun x M1 => match look M1 x with
  | .lst ds => ms ρ M1 fun xs M2 => Q (ds ++ xs) M2
  | .tup ds => ms ρ M1 fun xs M2 => Q (ds ++ xs) M2
  | .dct kds => (∀ p ∈ kds, keyOk p.1) ∧ kds.length ≤ 1000000 ∧ ms ρ M1 fun xs M2 => Q (keysD kds ++ xs) M2
  | _ => False
theorem E_starA {te : WX → TE} {me : WD → ME} {ms : WD → MA} {as : WX → TA} (a : SE K te me) (s : SA K as ms) : SA K (fun W => tStarA K (te W) (as W)) (fun W => mStarA (me W) (ms W)) := ⟨fun r m w f h =>
  a.run r m w (fun v d H1 φ1 M1 A1 m1 r1 h1 => by
    split at h1
    · rename_i ds e
      obtain ⟨p, vs, rfl, hs, rl⟩ := vL m1 r1 e
      exact .inl ⟨p, vs, rfl, .inr hs, s.run (r.adv A1) m1 (w.adv A1) (fun ws es H2 φ2 M2 A2 m2 r2 h2 => f _ _ _ _ _ (A1.trans A2) m2 ((rl.adv A2).app r2) h2) h1⟩
    · rename_i ds e
      obtain ⟨p, vs, rfl, hs, rl⟩ := vT m1 r1 e
      exact .inl ⟨p, vs, rfl, .inl hs, s.run (r.adv A1) m1 (w.adv A1) (fun ws es H2 φ2 M2 A2 m2 r2 h2 => f _ _ _ _ _ (A1.trans A2) m2 ((rl.adv A2).app r2) h2) h1⟩
    · rename_i kds e
      obtain ⟨p, kvs, rfl, hs, rk⟩ := vD m1 r1 e
      obtain ⟨ok, hl, h1⟩ := h1
      have rl := rk.keysR ok
      exact .inr ⟨p, kvs, rfl, hs, by rw [rk.len, sizeLine_eq]; omega, s.run (r.adv A1) m1 (w.adv A1) (fun ws es H2 φ2 M2 A2 m2 r2 h2 => f _ _ _ _ _ (A1.trans A2) m2 ((rl.adv A2).app r2) h2) h1⟩
    · exact h1.elim) h⟩
def keysI : List (Key × Da) → Option (List Int)
  | [] => some []
  | (.inl z, _) :: r => (keysI r).map (z :: ·)
  | _ => none
theorem keysI_of : ∀ {kvs : List (Key × V)} {kds : List (Key × Da)} {zs : List Int}, RpK K H φ χ kvs kds → keysI kds = some zs → kvs.map (·.1) = zs.map Sum.inl
  | _, _, _, .nil, e => by cases e; rfl
  | _, _, zs, .cons (k := k) (ds := ds) h r, e => by
    cases k with
    | inr i => cases e
    | inl z =>
      have e : (keysI ds).map (z :: ·) = some zs := e
      obtain ⟨ys, e1, rfl⟩ := Option.map_eq_some_iff.1 e
      rw [List.map_cons, List.map_cons, keysI_of r e1]
theorem ints_rp (ns : List Int) : RpL K H φ χ (ns.map V.int) (ns.map Da.int) := by
  induction ns with
  | nil => exact .nil
  | cons n ns ih => exact .cons (.int n) ih
def nSortB : List Da → Mem → TK → Prop := fun ds M Q => match ds with
  | [x] => match look M x with
    | .lst es => match strsD es with
      | some zs => zs.length < 64 ∧ ∀ ys, ys.Perm zs → sortedS ys = true → Q (.lst (ys.map Da.str)) M
      | none => match intsD es with
        | some ns => ∀ ys : List Int, ys.Perm ns → ys.Pairwise (· ≤ ·) → Q (.lst (ys.map Da.int)) M
        | none => False
    | .dct kds => match keysS kds with
      | some zs => zs.length < 64 ∧ (∀ z ∈ zs, z.length ≤ sizeLine) ∧ ∀ ys, ys.Perm zs → sortedS ys = true → Q (.lst (ys.map Da.str)) M
      | none => match keysI kds with
        | some ns => ns.length < 64 ∧ ∀ ys : List Int, ys.Perm ns → ys.Pairwise (· ≤ ·) → Q (.lst (ys.map Da.int)) M
        | none => False
    | _ => False
  | _ => False
theorem C_sortB : SC K (rSortB K) nSortB := by
  intro χ H φ M x dx Q Q' m hx f h
  unfold nSortB at h
  split at h
  · rename_i y
    have old : nSort [y] M Q' → rSortB K x H Q := fun h => .inl (C_sort m hx f h)
    split at h
    · rename_i es e
      split at h
      · rename_i zs e2
        refine old ?_
        unfold nSort
        simp only [e, e2]
        exact h
      · split at h
        · rename_i ns e2
          obtain ⟨v, rfl, h1⟩ := hx.one
          obtain ⟨a, vs, rfl, hs, r⟩ := vL m h1 e
          rw [intsD_of r e2] at hs
          exact .inr (.inl ⟨a, ns, rfl, hs, fun ys p pm so hp => f.lst m (ints_rp ys) hp (h ys pm so)⟩)
        · exact h.elim
    · rename_i kds e
      split at h
      · rename_i zs e2
        refine old ?_
        unfold nSort
        simp only [e, e2]
        exact h
      · split at h
        · rename_i ns e2
          obtain ⟨v, rfl, h1⟩ := hx.one
          obtain ⟨a, kvs, rfl, hr, r⟩ := vD m h1 e
          exact .inr (.inr ⟨a, kvs, ns, rfl, hr, keysI_of r e2, h.1, fun ys p pm so hp => f.lst m (ints_rp ys) hp (h.2 ys pm so)⟩)
        · exact h.elim
    · exact h.elim
  · exact h.elim
end
end Z
namespace Z
open PySem PySem.Spec PyProof.Rows L2 Evl
section
variable {K : PySem.W.Frag} {χ φ : List Addr} {H : Hp} {M : Mem}
abbrev FNw (K : PySem.W.Frag) (χ : List Addr) (H : Hp) (φ : List Addr) (Q' : TK) (Q : VK) : Prop := ∀ p d H' φ' M', Adv H φ H' φ' → H p = none → p ∉ φ' → p ∉ χ → Mm K H' φ' (p :: χ) M' → CellAt K H' φ' (p :: χ) p d → Q' d M' → Q (.ref p) H'
theorem FNw.lock {Q' : TK} {Q : VK} {D : Addr} {kvs : List (Key × V)} {od : Obj} (hd : H D = some (.dK kvs)) (nd : D ∉ φ) (f : FNw K χ H φ Q' Q) : FNw K χ (upd H D (.frz od (.dK kvs))) φ Q' (fun v H' => H' D = some (.frz od (.dK kvs)) ∧ Q v (upd H' D (.dK kvs))) := fun p d H' φ' M' A hp n1 n2 m c q => by
  have O := out_of hd nd A
  have pD : p ≠ D := fun e => by rw [e, upd_same] at hp; cases hp
  rw [upd_ne pD] at hp
  refine ⟨O.at_, f p d _ φ' M' O.adv hp n1 n2 (m.same O.same O.nin) ?_ q⟩
  cases d with
  | lst ds => obtain ⟨vs, e, r⟩ := c; exact ⟨vs, by rw [upd_ne pD]; exact e, r.same O.same⟩
  | dct ds => obtain ⟨vs, e, r⟩ := c; exact ⟨vs, by rw [upd_ne pD]; exact e, r.same O.same⟩
  | obj c ds => obtain ⟨dx, vs, e, r⟩ := c; exact ⟨dx, vs, by rw [upd_ne pD]; exact e, r.same O.same⟩
  | gl x => show upd H' D _ p ≠ none; rw [upd_ne pD]; exact c
  | _ => exact c.elim
end
end Z
namespace PySem
open Sem (wp)
end PySem
namespace Z
open PySem PySem.Spec PyProof.Rows L2 Evl
end Z
namespace Z
open PySem PySem.Spec PyProof.Rows L2 Evl
end Z
namespace Z
open PySem PySem.Spec PyProof.Rows L2 Evl
def mCont : MS := fun D ρ M => D.ct ρ M
theorem S_cont {K : PySem.W.Frag} : SS K (fun _ => tCont) (fun _ => mCont) := ⟨fun {_ _ _ _ _ _ _ _ _ _} r m w n t b c h => c _ _ _ _ _ Adv.refl r m h⟩
end Z
namespace Z
open PySem PySem.Spec PyProof.Rows L2 Evl
section
variable {K : PySem.W.Frag} {χ : List Addr} {φ : List Addr} {H H' : Hp} {M : Mem}
/-- all that stood stands -/
theorem Adv.all (A : Adv H [] H' []) : Adv H φ H' φ := ⟨fun a o h _ => A.keep a o h (by simp), ⟨[], by simp, fun _ h => by cases h⟩, A.dom⟩
variable {as : WX → TA} {ms : WD → MA}
/-- dict(pairs) that is changed later -/
theorem N_dictP {as : WX → TA} {ms : WD → MA} (s : SA K as ms) : SN K (fun W => tCB (rDictP K) (as W)) (fun W => mCB nDictP (ms W)) := ⟨fun r m w sh f h =>
  s.run r m w (fun vs ds H1 φ1 M1 A1 m1 r1 h1 => by
    unfold nDictP at h1
    split at h1
    · obtain ⟨v, rfl, h2⟩ := r1.one
      split at h1
      · rename_i es e
        split at h1
        · rename_i ks e2
          obtain ⟨a, vs, rfl, hs, r⟩ := vL m1 h2 e
          obtain ⟨ps, kvs, rfl, pp, rk⟩ := pairsD_of m1 r e2
          exact ⟨a, ps, kvs, rfl, hs, pp, fun p hp => SN.dct f A1 m1 hp (mergeD_run rk .nil) h1⟩
        · exact h1.elim
      · exact h1.elim
    · exact h1.elim) h⟩
variable {ta tb : WX → TE} {ma mb : WD → ME}
end
end Z
namespace Z
open PySem PySem.Spec PyProof.Rows L2 Evl
section
variable {K : PySem.W.Frag} {χ φ : List Addr} {H : Hp} {M : Mem} {ta tb : WX → TE} {ma mb : WD → ME}
theorem rg_rp (a b : Int) : RpL K H φ χ (rgV a b) (rngD a (b - a).toNat) := by
  unfold rgV rngD
  generalize (b - a).toNat = n
  have : ∀ l : List Nat, RpL K H φ χ (l.map fun i : Nat => V.int (a + (i : Nat))) (l.map fun (k : Nat) => Da.int (a + (k : Int))) := by
    intro l
    induction l with
    | nil => exact .nil
    | cons x l ih => exact .cons (.int _) ih
  exact this _
theorem rg_rp0 (b : Int) : RpL K H φ χ (rgV 0 b) (rngD 0 b.toNat) := by
  have := rg_rp (K := K) (χ := χ) (φ := φ) (H := H) 0 b
  rwa [Int.sub_zero] at this
def mLstRg2 (ma mb : ME) : ME := fun ρ M Q => ma ρ M fun x M1 => mb ρ M1 fun y M2 => ∃ i j : Int, x = .int i ∧ y = .int j ∧ RgOk i j ∧ Q (.lst (rngD i (j - i).toNat)) M2
def mLstRg1 (ma : ME) : ME := fun ρ M Q => ma ρ M fun x M1 => ∃ j : Int, x = .int j ∧ RgOk 0 j ∧ Q (.lst (rngD 0 j.toNat)) M1
theorem E_lstRg1 (a : SE K ta ma) : SE K (fun W => tLstRg (tRg1 (ta W))) (fun W => mLstRg1 (ma W)) := ⟨fun r m w f h =>
  a.run r m w (fun v d H1 φ1 M1 A1 m1 r1 ⟨j, e, ok, q⟩ => by
    subst e
    refine ⟨j, vInt r1, ok, fun p hp => ?_⟩
    exact (f.adv A1).lst m1 (rg_rp0 j) hp q) h⟩
theorem E_lstRg2 (a : SE K ta ma) (b : SE K tb mb) : SE K (fun W => tLstRg (tRg2 (ta W) (tb W))) (fun W => mLstRg2 (ma W) (mb W)) := ⟨fun r m w f h =>
  a.run r m w (fun v d H1 φ1 M1 A1 m1 r1 h1 => b.run (r.adv A1) m1 (w.adv A1) (fun u c H2 φ2 M2 A2 m2 r2 ⟨i, j, e1, e2, ok, q⟩ => by
    subst e1 e2
    refine ⟨i, j, vInt (r1.adv A2), vInt r2, ok, fun p hp => ?_⟩
    exact (f.adv (A1.trans A2)).lst m2 (rg_rp i j) hp q) h1) h⟩
theorem N_lstRg1 (a : SE K ta ma) : SN K (fun W => tLstRg (tRg1 (ta W))) (fun W => mLstRg1 (ma W)) := ⟨fun r m w sh f h =>
  a.run r m w (fun v d H1 φ1 M1 A1 m1 r1 ⟨j, e, ok, q⟩ => by
    subst e
    refine ⟨j, vInt r1, ok, fun p hp => ?_⟩
    exact SN.lst f A1 m1 hp (rg_rp0 j) q) h⟩
end
end Z
namespace Z
open PySem PySem.Spec PyProof.Rows L2 Evl
structure FnG (P : Program) (w : World) (K : PySem.W.Frag) (mg : Str → Option Value) (base : Heap) (CX : CXT) (k : Nat) (f : Addr) (fd : FuncData) (ps : List Str) (sp : Sp) : Prop where
  len : ∀ vs H Q E, sp vs H Q E → vs.length = ps.length
  run : ∀ (A : Around) (o : List Env) (s : Shared) (H : Hp) (z : Args) (us : List Value) (vs : List V) (Q : VK) (E : XK), A.guards = some [] → Room k A → Env0 P w K mg base A o s H → BindsTo s fd z (ps.zip us) → Vals vs us → sp vs H Q E →
    codeAny (model P w) A (.call (.ref f) z) (CR CX o P w H s Q E) s
theorem FnOk.g {P : Program} {w : World} {K : PySem.W.Frag} {mg : Str → Option Value} {base : Heap} {CX : CXT} {k : Nat} {f : Addr} {fd : FuncData} {ps : List Str} {sp : Sp} (F : FnOk P w K mg base CX k f fd ps sp) : FnG P w K mg base CX k f fd ps sp :=
  ⟨F.len, fun A o s H z us vs Q E _ => F.run A o s H z us vs Q E⟩
structure FokG (P : Program) (w : World) (K : PySem.W.Frag) (mg : Str → Option Value) (base : Heap) (CX : CXT) (k : Nat) (x : Str) (ps : List Str) (sp : Sp) : Prop where
  ex : ∃ fd, FnG P w K mg base CX k (He.ga K x) fd ps sp ∧ Binds K fd ps []
  hm : mg x = some (.ref (He.ga K x))
  kp : PySem.W.keepIn K (.ref (He.ga K x)) = true
theorem FnG.imp {P : Program} {w : World} {K : PySem.W.Frag} {mg : Str → Option Value} {base : Heap} {CX : CXT} {k : Nat} {f : Addr} {fd : FuncData} {ps : List Str} {sp sp' : Sp} (F : FnG P w K mg base CX k f fd ps sp)
    (h : ∀ vs H Q E, sp' vs H Q E → sp vs H Q E) : FnG P w K mg base CX k f fd ps sp' :=
  ⟨fun vs H Q E q => F.len vs H Q E (h _ _ _ _ q), fun A o s H z us vs Q E g r e b v q => F.run A o s H z us vs Q E g r e b v (h _ _ _ _ q)⟩
section
variable {X : Cx} {CX : CXT} {k : Nat} {x : Str} {ps : List Str} {sp : Sp} {e : Expr} {es : List Expr} {t : TA} {p pos : Pos}
theorem run_fnG {pins : List (Addr × Obj)} {σ : L2.St} {H : Hp} {s : Shared} {Q : VK} {E : XK} {f : Addr} {fd : FuncData} {us : List Value} {vs : List V} (F : FnG X.prog X.w X.K X.mg X.base CX k f fd ps sp) (gd : X.A.guards = some []) (hr : Room k X.A) (hb : Binds X.K fd ps [])
    (hx : Passes CX X E) (I : Inv X pins σ H s) (r : Vals vs us) (h : sp vs H Q E) : wpAny (model X.prog X.w) X.A (call (.ref f) us) (EP X pins σ Q) X.xe s := by
  have ln : (us ++ []).length = ps.length := by rw [List.append_nil, ← r.length]; exact F.len _ _ _ _ h
  have b := hb s us I.kIn ln
  rw [List.append_nil] at b
  refine wpAny_call (codeAny_mono (F.run X.A X.stack s H ⟨us, []⟩ us vs Q E gd hr I.env0 b r h) fun r s' hq => ?_)
  rcases r with e | fl
  · exact hx pins σ H s e s' I hq
  · cases fl with
    | ret u => exact I.after hq
    | next => exact hq.elim
    | brk => exact hq.elim
    | cont => exact hq.elim
theorem pe_callFG {E : XK} (F : FokG X.prog X.w X.K X.mg X.base CX k x ps sp) (gd : X.A.guards = some []) (hr : Room k X.A) (hg : Gl X x) (hx : Passes CX X E)
    (ha : PA X (e :: es) t) (hdb : (x == ("__debug__" : Str)) = false := by decide) (he : starEach (e :: es) X.env = (false, eval e X.env) :: starEach es X.env := by rfl) (hpl : (backTo pos (starEach es X.env)).any (·.1) = false := by rfl) :
    PE X (.Call (.Name x p) (e :: es) [] pos) (tCall sp [] E t) := by
  obtain ⟨fd, F1, hb⟩ := F.ex
  refine ⟨fun pins s σ H Q I h => wpAny_Call_Name_kw (ld_glob I hg F.hm ?_ hdb)⟩
  refine PySem.W.callWith_K (h₀ := X.base) I.ok.mod.kin F.kp (thn (ha.run pos pins s σ H _ I h) fun us s1 ⟨vs, H1, I1, r, q⟩ => ⟨I1.kIn, ?_⟩) he hpl
  have q : sp (vs ++ []) H1 Q E := q
  rw [List.append_nil] at q
  exact run_fnG F1 gd hr hb hx I1 r q
end
/-- a def by its body, where it is called with no repr under way -/
theorem fnG_of {CX : CXT} {P : Program} {w : World} {K : PySem.W.Frag} {mg : Str → Option Value} {base : Heap} {k : Nat} {f : Addr} {name qual : Str} {params : Arguments} {body : List Stmt} {scope : Scope} {dV kV doc pm cdv ct oc : Value} {an od : Option Addr}
    {osl : Array (Option Value)} {N ps : List Str} {sp : Sp} (lk : K.lookup f = some ⟨oc, od, .func (PySem.W.fnOf name qual params body scope dV kV doc pm an cdv ct), osl⟩) (hcd : PySem.W.codeIn K cdv qual = true) (S : FnScope N ps scope) (len : ∀ vs H Q E, sp vs H Q E → vs.length = ps.length)
    (hbody : ∀ (A : Around) (outer : List Env) (s : Shared) (H : Hp) (vs : List V) (Q : VK) (E : XK), A.guards = some [] → Room k (A.deeper (envOfC qual scope s.heap.objs.size f cdv)) → sp vs H Q E →
      ∃ t, PSs (cxOf CX P w K mg base N qual scope f cdv A outer s H E) body t ∧ t { nx := fun _ H' => Q .non H', rt := Q } (start N vs) H) :
    FnG P w K mg base CX (k + 1) f (PySem.W.fnOf name qual params body scope dV kV doc pm an cdv ct) ps sp := by
  refine ⟨len, fun A o s H z us vs Q E gd hr e0 hb r hsp => ?_⟩
  have ln := len _ _ _ _ hsp
  have KX : K.In s.heap := e0.mod.kin.keeps fun b u e => (e0.bs b u e).1
  have nl : s.heap.NoLimit := e0.mod.nolimit.keeps fun b u e => (e0.bs b u e).1
  have kinds : ∀ y ∈ ps.zip us, scope.names.lookup y.1 = some .local ∨ (scope.names.lookup y.1 = some .cell ∧ ((cellsFrom (s.heap.objs.size + 1) scope.names []).lookup y.1).isSome = true) := by
    rintro ⟨n, v⟩ hy
    exact (S.par n (List.of_mem_zip hy).1).imp id fun q => ⟨q, PySem.W.cellsFrom_some _ _ _ (.inl q)⟩
  refine codeAny_call_function hr.depth (KX _ _ lk) rfl S.co S.gen rfl (PySem.W.codeRec_of KX hcd) (hb _ _ _ _ (wpAny_newFunctionEnv_cells S.kind kinds fun env he s1 x => ?_))
  subst he
  obtain ⟨t, ht, hq⟩ := hbody A o s H vs Q E gd (hr.deeper _) hsp
  refine ⟨nl.keeps x.toInCall.keep, codeAny_func (wpAny_mono (ht.run [] s1 (start N vs) H _ (inv_start S hr.hd e0 ln r x) hq) (fun fl s' hs => ?_) fun e s' hs => hs)⟩
  have fin : ∀ {σ' : L2.St} {H' : Hp} {v : V} {u : Value}, Inv (cxOf CX P w K mg base N qual scope f cdv A o s H E) [] σ' H' s' → RelV v u → Q v H' → CE o P w H s Q u s' := fun {σ' H' v u} J rv q => ⟨v, H', J.os, J.bare, J.base, J.hok, rv, q⟩
  cases fl with
  | ret u => obtain ⟨v, σ', H', J, rv, q⟩ := hs; exact fin J rv q
  | next => obtain ⟨σ', H', J, q⟩ := hs; exact fin (v := V.non) (u := Value.none) J rfl q
  | brk => obtain ⟨_, _, _, q⟩ := hs; exact q.elim
  | cont => obtain ⟨_, _, _, q⟩ := hs; exact q.elim
theorem okG_of {P : Program} {w : World} {K : PySem.W.Frag} {mg : Str → Option Value} {base : Heap} {x qual : Str} {params : Arguments} {body : List Stmt} {scope : Scope} {dvs : List V} {kws : List (Str × V)} {f : Addr} {fd : FuncData} {CX : CXT} {N ps : List Str} {k : Nat} {sp : Sp}
    (F : FunD K x qual params body scope dvs kws f fd) (S : FnScope N ps scope) (len : ∀ vs H Q E, sp vs H Q E → vs.length = ps.length)
    (hbody : ∀ (cdv : Value) (A : Around) (outer : List Env) (s : Shared) (H : Hp) (vs : List V) (Q : VK) (E : XK), A.guards = some [] → Room k (A.deeper (envOfC qual scope s.heap.objs.size f cdv)) → sp vs H Q E →
      ∃ t, PSs (cxOf CX P w K mg base N qual scope f cdv A outer s H E) body t ∧ t { nx := fun _ H' => Q .non H', rt := Q } (start N vs) H) : FnG P w K mg base CX (k + 1) f fd ps sp := by
  obtain ⟨oc, od, dV, kV, doc, pm, an, cdv, ct, osl, rfl, lk, hcd, _, _⟩ := F.ex
  exact fnG_of lk hcd S len (hbody cdv)
/-- the law's call, the law a def of this kind -/
theorem lawG {P : Program} {w : World} {K : PySem.W.Frag} {mg mb : Str → Option Value} {CX : CXT} {k : Nat} {fa a : Addr} {fd : FuncData} {x : Str} {sp : Sp} {s1 : Shared} {vs : List Value} {ns : List Int}
    (KX : K.In s1.heap) (hns : s1.heap.Ns mainGlobals mg) (hb : s1.heap.Ns builtinsNs mb) (hbb : ∀ x : Str, x ≠ "__name__" → mb x = bootBuiltins x) (lim : s1.heap.NoLimit) (hg : s1.gens = #[])
    (ha : s1.heap.get? a = some { cls := .type "list", data := .seq vs.toArray }) (hi : IntsAre vs ns) (hl : ns.length ≤ sizeLine) (hr : Room k callerA)
    (F : ∀ base : Heap, K.In base → base.Ns mainGlobals mg → FnG P w K mg base CX k fa fd [x] sp) (hbind : ∀ (s : Shared) (u : Value), BindsTo s fd ⟨[u], []⟩ [(x, u)])
    (hsp : ∀ H : Hp, Only H → SqL K H a (ns.map V.int) → sp [.ref a] H (fun v _ => v = .bl true) fun _ _ _ => False) (hCX : ∀ H e s', CX [] H s1 (fun _ _ _ => False) e s' → False) :
    codeAny (model P w) callerA (.call (.ref fa) ⟨[.ref a], []⟩) (fun r s' => r = .ok (.ret (.bool true)) ∧ OldK s1.heap s'.heap ∧ s'.os = s1.os ∧ AllBare s'.gens) s1 := by
  have main : ∀ H : Hp, Only H → SqL K H a (ns.map V.int) → HOk P w H s1.heap → (∀ b, H b ≠ none → b = a) → (H a ≠ none → K.lookup a = none) →
      codeAny (model P w) callerA (.call (.ref fa) ⟨[.ref a], []⟩) (fun r s' => r = .ok (.ret (.bool true)) ∧ OldK s1.heap s'.heap ∧ s'.os = s1.os ∧ AllBare s'.gens) s1 := by
    intro H hO hS hok hA hK
    have bare : ∀ {b : Addr} {o : Obj}, s1.heap.get? b = some o → H b = none → (hidT s1.heap H).get? b = some o := fun e n => hidT_get e n
    have notA : ∀ {b : Addr} {o : Obj}, s1.heap.get? b = some o → (b = a → False) → H b = none := fun {b o} _ n => Classical.byContradiction fun z => n (hA b z)
    have noD : ∀ {b : Addr} {o : Obj} {es : Array DictEntry} {ep : Nat}, s1.heap.get? b = some o → o.data = .dict es ep → H b = none := fun {b o es ep} e d => notA e fun q => by
      rw [q, ha] at e
      cases e
      exact nomatch (show Data.seq vs.toArray _ = Data.dict es ep from d)
    have nsK : ∀ {b : Addr} {m : Str → Option Value}, s1.heap.Ns b m → (hidT s1.heap H).Ns b m := fun {b m} ⟨o, es, ep, e, d, r⟩ => ⟨o, es, ep, bare e (noD e d), d, r⟩
    have kin : K.In (hidT s1.heap H) := fun b o e => bare (KX b o e) (Classical.byContradiction fun z => by
      have q := hA b z
      rw [q] at z e
      rw [hK z] at e
      cases e)
    obtain ⟨mc, l1, l2⟩ := lim
    have e0 : Env0 P w K mg (hidT s1.heap H) callerA [] s1 H := ⟨rfl, ⟨kin, nsK hns, ⟨mb, nsK hb, hbb⟩, mc, nsK l1, l2⟩, fun b o e => of_hidT e, Nat.le_of_eq (hidT_size _ _), trivial, fun b z => (nomatch z), hok, .of_eq hg⟩
    refine codeAny_mono ((F _ kin (nsK hns)).run callerA [] s1 H ⟨[.ref a], []⟩ [.ref a] [.ref a] _ _ rfl hr e0 (hbind s1 (.ref a)) (.cons rfl .nil) (hsp H hO hS)) fun r s' h => ?_
    rcases r with e | fl
    · exact (hCX H e s' h).elim
    · cases fl with
      | next => exact h.elim
      | brk => exact h.elim
      | cont => exact h.elim
      | ret u =>
        obtain ⟨v, H', os, br, un, hok', r', q⟩ := h
        obtain rfl : v = .bl true := q
        obtain rfl : u = Value.bool true := r'
        refine ⟨rfl, OldK.of_keep fun b o e => ?_, os, br⟩
        cases q : H b with
        | none => exact un.keep b o e q (fun z => nomatch (show b ∈ ([] : List Addr) from z)) (by simp)
        | some u =>
          rcases hO b with z | ⟨ob, xs, z⟩
          · rw [q] at z; cases z
          · have q1 := (hok b _ z).1
            have q2 := (hok' b _ (un.frzs b ob _ z)).1
            rw [e] at q1
            cases q1
            exact q2
  cases hk : K.lookup a with
  | some o =>
    have e := KX a o hk
    rw [ha] at e
    cases e
    exact main (fun _ => none) (fun _ => .inl rfl) (.inr ⟨_, vs.toArray, _, hk, rfl, rfl, rfl, by rw [List.size_toArray, hi.length]; exact hl, by simpa using vals_ints hi⟩) (fun b u z => nomatch (show (none : Option HO) = some u from z)) (fun b z => absurd rfl z) fun z => absurd rfl z
  | none =>
    let u : HO := .frz { cls := .type "list", data := .seq vs.toArray } (.lst (ns.map V.int))
    have at_ : ∀ {b : Addr}, b ≠ a → (if b = a then some u else none) = none := fun n => if_neg n
    refine main (fun b => if b = a then some u else none) (fun b => ?_) (.inl (.inr ⟨{ cls := .type "list", data := .seq vs.toArray }, if_pos rfl⟩)) (fun b o z => ?_) (fun b z => Classical.byContradiction fun n => z (at_ n)) fun _ => hk
    · by_cases n : b = a
      · exact .inr ⟨_, _, if_pos n⟩
      · exact .inl (at_ n)
    · by_cases n : b = a
      · have y := (if_pos n).symm.trans z
        cases y
        rw [n]
        exact ⟨ha, by rw [List.length_map]; exact hl, vs, _, vals_ints hi, ha⟩
      · exact nomatch (at_ n).symm.trans z
theorem walk_ofG {l : PySem.W.OpenLaw} {n k : Nat} {q : Program} {loose : List Str} {XP : (Str → Option Value) → Heap → Prop} {YP : World → Heap → Prop} {d : DefRec} {CX : CXT} {x : Str}
    (hn : l.most = some n) (hn2 : n ≤ sizeLine) (hdf : d.params.defaults = []) (hr : Room k callerA)
    (F : ∀ (w : World) (mg : Str → Option Value) (fa : Addr) (h : Heap), YP w h → h.Ns mainGlobals mg → mg d.name = some (.ref fa) →
      ∃ (K : PySem.W.Frag) (fd : FuncData) (sp : Sp), K.In h ∧ (∀ (s : Shared) (u : Value), BindsTo s fd ⟨[u], []⟩ [(x, u)]) ∧
        (∀ (H : Hp) (a : Addr) (ns : List Int), ns.length ≤ n → Only H → SqL K H a (ns.map V.int) → sp [.ref a] H (fun v _ => v = .bl true) fun _ _ _ => False) ∧ ∀ base : Heap, K.In base → base.Ns mainGlobals mg → FnG l.prog w K mg base CX k fa fd [x] sp)
    (hCX : ∀ (H : Hp) (s : Shared) (e : Value) (s' : Shared), CX [] H s (fun _ _ _ => False) e s' → False) : PySem.W.WalkO q loose XP YP l.row.toRowW d [] (fun f vs => PySem.call f vs) := by
  refine Att.attach_call hn hdf fun w s0 s1 mg mb fa o pm cd doc a vs ns G Y ho hd hcd hmg hobj hints hlen hg => ?_
  obtain ⟨K, fd, sp, KX, hb, hsp, hF⟩ := F w mg fa _ Y G.T.g hmg
  exact lawG KX G.T.g G.T.b G.T.builtins G.T.nolimit hg hobj hints (Nat.le_trans hlen hn2) hr hF hb (fun H hO hS => hsp H a ns hlen hO hS) fun H e s' => hCX H s1 e s'
end Z
namespace Z
open PySem PySem.Spec PyProof.Rows L2 Evl
theorem up_no {K : PySem.W.Frag} {vs : List V} {H : Hp} {Q : VK} {E : XK} (h : up K (fun _ _ _ _ => False) vs H Q E) : False := by
  obtain ⟨_, _, _, _, _, _, _, _, _, _, h⟩ := h
  exact h
mutual
def pyD : Da → PyData
  | .non => .none
  | .bl b => .bool b
  | .int i => .int i
  | .str s => .str s
  | .tup ds => .tuple (pyL ds)
  | .lst ds => .list (pyL ds)
  | _ => .none
def pyL : List Da → List PyData
  | [] => []
  | d :: ds => pyD d :: pyL ds
end
section
variable {X : Cx} {pins : List (Addr × Obj)} {σ : L2.St} {H : Hp} {s : Shared}
mutual
theorem reads_of (I : Inv X pins σ H s) : ∀ {d : Da} {v : V} {u : Value}, plD d = true → Rp X.K H [] [] v d → RelV v u → ∃ as, Reads s.heap u (pyD d) as
  | .non, _, _, _, h, r => by cases h; cases r; exact ⟨_, .none⟩
  | .bl _, _, _, _, h, r => by cases h; cases r; exact ⟨_, .bool _⟩
  | .int _, _, _, _, h, r => by cases h; obtain ⟨t, rfl⟩ := r; exact ⟨_, .int _ _⟩
  | .str _, _, _, _, h, r => by
    cases h with
    | str l => obtain ⟨t, rfl⟩ := r; exact ⟨_, .str _ _⟩
  | .tup ds, _, _, p, h, r => by
    unfold plD at p
    cases h with
    | tup h n m q =>
      cases r
      obtain ⟨its, rv, ⟨o, e, c, n, ed⟩, _⟩ := I.tuple (SqT.of h)
      obtain ⟨as, ra⟩ := reads_all I p q rv
      exact ⟨_, .tuple e c ed (by simpa using ra)⟩
  | .lst ds, _, _, p, h, r => by
    unfold plD at p
    cases h with
    | lst h n m q =>
      cases r
      obtain ⟨_, its, n, rv, _, e⟩ := I.lstM h
      obtain ⟨as, ra⟩ := reads_all I p q rv
      exact ⟨_, .list e rfl rfl (by simpa using ra)⟩
  | .ty _, _, _, p, _, _ => by cases p
  | .gl _, _, _, p, _, _ => by cases p
  | .dct _, _, _, p, _, _ => by cases p
  | .obj _ _, _, _, p, _, _ => by cases p
  | .kl _, _, _, p, _, _ => by cases p
  | .kt _, _, _, p, _, _ => by cases p
  | .cell _, _, _, p, _, _ => by cases p
  | .exv _ _ _ _, _, _, p, _, _ => by cases p
theorem reads_all (I : Inv X pins σ H s) : ∀ {ds : List Da} {vs : List V} {us : List Value}, plL ds = true → RpL X.K H [] [] vs ds → Vals vs us → ∃ as, ReadsAll s.heap us (pyL ds) as
  | [], _, _, _, .nil, .nil => ⟨_, .nil⟩
  | d :: ds, _, _, p, .cons h r, .cons x xs => by
    unfold plL at p
    rw [Bool.and_eq_true] at p
    obtain ⟨a, ha⟩ := reads_of I p.1 h x
    obtain ⟨b, hb⟩ := reads_all I p.2 r xs
    exact ⟨_, .cons ha hb⟩
end
end
mutual
theorem pyD_nod : ∀ d : Da, (pyD d).hasDict = false
  | .non => rfl
  | .bl _ => rfl
  | .int _ => rfl
  | .str _ => rfl
  | .tup ds => by unfold pyD PyData.hasDict; exact pyL_nod ds
  | .lst ds => by unfold pyD PyData.hasDict; exact pyL_nod ds
  | .ty _ => rfl
  | .gl _ => rfl
  | .dct _ => rfl
  | .obj _ _ => rfl
  | .kl _ => rfl
  | .kt _ => rfl
  | .cell _ => rfl
  | .exv _ _ _ _ => rfl
theorem pyL_nod : ∀ ds : List Da, PyData.hasDictAll (pyL ds) = false
  | [] => rfl
  | d :: ds => by unfold pyL PyData.hasDictAll; rw [pyD_nod d, pyL_nod ds]; rfl
end
mutual
/-- data whose text is told, and a bound of its length -/
def okR : Da → Bool
  | .non => true
  | .bl _ => true
  | .int i => decide (i.natAbs.log2 < 1920)
  | .str z => z.cps.toList.all fun c => decide (c < 16 ^ 8)
  | .tup ds => okRL ds
  | .lst ds => okRL ds
  | _ => false
def okRL : List Da → Bool
  | [] => true
  | d :: ds => okR d && okRL ds
end
mutual
def shB : Da → Nat
  | .non => 4
  | .bl _ => 5
  | .int _ => 2000
  | .str z => 10 * z.length + 2
  | .tup ds => 4 + shBL ds
  | .lst ds => 4 + shBL ds
  | _ => 0
def shBL : List Da → Nat
  | [] => 0
  | d :: ds => shB d + 2 + shBL ds
end
mutual
theorem okR_pl : ∀ {d : Da}, okR d = true → plD d = true
  | .non, _ => rfl
  | .bl _, _ => rfl
  | .int _, _ => rfl
  | .str _, _ => rfl
  | .tup ds, h => by unfold okR at h; unfold plD; exact okRL_pl h
  | .lst ds, h => by unfold okR at h; unfold plD; exact okRL_pl h
  | .ty _, h => by cases h
  | .gl _, h => by cases h
  | .dct _, h => by cases h
  | .obj _ _, h => by cases h
  | .kl _, h => by cases h
  | .kt _, h => by cases h
  | .cell _, h => by cases h
  | .exv _ _ _ _, h => by cases h
theorem okRL_pl : ∀ {ds : List Da}, okRL ds = true → plL ds = true
  | [], _ => rfl
  | d :: ds, h => by
    unfold okRL at h
    rw [Bool.and_eq_true] at h
    unfold plL
    rw [okR_pl h.1, okRL_pl h.2]
    rfl
end
mutual
theorem okR_show : ∀ {d : Da}, okR d = true → (pyD d).showable = true
  | .non, _ => rfl
  | .bl _, _ => rfl
  | .int _, h => h
  | .str _, _ => rfl
  | .tup ds, h => by unfold okR at h; unfold pyD PyData.showable; exact okRL_show h
  | .lst ds, h => by unfold okR at h; unfold pyD PyData.showable; exact okRL_show h
  | .ty _, h => by cases h
  | .gl _, h => by cases h
  | .dct _, h => by cases h
  | .obj _ _, h => by cases h
  | .kl _, h => by cases h
  | .kt _, h => by cases h
  | .cell _, h => by cases h
  | .exv _ _ _ _, h => by cases h
theorem okRL_show : ∀ {ds : List Da}, okRL ds = true → PyData.showableAll (pyL ds) = true
  | [], _ => rfl
  | d :: ds, h => by
    unfold okRL at h
    rw [Bool.and_eq_true] at h
    unfold pyL PyData.showableAll
    rw [okR_show h.1, okRL_show h.2]
    rfl
end
theorem app_len (a b : Str) : (a ++ b).length = a.length + b.length := strApp a b
theorem listText_le (ts : List Str) : (listText ts).length ≤ piled ts + 2 := by
  cases ts with
  | nil => decide
  | cons t r =>
    have h := textFrom_length_pos r 1 (("[" : Str) ++ (if (0 : Nat) > 0 then ", " else "" : String) ++ t) (Nat.succ_pos 0)
    have e : (listText (t :: r)).length = (textFrom 1 (("[" : Str) ++ (if (0 : Nat) > 0 then ", " else "" : String) ++ t) r).length + 1 := by
      show (textFrom 0 "[" (t :: r) ++ "]").length = _
      rw [app_len]
      rfl
    rw [e, h, app_len, app_len, piled_cons]
    show 1 + 0 + t.length + piled r + 1 ≤ _
    omega
theorem tupleText_le (ts : List Str) : (tupleText ts).length ≤ piled ts + 3 := by
  by_cases h : ts = []
  · subst h; decide
  · have h2 := join_length_add ts h
    unfold tupleText
    rw [app_len, app_len]
    have e1 : ((if ts.length == 1 then ",)" else ")" : String) : Str).length ≤ 2 := by split <;> decide
    have e2 : ("(" : Str).length = 1 := rfl
    omega
mutual
theorem shB_le : ∀ {d : Da}, okR d = true → (pyD d).shown.length ≤ shB d
  | .non, _ => Nat.le_refl _
  | .bl b, _ => by cases b <;> decide
  | .int i, h => by
    show (toString i : Str).length ≤ 2000
    unfold okR at h
    have e := PyProof.Rows.int_text_len_1921 (of_decide_eq_true h)
    omega
  | .str z, h => by
    unfold okR at h
    exact StrLaws.reprText_len z fun c hc => of_decide_eq_true (List.all_eq_true.1 h c hc)
  | .tup ds, h => by
    unfold okR at h
    unfold pyD PyData.shown shB
    exact Nat.le_trans (tupleText_le _) (by have := shBL_le h; omega)
  | .lst ds, h => by
    unfold okR at h
    unfold pyD PyData.shown shB
    exact Nat.le_trans (listText_le _) (by have := shBL_le h; omega)
  | .ty _, h => by cases h
  | .gl _, h => by cases h
  | .dct _, h => by cases h
  | .obj _ _, h => by cases h
  | .kl _, h => by cases h
  | .kt _, h => by cases h
  | .cell _, h => by cases h
  | .exv _ _ _ _, h => by cases h
theorem shBL_le : ∀ {ds : List Da}, okRL ds = true → piled (PyData.shownAll (pyL ds)) ≤ shBL ds
  | [], _ => Nat.le_refl _
  | d :: ds, h => by
    unfold okRL at h
    rw [Bool.and_eq_true] at h
    unfold pyL PyData.shownAll shBL
    rw [piled_cons]
    have h1 := shB_le h.1
    have h2 := shBL_le h.2
    omega
end
mutual
theorem pyD_depth : ∀ d : Da, (pyD d).depth ≤ dpD d
  | .non => Nat.zero_le _
  | .bl _ => Nat.zero_le _
  | .int _ => Nat.zero_le _
  | .str _ => Nat.zero_le _
  | .tup ds => by unfold pyD PyData.depth dpD; have := pyL_depth ds; omega
  | .lst ds => by unfold pyD PyData.depth dpD; have := pyL_depth ds; omega
  | .ty _ => Nat.zero_le _
  | .gl _ => Nat.zero_le _
  | .dct _ => Nat.zero_le _
  | .obj _ _ => Nat.zero_le _
  | .kl _ => Nat.zero_le _
  | .kt _ => Nat.zero_le _
  | .cell _ => Nat.zero_le _
  | .exv _ _ _ _ => Nat.zero_le _
theorem pyL_depth : ∀ ds : List Da, PyData.depthAll (pyL ds) ≤ dpL ds
  | [] => Nat.zero_le _
  | d :: ds => by unfold pyL PyData.depthAll dpL; have := pyD_depth d; have := pyL_depth ds; omega
end
/-- the text of data -/
def reprD (d : Da) : Str := (pyD d).shown
def rReprA (K : PySem.W.Frag) : List V → Hp → VK → Prop := fun xs H Q => ∃ v d, xs = [v] ∧ Rp K H [] [] v d ∧ okR d = true ∧ shB d ≤ 10000000 ∧ dpD d ≤ 50 ∧ Q (.str (reprD d)) H
theorem call_reprA {X : Cx} (gd : X.A.guards = some []) (hu : X.A.units + 64 < cLine) : CallR X (.builtin "repr") (rReprA X.K) := by
  intro pins s σ H xs us Q I r h
  obtain ⟨v, d, rfl, rp, ok, hb, hd, q⟩ := h
  obtain ⟨u, rfl, ru⟩ := r.one
  have hz : (pyD d).shown.length ≤ sizeLine := Nat.le_trans (Nat.le_trans (shB_le ok) hb) (by rw [sizeLine_eq]; decide)
  obtain ⟨as, ra⟩ := reads_of I (okR_pl ok) rp ru
  have dp := pyD_depth d
  cases d with
  | non => cases rp; cases ru; exact PySem.P.repr_of_none ⟨.str _, H, I.tok _, ⟨_, rfl⟩, q⟩
  | bl b => cases rp; cases ru; exact PySem.P.repr_of_bool ⟨.str _, H, I.tok _, ⟨_, rfl⟩, q⟩
  | int i => cases rp; obtain ⟨t, rfl⟩ := ru; exact PySem.P.repr_of_int (of_decide_eq_true ok) ⟨.str _, H, I.tok _, ⟨_, rfl⟩, q⟩
  | str z =>
    cases rp with
    | str l => obtain ⟨t, rfl⟩ := ru; exact PySem.P.repr_of_str ⟨.str _, H, I.tok _, ⟨_, rfl⟩, q⟩ hz
  | tup ds =>
    cases rp with
    | tup h1 h2 h3 h4 =>
      cases ru
      refine repr_of_reads' ra (okR_show ok) (fun e => by rw [pyD_nod] at e; cases e) gd (by omega) (fun _ _ e => e) (fun h' u tk hk => ?_) hz
      exact ⟨.str _, H, I.kept fun b o e => hk b o e, ⟨_, rfl⟩, q⟩
  | lst ds =>
    cases rp with
    | lst h1 h2 h3 h4 =>
      cases ru
      refine repr_of_reads' ra (okR_show ok) (fun e => by rw [pyD_nod] at e; cases e) gd (by omega) (fun _ _ e => e) (fun h' u tk hk => ?_) hz
      exact ⟨.str _, H, I.kept fun b o e => hk b o e, ⟨_, rfl⟩, q⟩
  | _ => cases ok
def nRepr : List Da → Mem → TK → Prop := fun ds M Q => match ds with
  | [d] => ∃ d', frz 0 4 M d = some d' ∧ okR d' = true ∧ shB d' ≤ 10000000 ∧ dpD d' ≤ 50 ∧ Q (.str (reprD d')) M
  | _ => False
theorem C_repr {K : PySem.W.Frag} : SC K (rReprA K) nRepr := by
  intro χ H φ M x dx Q Q' m hx f h
  unfold nRepr at h
  split at h
  · obtain ⟨v, rfl, h1⟩ := hx.one
    obtain ⟨d', e, ok, hb, hd, q⟩ := h
    have r := frz_run m 4 h1 e
    rw [List.take_zero] at r
    have hz : (pyD d').shown.length ≤ sizeLine := Nat.le_trans (Nat.le_trans (shB_le ok) hb) (by rw [sizeLine_eq]; decide)
    exact ⟨v, d', rfl, Rp.weak (okR_pl ok) r, ok, hb, hd, f.pure m (.str hz) q⟩
  · exact h.elim
def nSum : List Da → Mem → TK → Prop := fun ds M Q => match ds with
  | [x] => match look M x with
    | .lst es => ∃ ns, intsD es = some ns ∧ Q (.int ns.sum) M
    | _ => False
  | _ => False
theorem C_sum {K : PySem.W.Frag} : SC K (rSum K) nSum := by
  intro χ H φ M x dx Q Q' m hx f h
  unfold nSum at h
  split at h
  · obtain ⟨v, rfl, h1⟩ := hx.one
    split at h
    · rename_i es e
      obtain ⟨ns, e2, q⟩ := h
      obtain ⟨a, vs, rfl, hs, r⟩ := vL m h1 e
      rw [intsD_of r e2] at hs
      exact ⟨a, ns, rfl, hs, f.pure m (.int _) q⟩
    · exact h.elim
  · exact h.elim
def rAbsA : List V → Hp → VK → Prop := fun xs H Q => ∃ i, xs = [.int i] ∧ Q (.int (if i < 0 then -i else i)) H
theorem call_absA {X : Cx} : CallR X (.builtin "abs") rAbsA := call_abs
def nAbs : List Da → Mem → TK → Prop := fun ds M Q => match ds with
  | [.int i] => Q (.int (if i < 0 then -i else i)) M
  | _ => False
theorem C_abs {K : PySem.W.Frag} : SC K rAbsA nAbs := by
  intro χ H φ M x dx Q Q' m hx f h
  unfold nAbs at h
  split at h
  · obtain ⟨v, rfl, h1⟩ := hx.one
    obtain rfl := vInt h1
    exact ⟨_, rfl, f.pure m (.int _) h⟩
  · exact h.elim
/-- the ints, each once -/
def onceI (ns : List Int) : List Int := PyProof.Rows.firstMet (fun i => ns.getD i 0) ns.length
def tLenSet (K : PySem.W.Frag) (ta : TE) : TE := fun σ H Q => ta σ H fun x H1 => ∃ (l : Addr) (ns : List Int), x = .ref l ∧ SqL K H1 l (ns.map V.int) ∧ ns.length ≤ 4000 ∧ Q (.int ((onceI ns).length : Nat)) H1
theorem pe_lenSet {X : Cx} {a : Expr} {ta : TE} {p p2 q pos : Pos} (g1 : Gl X "len") (m1 : X.mg "len" = none) (g2 : Gl X "set") (m2 : X.mg "set" = none) (ha : PE X a ta) (cl : X.calm = true := by rfl)
    (na : starEach [a] X.env = (false, eval a X.env) :: starEach [] X.env := by rfl) : PE X (.Call (.Name "len" p) [.Call (.Name "set" p2) [a] [] q] [] pos) (tLenSet X.K ta) := by
  refine ⟨fun pins s σ H Q I h => Call_ (ld_blt I g1 m1 boot_len ?_)⟩
  refine PyProof.Rows.callWith_builtin1 (PyProof.Rows.args_cons (Call_ (ld_blt I g2 m2 boot_set ?_)) rfl) rfl rfl
  refine PyProof.Rows.callWith_type1 (PyProof.Rows.args_cons (thn (ha.run pins s σ H _ I h) fun v s1 ⟨x, H1, I1, r1, l, ns, e0, hs, hl, q1⟩ => PyProof.Rows.args_nil ?_) na) na rfl
  subst e0
  cases r1
  obtain ⟨its, r, pl, _⟩ := I1.list hs
  have ln : its.toArray.size = ns.length := by rw [List.size_toArray, ← r.length, List.length_map]
  refine call_set_list (I1.ok.hd cl) pl.isList (by simpa using RZ.intsAre_vals r) (by rw [ln]; unfold scanBound; omega) fun h' tk hS hk => PyProof.Rows.args_nil ?_
  rw [ln] at hS
  have le := PyProof.Rows.firstMet_length_le (fun i => ns.getD i 0) ns.length
  obtain ⟨o, es, ep, t, ho, hex, hd, _, _, _, hf, hn⟩ := hS
  have I2 : Inv X pins σ H1 { s1 with heap := h', toks := tk } := I1.kept fun b o e => hk b o (Heap.lt_size e) e
  exact call_len_set ho hex hd hf (by rw [hn] <;> omega) ⟨.int ((onceI ns).length : Nat), H1, I2.tok _, ⟨_, by rw [hn]; rfl⟩, q1⟩
def mLenSet (me : ME) : ME := fun ρ M Q => me ρ M fun d M1 => match look M1 d with
  | .lst es => ∃ ns, intsD es = some ns ∧ ns.length ≤ 4000 ∧ Q (.int ((onceI ns).length : Nat)) M1
  | _ => False
theorem E_lenSet {K : PySem.W.Frag} {te : WX → TE} {me : WD → ME} (s : SE K te me) : SE K (fun W => tLenSet K (te W)) (fun W => mLenSet (me W)) := ⟨fun r m w f h =>
  s.run r m w (fun v d H1 φ1 M1 A1 m1 r1 h1 => by
    split at h1
    · rename_i es e
      obtain ⟨ns, e2, hl, q⟩ := h1
      obtain ⟨a, vs, rfl, hs, rr⟩ := vL m1 r1 e
      rw [intsD_of rr e2] at hs
      exact ⟨a, ns, rfl, hs, hl, f _ _ _ _ _ A1 m1 (.int _) q⟩
    · exact h1.elim) h⟩
def whlL (c : MT) (tb : MS) (D : En) (n : Nat) : Nat → Sl → Mem → Prop
  | 0, _, _ => False
  | k + 1, ρ, M => c ρ M fun b M1 => if b = true then tb { nx := fun ρ2 M2 => ∃ ρ3 M3, Wk n ρ2 M2 ρ3 M3 ∧ whlL c tb D n k ρ3 M3, rt := D.rt, bk := D.nx, ct := fun ρ2 M2 => ∃ ρ3 M3, Wk n ρ2 M2 ρ3 M3 ∧ whlL c tb D n k ρ3 M3 } ρ M1 else D.nx ρ M1
def mWhl (c : MT) (tb : MS) : MS := fun D ρ M => ∃ k, whlL c tb D M.length k ρ M
theorem S_whl {K : PySem.W.Frag} {tc : WX → TT} {mc : WD → MT} {ts : WX → TS} {mt : WD → MS} (c : ST K tc mc) (s : SS K ts mt) : SS K (fun W => tWhile (tc W) (ts W)) (fun W => mWhl (mc W) (mt W)) := ⟨fun {χ W W' σ H φ ρ M D D'} r m w n t b ct h => by
  obtain ⟨k, h⟩ := h
  refine ⟨fun k σ1 H1 => ∃ φ1 ρ1 M1, Adv H φ H1 φ1 ∧ Rs K H1 φ1 χ σ1 ρ1 ∧ Mm K H1 φ1 χ M1 ∧ whlL (mc W') (mt W') D' M.length k ρ1 M1, ⟨k, φ, ρ, M, Adv.refl, r, m, h⟩, ?_⟩
  rintro k σ1 H1 ⟨φ1, ρ1, M1, A1, r1, m1, q⟩
  cases k with
  | zero => exact q.elim
  | succ k =>
    refine c.run r1 m1 (w.adv A1) (fun bb H2 φ2 M2 A2 m2 h2 => ?_) q
    have r2 := r1.adv A2
    cases bb with
    | false => exact n _ _ _ _ _ (A1.trans A2) r2 m2 h2
    | true =>
      have wk : ∀ {σ' H' φ' ρ' M'}, Adv H φ H' φ' → Rs K H' φ' χ σ' ρ' → Mm K H' φ' χ M' → (∃ ρ3 M3, Wk M.length ρ' M' ρ3 M3 ∧ whlL (mc W') (mt W') D' M.length k ρ3 M3) →
          ∃ φ' ρ' M', Adv H φ H' φ' ∧ Rs K H' φ' χ σ' ρ' ∧ Mm K H' φ' χ M' ∧ whlL (mc W') (mt W') D' M.length k ρ' M' := by
        rintro σ' H' φ' ρ' M' A r m' ⟨ρ3, M3, kk, q3⟩
        obtain ⟨φ3, A3, r3, m3⟩ := kk.run (Nat.le_of_eq m.len) A r m'
        exact ⟨φ3, ρ3, M3, A3, r3, m3, q3⟩
      refine ⟨fun σ' H' => ∃ φ' ρ' M', Adv H φ H' φ' ∧ Rs K H' φ' χ σ' ρ' ∧ Mm K H' φ' χ M' ∧ whlL (mc W') (mt W') D' M.length k ρ' M', fun σ' H' z => ⟨k, Nat.lt_succ_self _, z⟩, ?_⟩
      have A12 := A1.trans A2
      rw [if_pos rfl] at h2
      refine s.run (D' := { nx := fun ρ2 M2 => ∃ ρ3 M3, Wk M.length ρ2 M2 ρ3 M3 ∧ whlL (mc W') (mt W') D' M.length k ρ3 M3, rt := D'.rt, bk := D'.nx, ct := fun ρ2 M2 => ∃ ρ3 M3, Wk M.length ρ2 M2 ρ3 M3 ∧ whlL (mc W') (mt W') D' M.length k ρ3 M3 }) r2 m2 (w.adv A12) ?_ (t.adv A12) ?_ ?_ h2
      · exact fun σ4 H4 φ4 ρ4 M4 A4 r4 m4 h4 => wk (A12.trans A4) r4 m4 h4
      · exact fun σ4 H4 φ4 ρ4 M4 A4 r4 m4 h4 => n _ _ _ _ _ (A12.trans A4) r4 m4 h4
      · exact fun σ4 H4 φ4 ρ4 M4 A4 r4 m4 h4 => wk (A12.trans A4) r4 m4 h4⟩
/-- a loop by what holds with k turns left -/
theorem whl_ind {c : MT} {tb : MS} {D : En} {n : Nat} (P : Nat → Sl → Mem → Prop)
    (h0 : ∀ ρ M (N : Sl → Mem → Prop), P 0 ρ M → c ρ M fun b M1 => if b = true then tb { nx := fun ρ2 M2 => ∃ ρ3 M3, Wk n ρ2 M2 ρ3 M3 ∧ N ρ3 M3, rt := D.rt, bk := D.nx, ct := fun ρ2 M2 => ∃ ρ3 M3, Wk n ρ2 M2 ρ3 M3 ∧ N ρ3 M3 } ρ M1 else D.nx ρ M1)
    (hs : ∀ k ρ M (N : Sl → Mem → Prop), P (k + 1) ρ M → (∀ ρ3 M3, P k ρ3 M3 → N ρ3 M3) → c ρ M fun b M1 => if b = true then tb { nx := fun ρ2 M2 => ∃ ρ3 M3, Wk n ρ2 M2 ρ3 M3 ∧ N ρ3 M3, rt := D.rt, bk := D.nx, ct := fun ρ2 M2 => ∃ ρ3 M3, Wk n ρ2 M2 ρ3 M3 ∧ N ρ3 M3 } ρ M1 else D.nx ρ M1) :
    ∀ k ρ M, P k ρ M → whlL c tb D n (k + 1) ρ M
  | 0, ρ, M, p => h0 ρ M _ p
  | k + 1, ρ, M, p => hs k ρ M _ p fun ρ3 M3 q => whl_ind P h0 hs k ρ3 M3 q
end Z
namespace Z
open PySem PySem.Spec PyProof.Rows L2 Evl
section
variable {P : Program} {w : World} {A : Around} {E : Value → Shared → Prop} {s : Shared}
set_option maxRecDepth 100000 in
set_option maxHeartbeats 3200000 in
/-- set(list of ints): the library has it for tuples -/
theorem call_set_lstI {l : Addr} {items : Array Value} (ns : List Int) {Q : Value → Shared → Prop} (hh : A.handled = none) (hl : s.heap.IsList l items) (hit : IntsAre items.toList ns) (hb : ns.length + 1 < scanBound)
    (h : ∀ (h' : Heap) (tk c : Nat), SetR w h' s.heap.objs.size (fun j => decide (j ∈ ns)) c → c ≤ ns.length → (∀ b o, s.heap.get? b = some o → h'.get? b = some o) → Q (.ref s.heap.objs.size) { s with heap := h', toks := tk }) :
    wpAny (model P w) A (call (.type "set") [.ref l]) Q E s := by
  have hisz : items.size = ns.length := by
    have q := IntsAre.length hit
    rw [Array.length_toList] at q
    exact q
  obtain ⟨c, tl, hmro⟩ := F.called_set.mro
  have hmade := F.called_set.made
  have hsub := F.called_set.sub
  refine wpAny_call (codeAny_of_tree ?_)
  show wpAny _ _ (callAny (.type "set") _) _ _ _
  refine wpAny_pure ⟨Code.quiet_builtin _ (by decide +kernel), codeAny_builtin F.entry_type_call ?_⟩
  rw [Around.under_plain (weight_type_call_type "set" [.ref l] []) rfl]
  have h1 := F.called_set.notType
  have h2 := F.called_set.canCreate
  have hct := F.typeCall_set_1 (.ref l)
  repeat (any_goals (first | assumption | wp_step))

  refine codeAny_mono (code_set_led1 (.ref l) (E := E) (Q₁ := fun obj s₁ => obj = .ref s.heap.objs.size ∧ s₁ = { s with heap := s.heap.push { cls := .type "set", dict := none, data := .set #[] 0 (.fresh 0 0 (!w.params.followText "set-order")) } }) ⟨rfl, rfl⟩) fun r s₁ hr => ?_
  cases r with
  | error e => exact hr
  | ok fl =>
    cases fl with
    | ret obj =>
      obtain ⟨rfl, rfl⟩ := hr
      have hS : (s.heap.push { cls := .type "set", dict := none, data := .set #[] 0 (.fresh 0 0 (!w.params.followText "set-order")) }).get? s.heap.objs.size = some { cls := .type "set", dict := none, data := .set #[] 0 (.fresh 0 0 (!w.params.followText "set-order")) } := Heap.get?_push_size _ rfl
      have hT : Shared.TypeIs { s with heap := s.heap.push { cls := .type "set", dict := none, data := .set #[] 0 (.fresh 0 0 (!w.params.followText "set-order")) } } (.ref s.heap.objs.size) "set" := ⟨_, hS, rfl⟩
      have hli := F.called_set.init.lookup
      have hbi := F.called_set.init.bind (.ref s.heap.objs.size)
      repeat (any_goals (first | assumption | wp_step))

      refine codeAny_mono (codeAny_call_builtin (R := wants (fun r s₂ => r = .none ∧ ∃ h' tk c, s₂ = { s with heap := h', toks := tk } ∧ SetR w h' s.heap.objs.size (fun j => decide (j ∈ ns)) c ∧ c ≤ ns.length ∧
          (∀ b o, s.heap.get? b = some o → h'.get? b = some o)) E) F.called_set.init.plain F.entry_set_init (check_set_init_1 hT ?_)) fun r₂ s₂ hr₂ => ?_
      · obtain ⟨ol, hol, hcl, nl, hdl⟩ := hl
        obtain ⟨ocls, odict, odata, oslots⟩ := ol
        simp only at hcl hdl
        subst hcl; subst hdl
        have hol' : (s.heap.push { cls := .type "set", dict := none, data := .set #[] 0 (.fresh 0 0 (!w.params.followText "set-order")) }).get? l = some { cls := .type "list", dict := odict, data := .seq items nl, slots := oslots } := Heap.get?_push_of_some _ hol
        have hsls := F.sub_list_set
        have hslf := F.sub_list_frozenset
        have hne : (Value.type "list" == Value.type "dict") = false := by decide
        have hl1 : (s.heap.push { cls := .type "set", dict := none, data := .set #[] 0 (.fresh 0 0 (!w.params.followText "set-order")) }).IsList l items := ⟨_, hol', rfl, nl, rfl⟩
        unfold Builtin.«set.__init__» noKeywords Builtin.Frozenset.updateFrom
        generalize hPI : pyIter = PI
        wp_walk
        subst hPI

        refine wpAny_pyIter_list hl1 ?_
        refine wpAny_bind (wpAny_runValue ?_)
        have hlS : l < s.heap.objs.size := Heap.lt_size hol
        have hh3 : A.in1.in1.in1.handled = none := by simp [hh]
        have hz1 : (s.heap.push { cls := .type "set", dict := none, data := .set #[] 0 (.fresh 0 0 (!w.params.followText "set-order")) }).objs.size = s.heap.objs.size + 1 := Heap.size_push ..
        have hneI : l ≠ (s.heap.push { cls := .type "set", dict := none, data := .set #[] 0 (.fresh 0 0 (!w.params.followText "set-order")) }).objs.size := by
          rw [Heap.size_push]; exact Nat.ne_of_lt (Nat.lt_succ_of_lt hlS)
        have hSf : s.heap.objs.size ∉ [(s.heap.push { cls := .type "set", dict := none, data := .set #[] 0 (.fresh 0 0 (!w.params.followText "set-order")) }).objs.size, l] := by
          rw [Heap.size_push]; simp only [List.mem_cons, List.mem_singleton, List.not_mem_nil, or_false, not_or]
          exact ⟨Nat.ne_of_lt (Nat.lt_succ_self _), Nat.ne_of_gt hlS⟩
        have hval : ∀ (i : Nat) (v : Value), items[i]? = some v → ∃ k t, ns[i]? = some k ∧ v = .int k t := fun i v hv => by
          have hi : i < ns.length := by rw [← hisz]; exact (Array.getElem?_eq_some_iff.mp hv).1
          obtain ⟨t, e⟩ := PyProof.Rows.IntsAre.int_at hit i v (by rw [Array.getElem?_toList]; exact hv)
          refine ⟨ns[i], t, List.getElem?_eq_getElem hi, ?_⟩
          rw [e, List.getD_eq_getElem?_getD, List.getElem?_eq_getElem hi] <;> rfl
        refine set_update_ints ((Walks.list hh3 _ l hneI items).toS) s.heap.objs.size
          hSf ns hisz hb hval (items.size - 0) 0 _ (by omega) (Nat.zero_le _)
          ⟨⟨_, Heap.get?_push_size _ rfl, rfl, rfl⟩, (hl1.push _)⟩ ?hS0 ?hR
        case hS0 =>
          have hget : ((s.heap.push { cls := .type "set", dict := none, data := .set #[] 0 (.fresh 0 0 (!w.params.followText "set-order")) }).push { cls := .type "list_iterator", data := .fields #[.ref l, .int 0 0] }).get? s.heap.objs.size
              = some { cls := .type "set", dict := none, data := .set #[] 0 (.fresh 0 0 (!w.params.followText "set-order")) } := Heap.get?_push_of_some _ hS
          exact ⟨0, Nat.le_refl 0, setR_new_at hget⟩
        case hR =>
          intro s' c' hm hc' hS'
          obtain ⟨h', g2, d', tk', os'⟩ := s'
          have eg : g2 = s.gens := hm.gens
          have ed : d' = s.drawn := hm.drawn
          have eo : os' = s.os := hm.os
          subst eg; subst ed; subst eo
          show wpAny _ _ _ _ _ _
          refine wpAny_pure ?_
          show wpAny _ _ (ret Value.none) _ _ _
          rw [hisz] at hc'
          refine wpAny_pure ⟨rfl, h', tk', c', rfl, hS', hc', fun b o e => ?_⟩
          have hb0 : b < s.heap.objs.size := Heap.lt_size e
          have hb1 : b ≠ s.heap.objs.size := Nat.ne_of_lt hb0
          have hb2 : b ≠ (s.heap.push { cls := .type "set", dict := none, data := .set #[] 0 (.fresh 0 0 (!w.params.followText "set-order")) }).objs.size := by
            rw [Heap.size_push]; exact Nat.ne_of_lt (Nat.lt_succ_of_lt hb0)
          exact hm.heap b o (by simp only [List.mem_cons, List.mem_singleton, List.not_mem_nil, or_false, not_or]; exact ⟨hb1, hb2⟩) (Heap.get?_push_of_some _ (Heap.get?_push_of_some _ e))

      · cases r₂ with
        | error e => exact hr₂
        | ok fl₂ =>
          cases fl₂ with
          | ret r =>
            obtain ⟨rfl, h', tk, c', rfl, hS', hc', hk'⟩ := hr₂
            repeat (any_goals (first | assumption | wp_step))
            exact h _ _ _ hS' hc' hk'
          | _ => exact hr₂.elim
    | _ => exact hr.elim
end
def tSortSet (K : PySem.W.Frag) (ta : TE) : TE := fun σ H Q => ta σ H fun x H1 => ∃ (l : Addr) (ns : List Int), x = .ref l ∧ SqL K H1 l (ns.map V.int) ∧ ns.length < 64 ∧
  ∀ (ys : List Int) (p : Addr), ys.Pairwise (· < ·) → (∀ k, k ∈ ys ↔ k ∈ ns) → H1 p = none → Q (.ref p) (upd H1 p (.lst (ys.map V.int)))
theorem sortR {X : Cx} {pins : List (Addr × Obj)} {σ : L2.St} {H : Hp} {s : Shared} {a : Addr} {S : Int → Bool} {n : Nat} {Q : VK} (I : Inv X pins σ H s) (cl : X.calm = true) (R : SetR X.w s.heap a S n) (h64 : n < 64)
    (q : ∀ (ys : List Int) (p : Addr), ys.Pairwise (· < ·) → (∀ k, k ∈ ys ↔ S k = true) → H p = none → Q (.ref p) (upd H p (.lst (ys.map V.int)))) : wpAny (model X.prog X.w) X.A (call (.builtin "sorted") [.ref a]) (EP X pins σ Q) X.xe s := by
  refine sorted_set R (I.ok.hd cl) h64 fun s' p out c2 ys k g o hp hg hi hs2 hm hl2 => ?_
  have hlen : (ys.map V.int).length ≤ sizeLine := by rw [List.length_map, hl2, sizeLine_eq]; omega
  have hn : H p = none := I.hok.fresh hp
  have J : Inv X pins σ (upd H p (.lst (ys.map V.int))) { s with heap := s'.heap, gens := s'.gens, drawn := s'.drawn, toks := s'.toks } :=
    I.call (ch := []) (Un.laid k hp hn) (I.hok.laid k hp ⟨hlen, out.toList, c2, vals_of_ints hi, hg⟩) (by rw [g]; exact I.bare) (fun _ z => nomatch z)
  have e : s' = { s with heap := s'.heap, gens := s'.gens, drawn := s'.drawn, toks := s'.toks } := by
    cases s'
    cases s
    cases o
    rfl
  rw [e]
  exact ⟨.ref p, _, J, rfl, q ys p hs2 hm hn⟩
theorem pe_sortSet {X : Cx} {a : Expr} {ta : TE} {p p2 q pos : Pos} (g1 : Gl X "sorted") (m1 : X.mg "sorted" = none) (g2 : Gl X "set") (m2 : X.mg "set" = none) (ha : PE X a ta) (cl : X.calm = true := by rfl)
    (na : starEach [a] X.env = (false, eval a X.env) :: starEach [] X.env := by rfl) : PE X (.Call (.Name "sorted" p) [.Call (.Name "set" p2) [a] [] q] [] pos) (tSortSet X.K ta) := by
  refine ⟨fun pins s σ H Q I h => Call_ (ld_blt I g1 m1 boot_sorted ?_)⟩
  refine PyProof.Rows.callWith_builtin1 (PyProof.Rows.args_cons (Call_ (ld_blt I g2 m2 boot_set ?_)) rfl) rfl rfl
  refine PyProof.Rows.callWith_type1 (PyProof.Rows.args_cons (thn (ha.run pins s σ H _ I h) fun v s1 ⟨x, H1, I1, r1, l, ns, e0, hs, hl, q1⟩ => PyProof.Rows.args_nil ?_) na) na rfl
  subst e0
  cases r1
  obtain ⟨its, r, pl, _⟩ := I1.list hs
  refine call_set_lstI ns (I1.ok.hd cl) pl.isList (by simpa using RZ.intsAre_vals r) (by unfold scanBound; omega) fun h' tk c R hc hk => PyProof.Rows.args_nil ?_
  have I2 : Inv X pins σ H1 { s1 with heap := h', toks := tk } := I1.kept hk
  exact sortR I2 cl R (by omega) fun ys p hs2 hm hn => q1 ys p hs2 (fun j => by rw [hm]; exact decide_eq_true_iff) hn
section
variable {K : PySem.W.Frag} {χ φ : List Addr} {H : Hp} {M : Mem}
def mSortSet (me : ME) : ME := fun ρ M Q => me ρ M fun d M1 => match look M1 d with
  | .lst es => ∃ ns, intsD es = some ns ∧ ns.length < 64 ∧ ∀ ys : List Int, ys.Pairwise (· < ·) → (∀ k, k ∈ ys ↔ k ∈ ns) → Q (.lst (ys.map Da.int)) M1
  | _ => False
theorem E_sortSet {te : WX → TE} {me : WD → ME} (s : SE K te me) : SE K (fun W => tSortSet K (te W)) (fun W => mSortSet (me W)) := ⟨fun r m w f h =>
  s.run r m w (fun v d H1 φ1 M1 A1 m1 r1 h1 => by
    split at h1
    · rename_i es e
      obtain ⟨ns, e2, hl, q⟩ := h1
      obtain ⟨a, vs, rfl, hs, rr⟩ := vL m1 r1 e
      rw [intsD_of rr e2] at hs
      exact ⟨a, ns, rfl, hs, hl, fun ys p h1 h2 hp => (f.adv A1).lst m1 (ints_rp ys) hp (q ys h1 h2)⟩
    · exact h1.elim) h⟩
theorem mt_removeA {X : Cx} : MtR X "list.remove" rRemI := mt_remove
def nRemove : Da → List Da → Mem → TK → Prop := fun x ds M Q => match cellL M x, ds with
  | some (n, es), [.int k] => ∃ ns j, intsD es = some ns ∧ ns[j]? = some k ∧ (∀ m : Nat, m < j → ns[m]? ≠ some k) ∧ Q .non (M.set n (.lst ((ns.eraseIdx j).map Da.int)))
  | _, _ => False
theorem M_remove : SMr K rRemI nRemove := by
  intro χ H φ M x dx xs dxs Q Q' m hx hxs f h
  unfold nRemove at h
  split at h
  · rename_i n es k e
    obtain ⟨w, rfl, h1⟩ := hxs.one
    obtain rfl := vInt h1
    obtain ⟨a, vs, rfl, ha, hl, r⟩ := cellL_of m hx e
    obtain ⟨ns, j, e2, p1, p2, q⟩ := h
    rw [intsD_of r e2] at hl
    exact ⟨a, ns, k, j, rfl, rfl, hl, p1, p2, f.mutL m ha (ints_rp _) .non q⟩
  · exact h.elim
def iKeysN (td : TE) : TI := fun σ H R => td σ H fun x H1 => ∃ d kvs, x = .ref d ∧ H1 d = some (.dK kvs) ∧ ∀ o, R (Itk d o kvs) (upd H1 d (.frz o (.dK kvs)))
theorem pi_keysN {X : Cx} {tg e : Expr} {td : TE} (he : PE X e td) : PI X tg e (iKeysN td) := by
  refine ⟨fun pins s σ H R I h => ?_⟩
  refine thn (he.run pins s σ H _ I h) fun u s1 ⟨x, H1, I1, rx, d, kvs, ex, hd, q⟩ => ?_
  subst ex
  obtain rfl : u = Value.ref d := rx
  obtain ⟨o, I2⟩ := I1.lock hd (by trivial)
  have q := q o
  obtain ⟨hs, hgd, hx, es, ep, vs, hdt, hsz, kv, hm⟩ := I2.frzK upd_same
  refine iter_keys hs hgd hx hdt (pi_one (tk := s1.toks) I2 _ (turn_keys _ hdt) ⟨_, Heap.get?_push_size _ rfl, rfl, ?_⟩ q)
  rw [hsz] <;> rfl
theorem Adv.newer {H H' : Hp} {φ φ' : List Addr} {p : Addr} {o : HO} (A : Adv H φ H' φ') (h : H p = none) : Adv H φ (upd H' p o) φ' := by
  refine ⟨fun a u e n => ?_, A.pre, fun a e => upd_some (A.dom a e)⟩
  rw [upd_ne (fun q => by rw [q, h] at e; cases e)]
  exact A.keep a u e n
def mForN (mn : ME) (it : List (Key × Da) → List Da) (g : MG) (tb : MS) : MS := fun D ρ M => mn ρ M fun d M1 => match d with
  | .dct kds => (∀ p ∈ kds, keyOk p.1) ∧ forL (fun _ => True) g tb D M1.length (it kds) ρ M1
  | _ => False
variable {tg : WX → TG} {mg : WD → MG} {ts : WX → TS} {mt : WD → MS}
theorem S_forN {te : WX → TE} {mn : WD → ME} (p : SN K te mn) (g : SG K tg mg) (s : SS K ts mt) : SS K (fun W => tFor (iKeysN (te W)) (tg W) (ts W)) (fun W => mForN (mn W) keysD (mg W) (mt W)) := ⟨fun {χ W W' σ H φ ρ M D D'} r m w n t b c h => by
  unfold mForN at h
  refine p.run r m w (fun d M' q => ?_) (fun a d H' φ' M' A1 h0 n1 n2 m1 ca q => ?_) h
  · split at q
    · rfl
    · exact q.elim
  · split at q
    · rename_i kds
      obtain ⟨kvs, hd, rk⟩ := ca
      obtain ⟨ok, q⟩ := q
      refine ⟨a, kvs, rfl, hd, fun o => ?_⟩
      have S := into (od := o) hd
      have A2 : Adv H φ (upd H' a (.frz o (.dK kvs))) φ' := A1.newer h0
      exact for_run (D' := D') (D := D) g s (r.adv A2) (m1.bare.same S n1) (w.adv A2) (n.adv A2) (t.adv A2) (turns_keys upd_same n1 n2 (rk.bare.same S) ok) trivial q
    · exact q.elim⟩
end
end Z
namespace Z
open PySem PySem.Spec PyProof.Rows L2 Evl
/-- the tables of the module -/
structure Tbl (K : PySem.W.Frag) : Prop where
  t_ASKED : ∀ H, SqT K H (He.ga K "ASKED") [.str "put", .str "strike", .str "read"]
def tab_ASKED : List Da := [.str "put", .str "strike", .str "read"]
structure TabD (K : PySem.W.Frag) : Prop where
  t_ASKED : KTup K (He.ga K "ASKED") tab_ASKED
theorem Tbl.da {K : PySem.W.Frag} (T : Tbl K) : TabD K := ⟨⟨_, T.t_ASKED, fun _ _ _ => (.cons (.str (by decide)) (.cons (.str (by decide)) (.cons (.str (by decide)) .nil)))⟩⟩
def m_is_integer : MS :=
  (mRet ((mAndV (mCB nIsi (mCons (mVar 0) (mCons (mC (.ty "int")) mNil))) (mNotV (mCB nIsi (mCons (mVar 0) (mCons (mC (.ty "bool")) mNil)))))))
def f_is_integer : MP := dfn 1 1 (fun _ => m_is_integer)
abbrev sp_is_integer (K : PySem.W.Frag) : Sp := up K f_is_integer
def t_is_integer (K : PySem.W.Frag) : TS :=
  (tRet ((tAndV (tCB (rIsi K) (tCons (tVar 0) (tCons (tC (.ty "int")) tNil))) (tNotV (tCB (rIsi K) (tCons (tVar 0) (tCons (tC (.ty "bool")) tNil)))))))
theorem c_is_integer {K : PySem.W.Frag} : SS K (fun _ => t_is_integer K) (fun _ => m_is_integer) := by
  unfold t_is_integer m_is_integer 
  exact (S_ret ((E_andV (E_cb C_isi (E_cons (E_var 0) (E_cons (E_ty _) E_nil))) (E_notV (E_cb C_isi (E_cons (E_var 0) (E_cons (E_ty _) E_nil)))))))
theorem len_is_integer (K : PySem.W.Frag) : ∀ vs H Q E, sp_is_integer K vs H Q E → vs.length = (["value"] : List Str).length := fun _ _ _ _ h => up_len h
theorem pure_is_integer (K : PySem.W.Frag) (vs : List V) (H : Hp) (Q : VK) (E : XK) (h : sp_is_integer K vs H Q E) : t_is_integer K { nx := fun _ H' => Q .non H', rt := Q } (start ["value"] vs) H := up_run (tw := fun _ => t_is_integer K) (c_is_integer) (N := ["value"]) rfl h
def m_is_entry : MS :=
  (mSeq (mIfS ((mOr (mNot (mB (mCB nIsi (mCons (mVar 0) (mCons (mC (.ty "tuple")) mNil))))) (mOr (mB (mOp nNe (mCB nLen (mCons (mVar 0) mNil)) (mC (.int 4)))) (mOr (mNot (mB (mCall f_is_integer (mCons (mOp nIx (mVar 0) (mC (.int 0))) mNil)))) (mNot (mB (mCall f_is_integer (mCons (mOp nIx (mVar 0) (mC (.int 1))) mNil)))))))) (mRet (mC (.bl false))) mNext)
    (mSeq (mAsg (mVar 0) (hTup 4 (hCons (hName 1) (hCons (hName 2) (hCons (hName 3) (hCons (hName 4) hNil))))))
    (mSeq (mIfS ((mOr (mB (mOp nGe (mVar 1) (mVar 2))) (mOr (mNot (mB (mCB nIsi (mCons (mVar 3) (mCons (mC (.ty "tuple")) mNil))))) (mOr (mB (mOp nNe (mCB nLen (mCons (mVar 3) mNil)) (mC (.int 2)))) (mNot (mB (mCB nIsi (mCons (mOp nIx (mVar 3) (mC (.int 0))) (mCons (mC (.ty "str")) mNil))))))))) (mRet (mC (.bl false))) mNext)
    (mSeq (mIfS ((mOr (mB (mOp nNin (mOp nIx (mVar 3) (mC (.int 0))) (mC (.kt tab_ASKED)))) (mNot (mB (mCall f_is_integer (mCons (mOp nIx (mVar 3) (mC (.int 1))) mNil)))))) (mRet (mC (.bl false))) mNext)
    (mRet (mIf (mB (mOp nEq (mOp nIx (mVar 3) (mC (.int 0))) (mC (.str "put")))) (mOp nIn (mVar 4) (mTup (mCons (mC (.str "done")) (mCons (mC (.str "refused")) mNil)))) (mCall f_is_integer (mCons (mVar 4) mNil))))))))
def f_is_entry : MP := dfn 5 1 (fun _ => m_is_entry)
abbrev sp_is_entry (K : PySem.W.Frag) : Sp := up K f_is_entry
def t_is_entry (K : PySem.W.Frag) : TS :=
  (tSeq (tIfS ((tOr (tNot (tB (tCB (rIsi K) (tCons (tVar 0) (tCons (tC (.ty "tuple")) tNil))))) (tOr (tTest (tOp (rNeA K) (tCB (rLenB K) (tCons (tVar 0) tNil)) (tC (.int 4)))) (tOr (tNot (tB (tCall (sp_is_integer K) [] E0 (tCons (tOp (rIxB K) (tVar 0) (tC (.int 0))) tNil)))) (tNot (tB (tCall (sp_is_integer K) [] E0 (tCons (tOp (rIxB K) (tVar 0) (tC (.int 1))) tNil)))))))) (tRet (tC (.bl false))) tNext)
    (tSeq (tAsg (tVar 0) (gTup K 4 (gCons (gName 1) (gCons (gName 2) (gCons (gName 3) (gCons (gName 4) gNil))))))
    (tSeq (tIfS ((tOr (tTest (tOp rGeA (tVar 1) (tVar 2))) (tOr (tNot (tB (tCB (rIsi K) (tCons (tVar 3) (tCons (tC (.ty "tuple")) tNil))))) (tOr (tTest (tOp (rNeA K) (tCB (rLenB K) (tCons (tVar 3) tNil)) (tC (.int 2)))) (tNot (tB (tCB (rIsi K) (tCons (tOp (rIxB K) (tVar 3) (tC (.int 0))) (tCons (tC (.ty "str")) tNil))))))))) (tRet (tC (.bl false))) tNext)
    (tSeq (tIfS ((tOr (tTest (tOp (rNinB K) (tOp (rIxB K) (tVar 3) (tC (.int 0))) (tC (.ref (He.ga K "ASKED"))))) (tNot (tB (tCall (sp_is_integer K) [] E0 (tCons (tOp (rIxB K) (tVar 3) (tC (.int 1))) tNil)))))) (tRet (tC (.bl false))) tNext)
    (tRet (tIf (tTest (tOp (rEqA K) (tOp (rIxB K) (tVar 3) (tC (.int 0))) (tC (.str "put")))) (tOp (rInB K) (tVar 4) (tTup (tCons (tC (.str "done")) (tCons (tC (.str "refused")) tNil)))) (tCall (sp_is_integer K) [] E0 (tCons (tVar 4) tNil))))))))
theorem c_is_entry {K : PySem.W.Frag} (T : TabD K) : SS K (fun _ => t_is_entry K) (fun _ => m_is_entry) := by
  unfold t_is_entry m_is_entry 
  exact (S_seq (S_if ((E_or (E_not (E_B (E_cb C_isi (E_cons (E_var 0) (E_cons (E_ty _) E_nil))))) (E_or (E_test (E_op O_ne (E_cb C_len (E_cons (E_var 0) E_nil)) (E_int 4))) (E_or (E_not (E_B (E_call f_is_integer (E_cons (E_op O_ix (E_var 0) (E_int 0)) E_nil)))) (E_not (E_B (E_call f_is_integer (E_cons (E_op O_ix (E_var 0) (E_int 1)) E_nil)))))))) (S_ret (E_bl false)) S_next)
    (S_seq (S_asg (E_var 0) (G_tup (G_cons (G_name 1) (G_cons (G_name 2) (G_cons (G_name 3) (G_cons (G_name 4) G_nil))))))
    (S_seq (S_if ((E_or (E_test (E_op O_ge (E_var 1) (E_var 2))) (E_or (E_not (E_B (E_cb C_isi (E_cons (E_var 3) (E_cons (E_ty _) E_nil))))) (E_or (E_test (E_op O_ne (E_cb C_len (E_cons (E_var 3) E_nil)) (E_int 2))) (E_not (E_B (E_cb C_isi (E_cons (E_op O_ix (E_var 3) (E_int 0)) (E_cons (E_ty _) E_nil))))))))) (S_ret (E_bl false)) S_next)
    (S_seq (S_if ((E_or (E_test (E_op O_nin (E_op O_ix (E_var 3) (E_int 0)) (E_kt T.t_ASKED))) (E_not (E_B (E_call f_is_integer (E_cons (E_op O_ix (E_var 3) (E_int 1)) E_nil)))))) (S_ret (E_bl false)) S_next)
    (S_ret (E_if (E_test (E_op O_eq (E_op O_ix (E_var 3) (E_int 0)) (E_str (by decide)))) (E_op O_in (E_var 4) (E_tup (E_cons (E_str (by decide)) (E_cons (E_str (by decide)) E_nil)))) (E_call f_is_integer (E_cons (E_var 4) E_nil))))))))
theorem len_is_entry (K : PySem.W.Frag) : ∀ vs H Q E, sp_is_entry K vs H Q E → vs.length = (["value"] : List Str).length := fun _ _ _ _ h => up_len h
theorem pure_is_entry (K : PySem.W.Frag) (vs : List V) (H : Hp) (Q : VK) (E : XK) (T : Tbl K) (h : sp_is_entry K vs H Q E) : t_is_entry K { nx := fun _ H' => Q .non H', rt := Q } (start ["value", "begun", "ended", "asked", "told"] vs) H := up_run (tw := fun _ => t_is_entry K) (c_is_entry T.da) (N := ["value", "begun", "ended", "asked", "told"]) rfl h
def b_is_history_6 : MS :=
  (mRet (mOp nEq (mLenSet (mVar 3)) (mCB nLen (mCons (mVar 3) mNil))))
def b_is_history_5 : MS :=
  mSeq (mAsg (mLc2 (mAny (mVar 2)) (hName 5) mYes (mAny (mSl nSl (mVar 5) mNoPart (mPart (mC (.int 2))))) (hName 6) mYes (mVar 6) [5, 6] [6]) (hName 3)) b_is_history_6
def b_is_history_4 : MS :=
  mSeq (mIfS ((mOr (mB (mOp nGt (mCB nLen (mCons (mVar 2) mNil)) (mC (.int 8)))) (mNot (mB (mCB nAll (mCons (mLc (mAny (mVar 2)) (hName 5) mYes (mCall f_is_entry (mCons (mVar 5) mNil)) [5]) mNil)))))) (mRet (mC (.bl false))) mNext) b_is_history_5
def b_is_history_3 : MS :=
  mSeq (mIfS ((mOr (mNot (mB (mCB nAll (mCons (mLc (mAny (mVar 1)) (hName 4) mYes (mCall f_is_integer (mCons (mVar 4) mNil)) [4]) mNil)))) (mB (mOp nNe (mLenSet (mVar 1)) (mCB nLen (mCons (mVar 1) mNil)))))) (mRet (mC (.bl false))) mNext) b_is_history_4
def b_is_history_2 : MS :=
  mSeq (mIfS ((mOr (mNot (mB (mCB nIsi (mCons (mVar 1) (mCons (mC (.ty "list")) mNil))))) (mNot (mB (mCB nIsi (mCons (mVar 2) (mCons (mC (.ty "list")) mNil))))))) (mRet (mC (.bl false))) mNext) b_is_history_3
def b_is_history_1 : MS :=
  mSeq (mAsg (mVar 0) (hTup 2 (hCons (hName 1) (hCons (hName 2) hNil)))) b_is_history_2
def m_is_history : MS :=
  mSeq (mIfS ((mOr (mNot (mB (mCB nIsi (mCons (mVar 0) (mCons (mC (.ty "tuple")) mNil))))) (mB (mOp nNe (mCB nLen (mCons (mVar 0) mNil)) (mC (.int 2)))))) (mRet (mC (.bl false))) mNext) b_is_history_1
def f_is_history : MP := dfn 7 1 (fun _ => m_is_history)
abbrev sp_is_history (K : PySem.W.Frag) : Sp := up K f_is_history
def t_is_history (K : PySem.W.Frag) : TS :=
  (tSeq (tIfS ((tOr (tNot (tB (tCB (rIsi K) (tCons (tVar 0) (tCons (tC (.ty "tuple")) tNil))))) (tTest (tOp (rNeA K) (tCB (rLenB K) (tCons (tVar 0) tNil)) (tC (.int 2)))))) (tRet (tC (.bl false))) tNext)
    (tSeq (tAsg (tVar 0) (gTup K 2 (gCons (gName 1) (gCons (gName 2) gNil))))
    (tSeq (tIfS ((tOr (tNot (tB (tCB (rIsi K) (tCons (tVar 1) (tCons (tC (.ty "list")) tNil))))) (tNot (tB (tCB (rIsi K) (tCons (tVar 2) (tCons (tC (.ty "list")) tNil))))))) (tRet (tC (.bl false))) tNext)
    (tSeq (tIfS ((tOr (tNot (tB (tCB (rAll K) (tCons (tLc (iSeq K (tVar 1)) (gName 4) tYes (tCall (sp_is_integer K) [] E0 (tCons (tVar 4) tNil)) [4]) tNil)))) (tTest (tOp (rNeA K) (tLenSet K (tVar 1)) (tCB (rLenB K) (tCons (tVar 1) tNil)))))) (tRet (tC (.bl false))) tNext)
    (tSeq (tIfS ((tOr (tTest (tOp rGtA (tCB (rLenB K) (tCons (tVar 2) tNil)) (tC (.int 8)))) (tNot (tB (tCB (rAll K) (tCons (tLc (iSeq K (tVar 2)) (gName 5) tYes (tCall (sp_is_entry K) [] E0 (tCons (tVar 5) tNil)) [5]) tNil)))))) (tRet (tC (.bl false))) tNext)
    (tSeq (tAsg (tLc2 (iSeq K (tVar 2)) (gName 5) tYes (iSeq K (tSl (rSlA K) (tVar 5) tNoPart (tPart (tC (.int 2))))) (gName 6) tYes (tVar 6) [5, 6] [6]) (gName 3))
    (tRet (tOp (rEqA K) (tLenSet K (tVar 3)) (tCB (rLenB K) (tCons (tVar 3) tNil))))))))))
theorem c_is_history {K : PySem.W.Frag} : SS K (fun _ => t_is_history K) (fun _ => m_is_history) := by
  unfold t_is_history m_is_history b_is_history_1 b_is_history_2 b_is_history_3 b_is_history_4 b_is_history_5 b_is_history_6
  exact (S_seq (S_if ((E_or (E_not (E_B (E_cb C_isi (E_cons (E_var 0) (E_cons (E_ty _) E_nil))))) (E_test (E_op O_ne (E_cb C_len (E_cons (E_var 0) E_nil)) (E_int 2))))) (S_ret (E_bl false)) S_next)
    (S_seq (S_asg (E_var 0) (G_tup (G_cons (G_name 1) (G_cons (G_name 2) G_nil))))
    (S_seq (S_if ((E_or (E_not (E_B (E_cb C_isi (E_cons (E_var 1) (E_cons (E_ty _) E_nil))))) (E_not (E_B (E_cb C_isi (E_cons (E_var 2) (E_cons (E_ty _) E_nil))))))) (S_ret (E_bl false)) S_next)
    (S_seq (S_if ((E_or (E_not (E_B (E_cb C_all (E_cons (E_lc (I_seq (E_var 1)) (V_name 4 (by decide)) E_yes (E_call f_is_integer (E_cons (E_var 4) E_nil))) E_nil)))) (E_test (E_op O_ne (E_lenSet (E_var 1)) (E_cb C_len (E_cons (E_var 1) E_nil)))))) (S_ret (E_bl false)) S_next)
    (S_seq (S_if ((E_or (E_test (E_op O_gt (E_cb C_len (E_cons (E_var 2) E_nil)) (E_int 8))) (E_not (E_B (E_cb C_all (E_cons (E_lc (I_seq (E_var 2)) (V_name 5 (by decide)) E_yes (E_call f_is_entry (E_cons (E_var 5) E_nil))) E_nil)))))) (S_ret (E_bl false)) S_next)
    (S_seq (S_asg (E_lc2 (I_seq (E_var 2)) (V_name 5 (by decide)) E_yes (I_seq (E_sl O_sl (E_var 5) E_nopart (E_part (E_int 2)))) (V_name 6 (by decide)) E_yes (E_var 6)) (G_name 3))
    (S_ret (E_op O_eq (E_lenSet (E_var 3)) (E_cb C_len (E_cons (E_var 3) E_nil))))))))))
theorem len_is_history (K : PySem.W.Frag) : ∀ vs H Q E, sp_is_history K vs H Q E → vs.length = (["value"] : List Str).length := fun _ _ _ _ h => up_len h
theorem pure_is_history (K : PySem.W.Frag) (vs : List V) (H : Hp) (Q : VK) (E : XK) (h : sp_is_history K vs H Q E) : t_is_history K { nx := fun _ H' => Q .non H', rt := Q } (start ["value", "keys", "entries", "times", "key", "entry", "time"] vs) H := up_run (tw := fun _ => t_is_history K) (c_is_history) (N := ["value", "keys", "entries", "times", "key", "entry", "time"]) rfl h
def m_need_history (W : WD) : MS :=
  (mIfS (mNot (mB (mCall f_is_history (mCons (mVar 0) mNil)))) (mRaise "InvalidHistory" "value" (mCons (mVar 0) mNil) W) mNext)
def f_need_history : MP := dfn 1 1 (fun W => m_need_history W)
abbrev sp_need_history (K : PySem.W.Frag) : Sp := up K f_need_history
def tw_need_history (K : PySem.W.Frag) (W : WX) : TS :=
  (tIfS (tNot (tB (tCall (sp_is_history K) [] E0 (tCons (tVar 0) tNil)))) (tRaisevalue (He.ga K "InvalidHistory") W (tCons (tVar 0) tNil)) tNext)
def t_need_history (K : PySem.W.Frag) (E : XK) : TS := tw_need_history K (fun cls d _ H => E cls d H)
theorem c_need_history {K : PySem.W.Frag} : SS K (fun W => tw_need_history K W) (fun W => m_need_history W) := by
  unfold tw_need_history m_need_history 
  exact (S_if (E_not (E_B (E_call f_is_history (E_cons (E_var 0) E_nil)))) (S_raisevalue "InvalidHistory" (E_cons (E_var 0) E_nil)) S_next)
theorem len_need_history (K : PySem.W.Frag) : ∀ vs H Q E, sp_need_history K vs H Q E → vs.length = (["history"] : List Str).length := fun _ _ _ _ h => up_len h
theorem pure_need_history (K : PySem.W.Frag) (vs : List V) (H : Hp) (Q : VK) (E : XK) (h : sp_need_history K vs H Q E) : t_need_history K E { nx := fun _ H' => Q .non H', rt := Q } (start ["history"] vs) H := up_run (tw := fun W => tw_need_history K W) (c_need_history) (N := ["history"]) rfl h
def m_fits_now : MS :=
  (mSeq (mAsg (mVar 0) (hTup 4 (hCons (hName 2) (hCons (hName 3) (hCons (hName 4) (hCons (hName 5) hNil))))))
    (mSeq (mIfS (mB (mOp nEq (mOp nIx (mVar 4) (mC (.int 0))) (mC (.str "put")))) (mRet (mOp nEq (mOp nEq (mVar 5) (mC (.str "refused"))) (mVar 1))) mNext)
    (mRet (mOp nEq (mVar 5) (mCB nInt (mCons (mVar 1) mNil))))))
def f_fits_now : MP := dfn 6 2 (fun _ => m_fits_now)
abbrev sp_fits_now (K : PySem.W.Frag) : Sp := up K f_fits_now
def t_fits_now (K : PySem.W.Frag) : TS :=
  (tSeq (tAsg (tVar 0) (gTup K 4 (gCons (gName 2) (gCons (gName 3) (gCons (gName 4) (gCons (gName 5) gNil))))))
    (tSeq (tIfS (tTest (tOp (rEqA K) (tOp (rIxB K) (tVar 4) (tC (.int 0))) (tC (.str "put")))) (tRet (tOp (rEqA K) (tOp (rEqA K) (tVar 5) (tC (.str "refused"))) (tVar 1))) tNext)
    (tRet (tOp (rEqA K) (tVar 5) (tCB rIntA (tCons (tVar 1) tNil))))))
theorem c_fits_now {K : PySem.W.Frag} : SS K (fun _ => t_fits_now K) (fun _ => m_fits_now) := by
  unfold t_fits_now m_fits_now 
  exact (S_seq (S_asg (E_var 0) (G_tup (G_cons (G_name 2) (G_cons (G_name 3) (G_cons (G_name 4) (G_cons (G_name 5) G_nil))))))
    (S_seq (S_if (E_test (E_op O_eq (E_op O_ix (E_var 4) (E_int 0)) (E_str (by decide)))) (S_ret (E_op O_eq (E_op O_eq (E_var 5) (E_str (by decide))) (E_var 1))) S_next)
    (S_ret (E_op O_eq (E_var 5) (E_cb C_int (E_cons (E_var 1) E_nil))))))
theorem len_fits_now (K : PySem.W.Frag) : ∀ vs H Q E, sp_fits_now K vs H Q E → vs.length = (["entry", "there"] : List Str).length := fun _ _ _ _ h => up_len h
theorem pure_fits_now (K : PySem.W.Frag) (vs : List V) (H : Hp) (Q : VK) (E : XK) (h : sp_fits_now K vs H Q E) : t_fits_now K { nx := fun _ H' => Q .non H', rt := Q } (start ["entry", "there", "begun", "ended", "asked", "told"] vs) H := up_run (tw := fun _ => t_fits_now K) (c_fits_now) (N := ["entry", "there", "begun", "ended", "asked", "told"]) rfl h
def m_row_after : MS :=
  (mSeq (mIfS (mB (mOp nEq (mOp nIx (mOp nIx (mVar 0) (mC (.int 2))) (mC (.int 0))) (mC (.str "strike")))) (mRet (mC (.bl false))) mNext)
    (mRet ((mOrV (mVar 1) (mOp nEq (mOp nIx (mOp nIx (mVar 0) (mC (.int 2))) (mC (.int 0))) (mC (.str "put")))))))
def f_row_after : MP := dfn 2 2 (fun _ => m_row_after)
abbrev sp_row_after (K : PySem.W.Frag) : Sp := up K f_row_after
def t_row_after (K : PySem.W.Frag) : TS :=
  (tSeq (tIfS (tTest (tOp (rEqA K) (tOp (rIxB K) (tOp (rIxB K) (tVar 0) (tC (.int 2))) (tC (.int 0))) (tC (.str "strike")))) (tRet (tC (.bl false))) tNext)
    (tRet ((tOrV (tVar 1) (tOp (rEqA K) (tOp (rIxB K) (tOp (rIxB K) (tVar 0) (tC (.int 2))) (tC (.int 0))) (tC (.str "put")))))))
theorem c_row_after {K : PySem.W.Frag} : SS K (fun _ => t_row_after K) (fun _ => m_row_after) := by
  unfold t_row_after m_row_after 
  exact (S_seq (S_if (E_test (E_op O_eq (E_op O_ix (E_op O_ix (E_var 0) (E_int 2)) (E_int 0)) (E_str (by decide)))) (S_ret (E_bl false)) S_next)
    (S_ret ((E_orV (E_var 1) (E_op O_eq (E_op O_ix (E_op O_ix (E_var 0) (E_int 2)) (E_int 0)) (E_str (by decide)))))))
theorem len_row_after (K : PySem.W.Frag) : ∀ vs H Q E, sp_row_after K vs H Q E → vs.length = (["entry", "there"] : List Str).length := fun _ _ _ _ h => up_len h
theorem pure_row_after (K : PySem.W.Frag) (vs : List V) (H : Hp) (Q : VK) (E : XK) (h : sp_row_after K vs H Q E) : t_row_after K { nx := fun _ H' => Q .non H', rt := Q } (start ["entry", "there"] vs) H := up_run (tw := fun _ => t_row_after K) (c_row_after) (N := ["entry", "there"]) rfl h
def m_may_come : MS :=
  (mRet (mNotV (mCB nAny (mCons (mLc (mAny (mVar 1)) (hName 3) mYes (mOp nLt (mOp nIx (mOp nIx (mVar 0) (mVar 3)) (mC (.int 1))) (mOp nIx (mOp nIx (mVar 0) (mVar 2)) (mC (.int 0)))) [3]) mNil))))
def f_may_come : MP := dfn 4 3 (fun _ => m_may_come)
abbrev sp_may_come (K : PySem.W.Frag) : Sp := up K f_may_come
def t_may_come (K : PySem.W.Frag) : TS :=
  (tRet (tNotV (tCB (rAny K) (tCons (tLc (iSeq K (tVar 1)) (gName 3) tYes (tOp rLtA (tOp (rIxB K) (tOp (rIxB K) (tVar 0) (tVar 3)) (tC (.int 1))) (tOp (rIxB K) (tOp (rIxB K) (tVar 0) (tVar 2)) (tC (.int 0)))) [3]) tNil))))
theorem c_may_come {K : PySem.W.Frag} : SS K (fun _ => t_may_come K) (fun _ => m_may_come) := by
  unfold t_may_come m_may_come 
  exact (S_ret (E_notV (E_cb C_any (E_cons (E_lc (I_seq (E_var 1)) (V_name 3 (by decide)) E_yes (E_op O_lt (E_op O_ix (E_op O_ix (E_var 0) (E_var 3)) (E_int 1)) (E_op O_ix (E_op O_ix (E_var 0) (E_var 2)) (E_int 0)))) E_nil))))
theorem len_may_come (K : PySem.W.Frag) : ∀ vs H Q E, sp_may_come K vs H Q E → vs.length = (["entries", "left", "number"] : List Str).length := fun _ _ _ _ h => up_len h
theorem pure_may_come (K : PySem.W.Frag) (vs : List V) (H : Hp) (Q : VK) (E : XK) (h : sp_may_come K vs H Q E) : t_may_come K { nx := fun _ H' => Q .non H', rt := Q } (start ["entries", "left", "number", "other"] vs) H := up_run (tw := fun _ => t_may_come K) (c_may_come) (N := ["entries", "left", "number", "other"]) rfl h
def b_order_from_L1_1 (r : MP) : MS :=
  (mIfS ((mAnd (mB (mCall f_may_come (mCons (mVar 0) (mCons (mVar 1) (mCons (mVar 3) mNil))))) (mB (mCall f_fits_now (mCons (mOp nIx (mVar 0) (mVar 3)) (mCons (mOp nIn (mVar 4) (mVar 2)) mNil)))))) (mSeq (mAsg (mCell (mLc (mAny (mVar 2)) (hName 7) (mB (mOp nNe (mVar 7) (mVar 4))) (mVar 7) [7])) (hName 5))
    (mCut (mIfS (mB (mCall f_row_after (mCons (mOp nIx (mVar 0) (mVar 3)) (mCons (mOp nIn (mVar 4) (mVar 2)) mNil)))) (mDrop (mBM "list" nAppend (mVar 5) (mCons (mVar 4) mNil))) mNext)
    (mSeq (mAsg (mCall r (mCons (mVar 0) (mCons (mLc (mAny (mVar 1)) (hName 7) (mB (mOp nNe (mVar 7) (mVar 3))) (mVar 7) [7]) (mCons (mVar 5) mNil)))) (hName 6))
    (mIfS (mB (mOp nIsnt (mVar 6) (mC .non))) (mRet (mLst (mCons (mVar 3) (mStarA (mVar 6) mNil)))) mNext)))) mNext)
def l_order_from_1 (r : MP) : MS :=
  mSeq (mAsg (mOp nIx (mOp nIx (mOp nIx (mVar 0) (mVar 3)) (mC (.int 2))) (mC (.int 1))) (hName 4)) (b_order_from_L1_1 r)
def b_order_from_2 (r : MP) : MS :=
  (mRet (mC .non))
def b_order_from_1 (r : MP) : MS :=
  mSeq (mFor (mAny (mVar 1)) (hName 3) (l_order_from_1 r)) (b_order_from_2 r)
def m_order_from (r : MP) : MS :=
  mSeq (mIfS (mB (mOp nEq (mCB nLen (mCons (mVar 1) mNil)) (mC (.int 0)))) (mRet (mLst mNil)) mNext) (b_order_from_1 r)
def f_order_from : Nat → MP
  | 0 => fun _ _ _ _ => False
  | n + 1 => dfn 8 3 (fun _ => m_order_from (f_order_from n))
abbrev sp_order_from (K : PySem.W.Frag) (n : Nat) : Sp := up K (f_order_from n)
def t_order_from (K : PySem.W.Frag) (n : Nat) : TS :=
  (tSeq (tIfS (tTest (tOp (rEqA K) (tCB (rLenB K) (tCons (tVar 1) tNil)) (tC (.int 0)))) (tRet (tLst tNil)) tNext)
    (tSeq (tFor (iSeq K (tVar 1)) (gName 3) (tSeq (tAsg (tOp (rIxB K) (tOp (rIxB K) (tOp (rIxB K) (tVar 0) (tVar 3)) (tC (.int 2))) (tC (.int 1))) (gName 4))
    (tIfS ((tAnd (tB (tCall (sp_may_come K) [] E0 (tCons (tVar 0) (tCons (tVar 1) (tCons (tVar 3) tNil))))) (tB (tCall (sp_fits_now K) [] E0 (tCons (tOp (rIxB K) (tVar 0) (tVar 3)) (tCons (tOp (rInB K) (tVar 4) (tVar 2)) tNil)))))) (tSeq (tAsg (tLc (iSeq K (tVar 2)) (gName 7) (tTest (tOp (rNeA K) (tVar 7) (tVar 4))) (tVar 7) [7]) (gName 5))
    (tCut (tIfS (tB (tCall (sp_row_after K) [] E0 (tCons (tOp (rIxB K) (tVar 0) (tVar 3)) (tCons (tOp (rInB K) (tVar 4) (tVar 2)) tNil)))) (tDrop (tBMW K "list" rAppend (tVar 5) (tCons (tVar 4) tNil))) tNext)
    (tSeq (tAsg (tCall (sp_order_from K n) [] E0 (tCons (tVar 0) (tCons (tLc (iSeq K (tVar 1)) (gName 7) (tTest (tOp (rNeA K) (tVar 7) (tVar 3))) (tVar 7) [7]) (tCons (tVar 5) tNil)))) (gName 6))
    (tIfS (tTest (tOp rNotA (tVar 6) (tC .non))) (tRet (tLst (tCons (tVar 3) (tStarA K (tVar 6) tNil)))) tNext)))) tNext)))
    (tRet (tC .non))))
theorem c_order_from {K : PySem.W.Frag} (n : Nat) : SS K (fun _ => t_order_from K n) (fun _ => m_order_from (f_order_from n)) := by
  unfold t_order_from m_order_from b_order_from_1 b_order_from_2 l_order_from_1 b_order_from_L1_1
  exact (S_seq (S_if (E_test (E_op O_eq (E_cb C_len (E_cons (E_var 1) E_nil)) (E_int 0))) (S_ret (E_lst E_nil)) S_next)
    (S_seq (S_for (I_seq (E_var 1)) (G_name 3) (S_seq (S_asg (E_op O_ix (E_op O_ix (E_op O_ix (E_var 0) (E_var 3)) (E_int 2)) (E_int 1)) (G_name 4))
    (S_if ((E_and (E_B (E_call f_may_come (E_cons (E_var 0) (E_cons (E_var 1) (E_cons (E_var 3) E_nil))))) (E_B (E_call f_fits_now (E_cons (E_op O_ix (E_var 0) (E_var 3)) (E_cons (E_op O_in (E_var 4) (E_var 2)) E_nil)))))) (S_seq (S_asg (E_cell (N_lc (I_seq (E_var 2)) (V_name 7 (by decide)) (E_test (E_op O_ne (E_var 7) (E_var 4))) (E_var 7))) (G_name 5))
    (S_cut (S_if (E_B (E_call f_row_after (E_cons (E_op O_ix (E_var 0) (E_var 3)) (E_cons (E_op O_in (E_var 4) (E_var 2)) E_nil)))) (S_drop (E_bm M_append (E_var 5) (E_cons (E_var 4) E_nil))) S_next)
    (S_seq (S_asg (E_call (f_order_from n) (E_cons (E_var 0) (E_cons (E_lc (I_seq (E_var 1)) (V_name 7 (by decide)) (E_test (E_op O_ne (E_var 7) (E_var 3))) (E_var 7)) (E_cons (E_var 5) E_nil)))) (G_name 6))
    (S_if (E_test (E_op O_isnt (E_var 6) (E_non))) (S_ret (E_lst (E_cons (E_var 3) (E_starA (E_var 6) E_nil)))) S_next)))) S_next)))
    (S_ret (E_non))))
theorem len_order_from (K : PySem.W.Frag) : ∀ n vs H Q E, sp_order_from K n vs H Q E → vs.length = (["entries", "left", "there"] : List Str).length
  | 0, _, _, _, _, h => (up_no h).elim
  | _ + 1, _, _, _, _, h => up_len h
theorem pure_order_from (K : PySem.W.Frag) (n : Nat) (vs : List V) (H : Hp) (Q : VK) (E : XK) (h : sp_order_from K (n + 1) vs H Q E) : t_order_from K n { nx := fun _ H' => Q .non H', rt := Q } (start ["entries", "left", "there", "number", "key", "behind", "rest", "other"] vs) H := up_run (tw := fun _ => t_order_from K n) (c_order_from n) (N := ["entries", "left", "there", "number", "key", "behind", "rest", "other"]) rfl h
def m_serial_order (W : WD) : MS :=
  (mSeq (mDrop (mCallS f_need_history (mCons (mVar 0) mNil) W))
    (mSeq (mAsg (mVar 0) (hTup 2 (hCons (hName 1) (hCons (hName 2) hNil))))
    (mRet (mCall (f_order_from 9) (mCons (mVar 2) (mCons (mLstRg1 (mCB nLen (mCons (mVar 2) mNil))) (mCons (mVar 1) mNil)))))))
def f_serial_order : MP := dfn 3 1 (fun W => m_serial_order W)
abbrev sp_serial_order (K : PySem.W.Frag) : Sp := up K f_serial_order
def tw_serial_order (K : PySem.W.Frag) (W : WX) : TS :=
  (tSeq (tDrop (tCallS (sp_need_history K) (WE W) (tCons (tVar 0) tNil)))
    (tSeq (tAsg (tVar 0) (gTup K 2 (gCons (gName 1) (gCons (gName 2) gNil))))
    (tRet (tCall (sp_order_from K 9) [] E0 (tCons (tVar 2) (tCons (tLstRg (tRg1 (tCB (rLenB K) (tCons (tVar 2) tNil)))) (tCons (tVar 1) tNil)))))))
def t_serial_order (K : PySem.W.Frag) (E : XK) : TS := tw_serial_order K (fun cls d _ H => E cls d H)
theorem c_serial_order {K : PySem.W.Frag} : SS K (fun W => tw_serial_order K W) (fun W => m_serial_order W) := by
  unfold tw_serial_order m_serial_order 
  exact (S_seq (S_drop (E_callS f_need_history (E_cons (E_var 0) E_nil)))
    (S_seq (S_asg (E_var 0) (G_tup (G_cons (G_name 1) (G_cons (G_name 2) G_nil))))
    (S_ret (E_call (f_order_from 9) (E_cons (E_var 2) (E_cons (E_lstRg1 (E_cb C_len (E_cons (E_var 2) E_nil))) (E_cons (E_var 1) E_nil)))))))
theorem len_serial_order (K : PySem.W.Frag) : ∀ vs H Q E, sp_serial_order K vs H Q E → vs.length = (["history"] : List Str).length := fun _ _ _ _ h => up_len h
theorem pure_serial_order (K : PySem.W.Frag) (vs : List V) (H : Hp) (Q : VK) (E : XK) (h : sp_serial_order K vs H Q E) : t_serial_order K E { nx := fun _ H' => Q .non H', rt := Q } (start ["history", "keys", "entries"] vs) H := up_run (tw := fun W => tw_serial_order K W) (c_serial_order) (N := ["history", "keys", "entries"]) rfl h
def m_numbers_of : MS :=
  (mRet (mLc (mEnumA (mCons (mVar 0) mNil)) (hTup 2 (hCons (hName 2) (hCons (hName 3) hNil))) (mB (mOp nEq (mOp nIx (mOp nIx (mVar 3) (mC (.int 2))) (mC (.int 1))) (mVar 1))) (mVar 2) [2, 3]))
def f_numbers_of : MP := dfn 4 2 (fun _ => m_numbers_of)
abbrev sp_numbers_of (K : PySem.W.Frag) : Sp := up K f_numbers_of
def t_numbers_of (K : PySem.W.Frag) : TS :=
  (tRet (tLc (iEnumA K (tCons (tVar 0) tNil)) (gTup K 2 (gCons (gName 2) (gCons (gName 3) gNil))) (tTest (tOp (rEqA K) (tOp (rIxB K) (tOp (rIxB K) (tVar 3) (tC (.int 2))) (tC (.int 1))) (tVar 1))) (tVar 2) [2, 3]))
theorem c_numbers_of {K : PySem.W.Frag} : SS K (fun _ => t_numbers_of K) (fun _ => m_numbers_of) := by
  unfold t_numbers_of m_numbers_of 
  exact (S_ret (E_lc (I_enumA (E_cons (E_var 0) E_nil)) (V_tup (V_cons (V_name 2 (by decide)) (V_cons (V_name 3 (by decide)) V_nil))) (E_test (E_op O_eq (E_op O_ix (E_op O_ix (E_var 3) (E_int 2)) (E_int 1)) (E_var 1))) (E_var 2)))
theorem len_numbers_of (K : PySem.W.Frag) : ∀ vs H Q E, sp_numbers_of K vs H Q E → vs.length = (["entries", "key"] : List Str).length := fun _ _ _ _ h => up_len h
theorem pure_numbers_of (K : PySem.W.Frag) (vs : List V) (H : Hp) (Q : VK) (E : XK) (h : sp_numbers_of K vs H Q E) : t_numbers_of K { nx := fun _ H' => Q .non H', rt := Q } (start ["entries", "key", "number", "entry"] vs) H := up_run (tw := fun _ => t_numbers_of K) (c_numbers_of) (N := ["entries", "key", "number", "entry"]) rfl h
def m_bad_keys (W : WD) : MS :=
  (mSeq (mDrop (mCallS f_need_history (mCons (mVar 0) mNil) W))
    (mSeq (mAsg (mVar 0) (hTup 2 (hCons (hName 1) (hCons (hName 2) hNil))))
    (mSeq (mAsg (mSortSet (mLc (mAny (mVar 2)) (hName 4) mYes (mOp nIx (mOp nIx (mVar 4) (mC (.int 2))) (mC (.int 1))) [4])) (hName 3))
    (mRet (mLc (mAny (mVar 3)) (hName 5) (mB (mOp nIs (mCall (f_order_from 9) (mCons (mVar 2) (mCons (mCall f_numbers_of (mCons (mVar 2) (mCons (mVar 5) mNil))) (mCons (mVar 1) mNil)))) (mC .non))) (mVar 5) [5])))))
def f_bad_keys : MP := dfn 6 1 (fun W => m_bad_keys W)
abbrev sp_bad_keys (K : PySem.W.Frag) : Sp := up K f_bad_keys
def tw_bad_keys (K : PySem.W.Frag) (W : WX) : TS :=
  (tSeq (tDrop (tCallS (sp_need_history K) (WE W) (tCons (tVar 0) tNil)))
    (tSeq (tAsg (tVar 0) (gTup K 2 (gCons (gName 1) (gCons (gName 2) gNil))))
    (tSeq (tAsg (tSortSet K (tLc (iSeq K (tVar 2)) (gName 4) tYes (tOp (rIxB K) (tOp (rIxB K) (tVar 4) (tC (.int 2))) (tC (.int 1))) [4])) (gName 3))
    (tRet (tLc (iSeq K (tVar 3)) (gName 5) (tTest (tOp rIsA (tCall (sp_order_from K 9) [] E0 (tCons (tVar 2) (tCons (tCall (sp_numbers_of K) [] E0 (tCons (tVar 2) (tCons (tVar 5) tNil))) (tCons (tVar 1) tNil)))) (tC .non))) (tVar 5) [5])))))
def t_bad_keys (K : PySem.W.Frag) (E : XK) : TS := tw_bad_keys K (fun cls d _ H => E cls d H)
theorem c_bad_keys {K : PySem.W.Frag} : SS K (fun W => tw_bad_keys K W) (fun W => m_bad_keys W) := by
  unfold tw_bad_keys m_bad_keys 
  exact (S_seq (S_drop (E_callS f_need_history (E_cons (E_var 0) E_nil)))
    (S_seq (S_asg (E_var 0) (G_tup (G_cons (G_name 1) (G_cons (G_name 2) G_nil))))
    (S_seq (S_asg (E_sortSet (E_lc (I_seq (E_var 2)) (V_name 4 (by decide)) E_yes (E_op O_ix (E_op O_ix (E_var 4) (E_int 2)) (E_int 1)))) (G_name 3))
    (S_ret (E_lc (I_seq (E_var 3)) (V_name 5 (by decide)) (E_test (E_op O_is (E_call (f_order_from 9) (E_cons (E_var 2) (E_cons (E_call f_numbers_of (E_cons (E_var 2) (E_cons (E_var 5) E_nil))) (E_cons (E_var 1) E_nil)))) (E_non))) (E_var 5))))))
theorem len_bad_keys (K : PySem.W.Frag) : ∀ vs H Q E, sp_bad_keys K vs H Q E → vs.length = (["history"] : List Str).length := fun _ _ _ _ h => up_len h
theorem pure_bad_keys (K : PySem.W.Frag) (vs : List V) (H : Hp) (Q : VK) (E : XK) (h : sp_bad_keys K vs H Q E) : t_bad_keys K E { nx := fun _ H' => Q .non H', rt := Q } (start ["history", "keys", "entries", "wanted", "entry", "key"] vs) H := up_run (tw := fun W => tw_bad_keys K W) (c_bad_keys) (N := ["history", "keys", "entries", "wanted", "entry", "key"]) rfl h
def b_explains_history_L1_2 (W : WD) : MS :=
  (mAsg (mOp nAdd (mLc (mAny (mVar 4)) (hName 8) (mB (mOp nNe (mVar 8) (mVar 7))) (mVar 8) [8]) (mIf (mB (mCall f_row_after (mCons (mOp nIx (mVar 3) (mVar 6)) (mCons (mOp nIn (mVar 7) (mVar 4)) mNil)))) (mLst (mCons (mVar 7) mNil)) (mLst mNil))) (hName 4))
def b_explains_history_L1_1 (W : WD) : MS :=
  mSeq (mIfS ((mOr (mNot (mB (mCall f_may_come (mCons (mVar 3) (mCons (mSl nSl (mVar 1) (mPart (mVar 5)) mNoPart) (mCons (mVar 6) mNil)))))) (mNot (mB (mCall f_fits_now (mCons (mOp nIx (mVar 3) (mVar 6)) (mCons (mOp nIn (mVar 7) (mVar 4)) mNil))))))) (mRet (mC (.bl false))) mNext) (b_explains_history_L1_2 W)
def l_explains_history_1 (W : WD) : MS :=
  mSeq (mAsg (mOp nIx (mOp nIx (mOp nIx (mVar 3) (mVar 6)) (mC (.int 2))) (mC (.int 1))) (hName 7)) (b_explains_history_L1_1 W)
def b_explains_history_6 (W : WD) : MS :=
  (mRet (mC (.bl true)))
def b_explains_history_5 (W : WD) : MS :=
  mSeq (mFor (mEnumA (mCons (mVar 1) mNil)) (hTup 2 (hCons (hName 5) (hCons (hName 6) hNil))) (l_explains_history_1 W)) (b_explains_history_6 W)
def b_explains_history_4 (W : WD) : MS :=
  mSeq (mAsg (mCB nList (mCons (mVar 2) mNil)) (hName 4)) (b_explains_history_5 W)
def b_explains_history_3 (W : WD) : MS :=
  mSeq (mIfS (mB (mOp nNe (mCB nSortB (mCons (mVar 1) mNil)) (mLstRg1 (mCB nLen (mCons (mVar 3) mNil))))) (mRet (mC (.bl false))) mNext) (b_explains_history_4 W)
def b_explains_history_2 (W : WD) : MS :=
  mSeq (mIfS ((mOr (mNot (mB (mCB nIsi (mCons (mVar 1) (mCons (mC (.ty "list")) mNil))))) (mNot (mB (mCB nAll (mCons (mLc (mAny (mVar 1)) (hName 6) mYes (mCall f_is_integer (mCons (mVar 6) mNil)) [6]) mNil)))))) (mRet (mC (.bl false))) mNext) (b_explains_history_3 W)
def b_explains_history_1 (W : WD) : MS :=
  mSeq (mAsg (mVar 0) (hTup 2 (hCons (hName 2) (hCons (hName 3) hNil)))) (b_explains_history_2 W)
def m_explains_history (W : WD) : MS :=
  mSeq (mDrop (mCallS f_need_history (mCons (mVar 0) mNil) W)) (b_explains_history_1 W)
def f_explains_history : MP := dfn 9 2 (fun W => m_explains_history W)
abbrev sp_explains_history (K : PySem.W.Frag) : Sp := up K f_explains_history
def tw_explains_history (K : PySem.W.Frag) (W : WX) : TS :=
  (tSeq (tDrop (tCallS (sp_need_history K) (WE W) (tCons (tVar 0) tNil)))
    (tSeq (tAsg (tVar 0) (gTup K 2 (gCons (gName 2) (gCons (gName 3) gNil))))
    (tSeq (tIfS ((tOr (tNot (tB (tCB (rIsi K) (tCons (tVar 1) (tCons (tC (.ty "list")) tNil))))) (tNot (tB (tCB (rAll K) (tCons (tLc (iSeq K (tVar 1)) (gName 6) tYes (tCall (sp_is_integer K) [] E0 (tCons (tVar 6) tNil)) [6]) tNil)))))) (tRet (tC (.bl false))) tNext)
    (tSeq (tIfS (tTest (tOp (rNeA K) (tCB (rSortB K) (tCons (tVar 1) tNil)) (tLstRg (tRg1 (tCB (rLenB K) (tCons (tVar 3) tNil)))))) (tRet (tC (.bl false))) tNext)
    (tSeq (tAsg (tCB (rListA K) (tCons (tVar 2) tNil)) (gName 4))
    (tSeq (tFor (iEnumA K (tCons (tVar 1) tNil)) (gTup K 2 (gCons (gName 5) (gCons (gName 6) gNil))) (tSeq (tAsg (tOp (rIxB K) (tOp (rIxB K) (tOp (rIxB K) (tVar 3) (tVar 6)) (tC (.int 2))) (tC (.int 1))) (gName 7))
    (tSeq (tIfS ((tOr (tNot (tB (tCall (sp_may_come K) [] E0 (tCons (tVar 3) (tCons (tSl (rSlA K) (tVar 1) (tPart (tVar 5)) tNoPart) (tCons (tVar 6) tNil)))))) (tNot (tB (tCall (sp_fits_now K) [] E0 (tCons (tOp (rIxB K) (tVar 3) (tVar 6)) (tCons (tOp (rInB K) (tVar 7) (tVar 4)) tNil))))))) (tRet (tC (.bl false))) tNext)
    (tAsg (tOp (rAddA K) (tLc (iSeq K (tVar 4)) (gName 8) (tTest (tOp (rNeA K) (tVar 8) (tVar 7))) (tVar 8) [8]) (tIf (tB (tCall (sp_row_after K) [] E0 (tCons (tOp (rIxB K) (tVar 3) (tVar 6)) (tCons (tOp (rInB K) (tVar 7) (tVar 4)) tNil)))) (tLst (tCons (tVar 7) tNil)) (tLst tNil))) (gName 4)))))
    (tRet (tC (.bl true)))))))))
def t_explains_history (K : PySem.W.Frag) (E : XK) : TS := tw_explains_history K (fun cls d _ H => E cls d H)
theorem c_explains_history {K : PySem.W.Frag} : SS K (fun W => tw_explains_history K W) (fun W => m_explains_history W) := by
  unfold tw_explains_history m_explains_history b_explains_history_1 b_explains_history_2 b_explains_history_3 b_explains_history_4 b_explains_history_5 b_explains_history_6 l_explains_history_1 b_explains_history_L1_1 b_explains_history_L1_2
  exact (S_seq (S_drop (E_callS f_need_history (E_cons (E_var 0) E_nil)))
    (S_seq (S_asg (E_var 0) (G_tup (G_cons (G_name 2) (G_cons (G_name 3) G_nil))))
    (S_seq (S_if ((E_or (E_not (E_B (E_cb C_isi (E_cons (E_var 1) (E_cons (E_ty _) E_nil))))) (E_not (E_B (E_cb C_all (E_cons (E_lc (I_seq (E_var 1)) (V_name 6 (by decide)) E_yes (E_call f_is_integer (E_cons (E_var 6) E_nil))) E_nil)))))) (S_ret (E_bl false)) S_next)
    (S_seq (S_if (E_test (E_op O_ne (E_cb C_sortB (E_cons (E_var 1) E_nil)) (E_lstRg1 (E_cb C_len (E_cons (E_var 3) E_nil))))) (S_ret (E_bl false)) S_next)
    (S_seq (S_asg (E_cb C_list (E_cons (E_var 2) E_nil)) (G_name 4))
    (S_seq (S_for (I_enumA (E_cons (E_var 1) E_nil)) (G_tup (G_cons (G_name 5) (G_cons (G_name 6) G_nil))) (S_seq (S_asg (E_op O_ix (E_op O_ix (E_op O_ix (E_var 3) (E_var 6)) (E_int 2)) (E_int 1)) (G_name 7))
    (S_seq (S_if ((E_or (E_not (E_B (E_call f_may_come (E_cons (E_var 3) (E_cons (E_sl O_sl (E_var 1) (E_part (E_var 5)) E_nopart) (E_cons (E_var 6) E_nil)))))) (E_not (E_B (E_call f_fits_now (E_cons (E_op O_ix (E_var 3) (E_var 6)) (E_cons (E_op O_in (E_var 7) (E_var 4)) E_nil))))))) (S_ret (E_bl false)) S_next)
    (S_asg (E_op O_add (E_lc (I_seq (E_var 4)) (V_name 8 (by decide)) (E_test (E_op O_ne (E_var 8) (E_var 7))) (E_var 8)) (E_if (E_B (E_call f_row_after (E_cons (E_op O_ix (E_var 3) (E_var 6)) (E_cons (E_op O_in (E_var 7) (E_var 4)) E_nil)))) (E_lst (E_cons (E_var 7) E_nil)) (E_lst E_nil))) (G_name 4)))))
    (S_ret (E_bl true))))))))
theorem len_explains_history (K : PySem.W.Frag) : ∀ vs H Q E, sp_explains_history K vs H Q E → vs.length = (["history", "order"] : List Str).length := fun _ _ _ _ h => up_len h
theorem pure_explains_history (K : PySem.W.Frag) (vs : List V) (H : Hp) (Q : VK) (E : XK) (h : sp_explains_history K vs H Q E) : t_explains_history K E { nx := fun _ H' => Q .non H', rt := Q } (start ["history", "order", "keys", "entries", "there", "at", "number", "key", "other"] vs) H := up_run (tw := fun W => tw_explains_history K W) (c_explains_history) (N := ["history", "order", "keys", "entries", "there", "at", "number", "key", "other"]) rfl h
def b_merged_order_5 : MS :=
  (mRet (mVar 5))
def b_merged_order_4 : MS :=
  mSeq (mWhl (mB (mOp nGt (mCB nLen (mCons (mVar 3) mNil)) (mC (.int 0)))) (mSeq (mAsg (mLc (mAny (mVar 4)) (hName 8) (mB (mOp nGt (mCB nLen (mCons (mVar 8) mNil)) (mC (.int 0)))) (mOp nIx (mVar 8) (mC (.int 0))) [8]) (hName 6))
    (mSeq (mAsg (mOp nIx (mLc (mAny (mVar 6)) (hName 9) (mB (mCall f_may_come (mCons (mVar 2) (mCons (mVar 3) (mCons (mVar 9) mNil))))) (mVar 9) [9]) (mC (.int 0))) (hName 7))
    (mSeq (mDrop (mBM "list" nAppend (mVar 5) (mCons (mVar 7) mNil)))
    (mSeq (mDrop (mBM "list" nRemove (mVar 3) (mCons (mVar 7) mNil)))
    (mAsg (mLc (mAny (mVar 4)) (hName 8) mYes (mLc (mAny (mVar 8)) (hName 10) (mB (mOp nNe (mVar 10) (mVar 7))) (mVar 10) [10]) [8]) (hName 4))))))) b_merged_order_5
def b_merged_order_3 : MS :=
  mSeq (mAsg (mCell (mLst mNil)) (hName 5)) b_merged_order_4
def b_merged_order_2 : MS :=
  mSeq (mAsg (mLc (mAny (mVar 1)) (hName 8) mYes (mCB nList (mCons (mVar 8) mNil)) [8]) (hName 4)) b_merged_order_3
def b_merged_order_1 : MS :=
  mSeq (mAsg (mCell (mLstRg1 (mCB nLen (mCons (mVar 2) mNil)))) (hName 3)) b_merged_order_2
def m_merged_order : MS :=
  mSeq (mAsg (mOp nIx (mVar 0) (mC (.int 1))) (hName 2)) b_merged_order_1
def f_merged_order : MP := dfn 11 2 (fun _ => m_merged_order)
abbrev sp_merged_order (K : PySem.W.Frag) : Sp := up K f_merged_order
def t_merged_order (K : PySem.W.Frag) : TS :=
  (tSeq (tAsg (tOp (rIxB K) (tVar 0) (tC (.int 1))) (gName 2))
    (tSeq (tAsg (tLstRg (tRg1 (tCB (rLenB K) (tCons (tVar 2) tNil)))) (gName 3))
    (tSeq (tAsg (tLc (iSeq K (tVar 1)) (gName 8) tYes (tCB (rListA K) (tCons (tVar 8) tNil)) [8]) (gName 4))
    (tSeq (tAsg (tLst tNil) (gName 5))
    (tSeq (tWhile (tTest (tOp rGtA (tCB (rLenB K) (tCons (tVar 3) tNil)) (tC (.int 0)))) (tSeq (tAsg (tLc (iSeq K (tVar 4)) (gName 8) (tTest (tOp rGtA (tCB (rLenB K) (tCons (tVar 8) tNil)) (tC (.int 0)))) (tOp (rIxB K) (tVar 8) (tC (.int 0))) [8]) (gName 6))
    (tSeq (tAsg (tOp (rIxB K) (tLc (iSeq K (tVar 6)) (gName 9) (tB (tCall (sp_may_come K) [] E0 (tCons (tVar 2) (tCons (tVar 3) (tCons (tVar 9) tNil))))) (tVar 9) [9]) (tC (.int 0))) (gName 7))
    (tSeq (tDrop (tBMW K "list" rAppend (tVar 5) (tCons (tVar 7) tNil)))
    (tSeq (tDrop (tBMW K "list" rRemI (tVar 3) (tCons (tVar 7) tNil)))
    (tAsg (tLc (iSeq K (tVar 4)) (gName 8) tYes (tLc (iSeq K (tVar 8)) (gName 10) (tTest (tOp (rNeA K) (tVar 10) (tVar 7))) (tVar 10) [10]) [8]) (gName 4)))))))
    (tRet (tVar 5)))))))
theorem c_merged_order {K : PySem.W.Frag} : SS K (fun _ => t_merged_order K) (fun _ => m_merged_order) := by
  unfold t_merged_order m_merged_order b_merged_order_1 b_merged_order_2 b_merged_order_3 b_merged_order_4 b_merged_order_5
  exact (S_seq (S_asg (E_op O_ix (E_var 0) (E_int 1)) (G_name 2))
    (S_seq (S_asg (E_cell (N_lstRg1 (E_cb C_len (E_cons (E_var 2) E_nil)))) (G_name 3))
    (S_seq (S_asg (E_lc (I_seq (E_var 1)) (V_name 8 (by decide)) E_yes (E_cb C_list (E_cons (E_var 8) E_nil))) (G_name 4))
    (S_seq (S_asg (E_cell (N_lst E_nil)) (G_name 5))
    (S_seq (S_whl (E_test (E_op O_gt (E_cb C_len (E_cons (E_var 3) E_nil)) (E_int 0))) (S_seq (S_asg (E_lc (I_seq (E_var 4)) (V_name 8 (by decide)) (E_test (E_op O_gt (E_cb C_len (E_cons (E_var 8) E_nil)) (E_int 0))) (E_op O_ix (E_var 8) (E_int 0))) (G_name 6))
    (S_seq (S_asg (E_op O_ix (E_lc (I_seq (E_var 6)) (V_name 9 (by decide)) (E_B (E_call f_may_come (E_cons (E_var 2) (E_cons (E_var 3) (E_cons (E_var 9) E_nil))))) (E_var 9)) (E_int 0)) (G_name 7))
    (S_seq (S_drop (E_bm M_append (E_var 5) (E_cons (E_var 7) E_nil)))
    (S_seq (S_drop (E_bm M_remove (E_var 3) (E_cons (E_var 7) E_nil)))
    (S_asg (E_lc (I_seq (E_var 4)) (V_name 8 (by decide)) E_yes (E_lc (I_seq (E_var 8)) (V_name 10 (by decide)) (E_test (E_op O_ne (E_var 10) (E_var 7))) (E_var 10))) (G_name 4)))))))
    (S_ret (E_var 5)))))))
theorem len_merged_order (K : PySem.W.Frag) : ∀ vs H Q E, sp_merged_order K vs H Q E → vs.length = (["history", "orders"] : List Str).length := fun _ _ _ _ h => up_len h
theorem pure_merged_order (K : PySem.W.Frag) (vs : List V) (H : Hp) (Q : VK) (E : XK) (h : sp_merged_order K vs H Q E) : t_merged_order K { nx := fun _ H' => Q .non H', rt := Q } (start ["history", "orders", "entries", "left", "rows", "found", "heads", "number", "row", "head", "other"] vs) H := up_run (tw := fun _ => t_merged_order K) (c_merged_order) (N := ["history", "orders", "entries", "left", "rows", "found", "heads", "number", "row", "head", "other"]) rfl h
def m_order_by_keys (W : WD) : MS :=
  (mSeq (mDrop (mCallS f_need_history (mCons (mVar 0) mNil) W))
    (mSeq (mAsg (mVar 0) (hTup 2 (hCons (hName 1) (hCons (hName 2) hNil))))
    (mSeq (mAsg (mSortSet (mLc (mAny (mVar 2)) (hName 5) mYes (mOp nIx (mOp nIx (mVar 5) (mC (.int 2))) (mC (.int 1))) [5])) (hName 3))
    (mSeq (mAsg (mLc (mAny (mVar 3)) (hName 6) mYes (mCall (f_order_from 9) (mCons (mVar 2) (mCons (mCall f_numbers_of (mCons (mVar 2) (mCons (mVar 6) mNil))) (mCons (mVar 1) mNil)))) [6]) (hName 4))
    (mRet (mIf (mB (mOp nIn (mC .non) (mVar 4))) (mC .non) (mCall f_merged_order (mCons (mVar 0) (mCons (mVar 4) mNil)))))))))
def f_order_by_keys : MP := dfn 7 1 (fun W => m_order_by_keys W)
abbrev sp_order_by_keys (K : PySem.W.Frag) : Sp := up K f_order_by_keys
def tw_order_by_keys (K : PySem.W.Frag) (W : WX) : TS :=
  (tSeq (tDrop (tCallS (sp_need_history K) (WE W) (tCons (tVar 0) tNil)))
    (tSeq (tAsg (tVar 0) (gTup K 2 (gCons (gName 1) (gCons (gName 2) gNil))))
    (tSeq (tAsg (tSortSet K (tLc (iSeq K (tVar 2)) (gName 5) tYes (tOp (rIxB K) (tOp (rIxB K) (tVar 5) (tC (.int 2))) (tC (.int 1))) [5])) (gName 3))
    (tSeq (tAsg (tLc (iSeq K (tVar 3)) (gName 6) tYes (tCall (sp_order_from K 9) [] E0 (tCons (tVar 2) (tCons (tCall (sp_numbers_of K) [] E0 (tCons (tVar 2) (tCons (tVar 6) tNil))) (tCons (tVar 1) tNil)))) [6]) (gName 4))
    (tRet (tIf (tTest (tOp (rInB K) (tC .non) (tVar 4))) (tC .non) (tCall (sp_merged_order K) [] E0 (tCons (tVar 0) (tCons (tVar 4) tNil)))))))))
def t_order_by_keys (K : PySem.W.Frag) (E : XK) : TS := tw_order_by_keys K (fun cls d _ H => E cls d H)
theorem c_order_by_keys {K : PySem.W.Frag} : SS K (fun W => tw_order_by_keys K W) (fun W => m_order_by_keys W) := by
  unfold tw_order_by_keys m_order_by_keys 
  exact (S_seq (S_drop (E_callS f_need_history (E_cons (E_var 0) E_nil)))
    (S_seq (S_asg (E_var 0) (G_tup (G_cons (G_name 1) (G_cons (G_name 2) G_nil))))
    (S_seq (S_asg (E_sortSet (E_lc (I_seq (E_var 2)) (V_name 5 (by decide)) E_yes (E_op O_ix (E_op O_ix (E_var 5) (E_int 2)) (E_int 1)))) (G_name 3))
    (S_seq (S_asg (E_lc (I_seq (E_var 3)) (V_name 6 (by decide)) E_yes (E_call (f_order_from 9) (E_cons (E_var 2) (E_cons (E_call f_numbers_of (E_cons (E_var 2) (E_cons (E_var 6) E_nil))) (E_cons (E_var 1) E_nil))))) (G_name 4))
    (S_ret (E_if (E_test (E_op O_in (E_non) (E_var 4))) (E_non) (E_call f_merged_order (E_cons (E_var 0) (E_cons (E_var 4) E_nil)))))))))
theorem len_order_by_keys (K : PySem.W.Frag) : ∀ vs H Q E, sp_order_by_keys K vs H Q E → vs.length = (["history"] : List Str).length := fun _ _ _ _ h => up_len h
theorem pure_order_by_keys (K : PySem.W.Frag) (vs : List V) (H : Hp) (Q : VK) (E : XK) (h : sp_order_by_keys K vs H Q E) : t_order_by_keys K E { nx := fun _ H' => Q .non H', rt := Q } (start ["history", "keys", "entries", "wanted", "orders", "entry", "key"] vs) H := up_run (tw := fun W => tw_order_by_keys K W) (c_order_by_keys) (N := ["history", "keys", "entries", "wanted", "orders", "entry", "key"]) rfl h
def m_law_cell : MS :=
  (mRet (mIf (mB (mOp nLt (mVar 1) (mCB nLen (mCons (mVar 0) mNil)))) (mOp nIx (mVar 0) (mVar 1)) (mOp nAdd (mOp nMul (mC (.int 8461)) (mVar 1)) (mOp nMod (mCB nInt (mCons (mCB nSum (mCons (mSl nSl (mVar 0) mNoPart (mPart (mC (.int 1)))) mNil)) mNil)) (mC (.int 1000003))))))
def f_law_cell : MP := dfn 2 2 (fun _ => m_law_cell)
abbrev sp_law_cell (K : PySem.W.Frag) : Sp := up K f_law_cell
def t_law_cell (K : PySem.W.Frag) : TS :=
  (tRet (tIf (tTest (tOp rLtA (tVar 1) (tCB (rLenB K) (tCons (tVar 0) tNil)))) (tOp (rIxB K) (tVar 0) (tVar 1)) (tOp (rAddA K) (tOp rMulA (tC (.int 8461)) (tVar 1)) (tOp rModA (tCB rIntA (tCons (tCB (rSum K) (tCons (tSl (rSlA K) (tVar 0) tNoPart (tPart (tC (.int 1)))) tNil)) tNil)) (tC (.int 1000003))))))
theorem c_law_cell {K : PySem.W.Frag} : SS K (fun _ => t_law_cell K) (fun _ => m_law_cell) := by
  unfold t_law_cell m_law_cell 
  exact (S_ret (E_if (E_test (E_op O_lt (E_var 1) (E_cb C_len (E_cons (E_var 0) E_nil)))) (E_op O_ix (E_var 0) (E_var 1)) (E_op O_add (E_op O_mul (E_int 8461) (E_var 1)) (E_op O_mod (E_cb C_int (E_cons (E_cb C_sum (E_cons (E_sl O_sl (E_var 0) E_nopart (E_part (E_int 1))) E_nil)) E_nil)) (E_int 1000003)))))
theorem len_law_cell (K : PySem.W.Frag) : ∀ vs H Q E, sp_law_cell K vs H Q E → vs.length = (["script", "k"] : List Str).length := fun _ _ _ _ h => up_len h
theorem pure_law_cell (K : PySem.W.Frag) (vs : List V) (H : Hp) (Q : VK) (E : XK) (h : sp_law_cell K vs H Q E) : t_law_cell K { nx := fun _ H' => Q .non H', rt := Q } (start ["script", "k"] vs) H := up_run (tw := fun _ => t_law_cell K) (c_law_cell) (N := ["script", "k"]) rfl h
def m_law_box : MS :=
  (mRet (mCell (mLst (mCons (mCB nAbs (mCons (mVar 0) mNil)) (mCons (mOp nGe (mCB nAbs (mCons (mVar 0) mNil)) (mOp nPow (mC (.int 10)) (mC (.int 18)))) (mCons (mOp nMod (mCB nInt (mCons (mCB nAbs (mCons (mVar 0) mNil)) mNil)) (mC (.int 2147483629))) (mCons (mC (.int 0)) mNil)))))))
def f_law_box : MP := dfn 1 1 (fun _ => m_law_box)
abbrev sp_law_box (K : PySem.W.Frag) : Sp := up K f_law_box
def t_law_box (K : PySem.W.Frag) : TS :=
  (tRet (tLst (tCons (tCB rAbsA (tCons (tVar 0) tNil)) (tCons (tOp rGeA (tCB rAbsA (tCons (tVar 0) tNil)) (tOp rPowA (tC (.int 10)) (tC (.int 18)))) (tCons (tOp rModA (tCB rIntA (tCons (tCB rAbsA (tCons (tVar 0) tNil)) tNil)) (tC (.int 2147483629))) (tCons (tC (.int 0)) tNil))))))
theorem c_law_box {K : PySem.W.Frag} : SS K (fun _ => t_law_box K) (fun _ => m_law_box) := by
  unfold t_law_box m_law_box 
  exact (S_ret (E_cell (N_lst (E_cons (E_cb C_abs (E_cons (E_var 0) E_nil)) (E_cons (E_op O_ge (E_cb C_abs (E_cons (E_var 0) E_nil)) (E_op O_pow (E_int 10) (E_int 18))) (E_cons (E_op O_mod (E_cb C_int (E_cons (E_cb C_abs (E_cons (E_var 0) E_nil)) E_nil)) (E_int 2147483629)) (E_cons (E_int 0) E_nil)))))))
theorem len_law_box (K : PySem.W.Frag) : ∀ vs H Q E, sp_law_box K vs H Q E → vs.length = (["great"] : List Str).length := fun _ _ _ _ h => up_len h
theorem pure_law_box (K : PySem.W.Frag) (vs : List V) (H : Hp) (Q : VK) (E : XK) (h : sp_law_box K vs H Q E) : t_law_box K { nx := fun _ H' => Q .non H', rt := Q } (start ["great"] vs) H := up_run (tw := fun _ => t_law_box K) (c_law_box) (N := ["great"]) rfl h
def m_law_take : MS :=
  (mSeq (mIfS ((mAnd (mB (mOp nIx (mVar 0) (mC (.int 1)))) (mB (mOp nGt (mOp nIx (mVar 0) (mC (.int 0))) (mC (.int 0)))))) (mSeq (mAsg (mOp nMod (mCB nInt (mCons (mOp nIx (mVar 0) (mC (.int 0))) mNil)) (mVar 1)) (hName 2))
    (mSeq (mAsg (mOp nDiv (mOp nIx (mVar 0) (mC (.int 0))) (mVar 1)) (hSub (mVar 0) (mC (.int 0)) nSet))
    (mRet (mVar 2)))) mNext)
    (mSeq (mAsg (mOp nAdd (mOp nIx (mVar 0) (mC (.int 3))) (mC (.int 1))) (hSub (mVar 0) (mC (.int 3)) nSet))
    (mSeq (mAsg (mOp nMod (mCB nInt (mCons (mOp nPow (mOp nAdd (mOp nAdd (mOp nIx (mVar 0) (mC (.int 2))) (mOp nMul (mC (.int 15503303)) (mOp nIx (mVar 0) (mC (.int 3))))) (mC (.int 179476197))) (mC (.int 5))) mNil)) (mC (.int 2147483647))) (hName 3))
    (mRet (mOp nMod (mCB nInt (mCons (mOp nDiv (mOp nMod (mCB nInt (mCons (mOp nPow (mOp nAdd (mOp nMul (mVar 3) (mC (.int 48271))) (mOp nMul (mC (.int 8461)) (mOp nIx (mVar 0) (mC (.int 3))))) (mC (.int 3))) mNil)) (mC (.int 2147483587))) (mC (.int 64))) mNil)) (mVar 1))))))
def f_law_take : MP := dfn 4 2 (fun _ => m_law_take)
abbrev sp_law_take (K : PySem.W.Frag) : Sp := up K f_law_take
def t_law_take (K : PySem.W.Frag) : TS :=
  (tSeq (tIfS ((tAnd (tB (tOp (rIxB K) (tVar 0) (tC (.int 1)))) (tTest (tOp rGtA (tOp (rIxB K) (tVar 0) (tC (.int 0))) (tC (.int 0)))))) (tSeq (tAsg (tOp rModA (tCB rIntA (tCons (tOp (rIxB K) (tVar 0) (tC (.int 0))) tNil)) (tVar 1)) (gName 2))
    (tSeq (tAsg (tOp rDivA (tOp (rIxB K) (tVar 0) (tC (.int 0))) (tVar 1)) (gSub (tVar 0) (tC (.int 0)) rSetB))
    (tRet (tVar 2)))) tNext)
    (tSeq (tAsg (tOp (rAddA K) (tOp (rIxB K) (tVar 0) (tC (.int 3))) (tC (.int 1))) (gSub (tVar 0) (tC (.int 3)) rSetB))
    (tSeq (tAsg (tOp rModA (tCB rIntA (tCons (tOp rPowA (tOp (rAddA K) (tOp (rAddA K) (tOp (rIxB K) (tVar 0) (tC (.int 2))) (tOp rMulA (tC (.int 15503303)) (tOp (rIxB K) (tVar 0) (tC (.int 3))))) (tC (.int 179476197))) (tC (.int 5))) tNil)) (tC (.int 2147483647))) (gName 3))
    (tRet (tOp rModA (tCB rIntA (tCons (tOp rDivA (tOp rModA (tCB rIntA (tCons (tOp rPowA (tOp (rAddA K) (tOp rMulA (tVar 3) (tC (.int 48271))) (tOp rMulA (tC (.int 8461)) (tOp (rIxB K) (tVar 0) (tC (.int 3))))) (tC (.int 3))) tNil)) (tC (.int 2147483587))) (tC (.int 64))) tNil)) (tVar 1))))))
theorem c_law_take {K : PySem.W.Frag} : SS K (fun _ => t_law_take K) (fun _ => m_law_take) := by
  unfold t_law_take m_law_take 
  exact (S_seq (S_if ((E_and (E_B (E_op O_ix (E_var 0) (E_int 1))) (E_test (E_op O_gt (E_op O_ix (E_var 0) (E_int 0)) (E_int 0))))) (S_seq (S_asg (E_op O_mod (E_cb C_int (E_cons (E_op O_ix (E_var 0) (E_int 0)) E_nil)) (E_var 1)) (G_name 2))
    (S_seq (S_asg (E_op O_div (E_op O_ix (E_var 0) (E_int 0)) (E_var 1)) (G_sub O_set (E_var 0) (E_int 0)))
    (S_ret (E_var 2)))) S_next)
    (S_seq (S_asg (E_op O_add (E_op O_ix (E_var 0) (E_int 3)) (E_int 1)) (G_sub O_set (E_var 0) (E_int 3)))
    (S_seq (S_asg (E_op O_mod (E_cb C_int (E_cons (E_op O_pow (E_op O_add (E_op O_add (E_op O_ix (E_var 0) (E_int 2)) (E_op O_mul (E_int 15503303) (E_op O_ix (E_var 0) (E_int 3)))) (E_int 179476197)) (E_int 5)) E_nil)) (E_int 2147483647)) (G_name 3))
    (S_ret (E_op O_mod (E_cb C_int (E_cons (E_op O_div (E_op O_mod (E_cb C_int (E_cons (E_op O_pow (E_op O_add (E_op O_mul (E_var 3) (E_int 48271)) (E_op O_mul (E_int 8461) (E_op O_ix (E_var 0) (E_int 3)))) (E_int 3)) E_nil)) (E_int 2147483587)) (E_int 64)) E_nil)) (E_var 1))))))
theorem len_law_take (K : PySem.W.Frag) : ∀ vs H Q E, sp_law_take K vs H Q E → vs.length = (["box", "many"] : List Str).length := fun _ _ _ _ h => up_len h
theorem pure_law_take (K : PySem.W.Frag) (vs : List V) (H : Hp) (Q : VK) (E : XK) (h : sp_law_take K vs H Q E) : t_law_take K { nx := fun _ H' => Q .non H', rt := Q } (start ["box", "many", "digit", "mixed"] vs) H := up_run (tw := fun _ => t_law_take K) (c_law_take) (N := ["box", "many", "digit", "mixed"]) rfl h
def m_law_mixed : MS :=
  (mSeq (mPar 2 3 (mCons (mCell (mCB nList (mCons (mVar 1) mNil))) (mCons (mCell (mLst mNil)) mNil)))
    (mSeq (mWhl (mB (mOp nNe (mVar 2) (mLst mNil))) (mDrop (mBM "list" nAppend (mVar 3) (mCons (mBM "list" nPop (mVar 2) (mCons (mCall f_law_take (mCons (mVar 0) (mCons (mCB nLen (mCons (mVar 2) mNil)) mNil))) mNil)) mNil))))
    (mRet (mVar 3))))
def f_law_mixed : MP := dfn 4 2 (fun _ => m_law_mixed)
abbrev sp_law_mixed (K : PySem.W.Frag) : Sp := up K f_law_mixed
def t_law_mixed (K : PySem.W.Frag) : TS :=
  (tSeq (tPar 2 3 (tCons (tCB (rListA K) (tCons (tVar 1) tNil)) (tCons (tLst tNil) tNil)))
    (tSeq (tWhile (tTest (tOp (rNeA K) (tVar 2) (tLst tNil))) (tDrop (tBMW K "list" rAppend (tVar 3) (tCons (tBMW K "list" rPopA (tVar 2) (tCons (tCall (sp_law_take K) [] E0 (tCons (tVar 0) (tCons (tCB (rLenB K) (tCons (tVar 2) tNil)) tNil))) tNil)) tNil))))
    (tRet (tVar 3))))
theorem c_law_mixed {K : PySem.W.Frag} : SS K (fun _ => t_law_mixed K) (fun _ => m_law_mixed) := by
  unfold t_law_mixed m_law_mixed 
  exact (S_seq (S_par (E_cons (E_cell (N_list (E_cons (E_var 1) E_nil))) (E_cons (E_cell (N_lst E_nil)) E_nil)))
    (S_seq (S_whl (E_test (E_op O_ne (E_var 2) (E_lst E_nil))) (S_drop (E_bm M_append (E_var 3) (E_cons (E_bm M_pop (E_var 2) (E_cons (E_call f_law_take (E_cons (E_var 0) (E_cons (E_cb C_len (E_cons (E_var 2) E_nil)) E_nil))) E_nil)) E_nil))))
    (S_ret (E_var 3))))
theorem len_law_mixed (K : PySem.W.Frag) : ∀ vs H Q E, sp_law_mixed K vs H Q E → vs.length = (["box", "items"] : List Str).length := fun _ _ _ _ h => up_len h
theorem pure_law_mixed (K : PySem.W.Frag) (vs : List V) (H : Hp) (Q : VK) (E : XK) (h : sp_law_mixed K vs H Q E) : t_law_mixed K { nx := fun _ H' => Q .non H', rt := Q } (start ["box", "items", "left", "found"] vs) H := up_run (tw := fun _ => t_law_mixed K) (c_law_mixed) (N := ["box", "items", "left", "found"]) rfl h
def m_law_same (r : MP) : MS :=
  (mSeq (mIfS ((mOr (mB (mOp nIs (mVar 1) (mC .non))) (mB (mCB nIsi (mCons (mVar 1) (mCons (mC (.ty "bool")) mNil)))))) (mRet (mIf (mB (mOp nIs (mVar 1) (mC .non))) (mOp nIs (mVar 0) (mC .non)) ((mAndV (mCB nIsi (mCons (mVar 0) (mCons (mC (.ty "bool")) mNil))) (mOp nEq (mOp nIs (mVar 0) (mC (.bl true))) (mOp nIs (mVar 1) (mC (.bl true)))))))) mNext)
    (mSeq (mIfS (mB (mCB nIsi (mCons (mVar 1) (mCons (mC (.ty "int")) mNil)))) (mRet ((mAndV (mCB nIsi (mCons (mVar 0) (mCons (mC (.ty "int")) mNil))) (mAndV (mNotV (mCB nIsi (mCons (mVar 0) (mCons (mC (.ty "bool")) mNil)))) (mOp nEq (mOp nSub (mCB nInt (mCons (mVar 0) mNil)) (mVar 1)) (mC (.int 0))))))) mNext)
    (mSeq (mIfS (mB (mCB nIsi (mCons (mVar 1) (mCons (mC (.ty "str")) mNil)))) (mRet ((mAndV (mCB nIsi (mCons (mVar 0) (mCons (mC (.ty "str")) mNil))) (mAndV (mOp nEq (mCB nLen (mCons (mVar 0) mNil)) (mCB nLen (mCons (mVar 1) mNil))) (mOp nEq (mLc (mRng1 (mCons (mCB nLen (mCons (mVar 1) mNil)) mNil)) (hName 2) (mB (mOp nNe (mSl nSl (mVar 0) (mPart (mVar 2)) (mPart (mOp nAdd (mVar 2) (mC (.int 1))))) (mOp nIx (mVar 1) (mVar 2)))) (mVar 2) [2]) (mLst mNil)))))) mNext)
    (mSeq (mIfS ((mOr (mB (mOp nNe (mCB nIsi (mCons (mVar 0) (mCons (mC (.ty "list")) mNil))) (mCB nIsi (mCons (mVar 1) (mCons (mC (.ty "list")) mNil))))) (mB (mOp nNe (mCB nIsi (mCons (mVar 0) (mCons (mC (.ty "tuple")) mNil))) (mCB nIsi (mCons (mVar 1) (mCons (mC (.ty "tuple")) mNil))))))) (mRet (mC (.bl false))) mNext)
    (mRet ((mAndV (mOp nEq (mCB nLen (mCons (mVar 0) mNil)) (mCB nLen (mCons (mVar 1) mNil))) (mOp nEq (mLc (mRng1 (mCons (mCB nLen (mCons (mVar 1) mNil)) mNil)) (hName 2) (mNot (mB (mCall r (mCons (mOp nIx (mVar 0) (mVar 2)) (mCons (mOp nIx (mVar 1) (mVar 2)) mNil))))) (mVar 2) [2]) (mLst mNil)))))))))
def f_law_same : Nat → MP
  | 0 => fun _ _ _ _ => False
  | n + 1 => dfn 3 2 (fun _ => m_law_same (f_law_same n))
abbrev sp_law_same (K : PySem.W.Frag) (n : Nat) : Sp := up K (f_law_same n)
def t_law_same (K : PySem.W.Frag) (n : Nat) : TS :=
  (tSeq (tIfS ((tOr (tTest (tOp rIsA (tVar 1) (tC .non))) (tB (tCB (rIsi K) (tCons (tVar 1) (tCons (tC (.ty "bool")) tNil)))))) (tRet (tIf (tTest (tOp rIsA (tVar 1) (tC .non))) (tOp rIsA (tVar 0) (tC .non)) ((tAndV (tCB (rIsi K) (tCons (tVar 0) (tCons (tC (.ty "bool")) tNil))) (tOp (rEqA K) (tOp rIsA (tVar 0) (tC (.bl true))) (tOp rIsA (tVar 1) (tC (.bl true)))))))) tNext)
    (tSeq (tIfS (tB (tCB (rIsi K) (tCons (tVar 1) (tCons (tC (.ty "int")) tNil)))) (tRet ((tAndV (tCB (rIsi K) (tCons (tVar 0) (tCons (tC (.ty "int")) tNil))) (tAndV (tNotV (tCB (rIsi K) (tCons (tVar 0) (tCons (tC (.ty "bool")) tNil)))) (tOp (rEqA K) (tOp rSubA (tCB rIntA (tCons (tVar 0) tNil)) (tVar 1)) (tC (.int 0))))))) tNext)
    (tSeq (tIfS (tB (tCB (rIsi K) (tCons (tVar 1) (tCons (tC (.ty "str")) tNil)))) (tRet ((tAndV (tCB (rIsi K) (tCons (tVar 0) (tCons (tC (.ty "str")) tNil))) (tAndV (tOp (rEqA K) (tCB (rLenB K) (tCons (tVar 0) tNil)) (tCB (rLenB K) (tCons (tVar 1) tNil))) (tOp (rEqA K) (tLc (iRng1 (tCons (tCB (rLenB K) (tCons (tVar 1) tNil)) tNil)) (gName 2) (tTest (tOp (rNeA K) (tSl (rSlA K) (tVar 0) (tPart (tVar 2)) (tPart (tOp (rAddA K) (tVar 2) (tC (.int 1))))) (tOp (rIxB K) (tVar 1) (tVar 2)))) (tVar 2) [2]) (tLst tNil)))))) tNext)
    (tSeq (tIfS ((tOr (tTest (tOp (rNeA K) (tCB (rIsi K) (tCons (tVar 0) (tCons (tC (.ty "list")) tNil))) (tCB (rIsi K) (tCons (tVar 1) (tCons (tC (.ty "list")) tNil))))) (tTest (tOp (rNeA K) (tCB (rIsi K) (tCons (tVar 0) (tCons (tC (.ty "tuple")) tNil))) (tCB (rIsi K) (tCons (tVar 1) (tCons (tC (.ty "tuple")) tNil))))))) (tRet (tC (.bl false))) tNext)
    (tRet ((tAndV (tOp (rEqA K) (tCB (rLenB K) (tCons (tVar 0) tNil)) (tCB (rLenB K) (tCons (tVar 1) tNil))) (tOp (rEqA K) (tLc (iRng1 (tCons (tCB (rLenB K) (tCons (tVar 1) tNil)) tNil)) (gName 2) (tNot (tB (tCall (sp_law_same K n) [] E0 (tCons (tOp (rIxB K) (tVar 0) (tVar 2)) (tCons (tOp (rIxB K) (tVar 1) (tVar 2)) tNil))))) (tVar 2) [2]) (tLst tNil)))))))))
theorem c_law_same {K : PySem.W.Frag} (n : Nat) : SS K (fun _ => t_law_same K n) (fun _ => m_law_same (f_law_same n)) := by
  unfold t_law_same m_law_same 
  exact (S_seq (S_if ((E_or (E_test (E_op O_is (E_var 1) (E_non))) (E_B (E_cb C_isi (E_cons (E_var 1) (E_cons (E_ty _) E_nil)))))) (S_ret (E_if (E_test (E_op O_is (E_var 1) (E_non))) (E_op O_is (E_var 0) (E_non)) ((E_andV (E_cb C_isi (E_cons (E_var 0) (E_cons (E_ty _) E_nil))) (E_op O_eq (E_op O_is (E_var 0) (E_bl true)) (E_op O_is (E_var 1) (E_bl true))))))) S_next)
    (S_seq (S_if (E_B (E_cb C_isi (E_cons (E_var 1) (E_cons (E_ty _) E_nil)))) (S_ret ((E_andV (E_cb C_isi (E_cons (E_var 0) (E_cons (E_ty _) E_nil))) (E_andV (E_notV (E_cb C_isi (E_cons (E_var 0) (E_cons (E_ty _) E_nil)))) (E_op O_eq (E_op O_sub (E_cb C_int (E_cons (E_var 0) E_nil)) (E_var 1)) (E_int 0)))))) S_next)
    (S_seq (S_if (E_B (E_cb C_isi (E_cons (E_var 1) (E_cons (E_ty _) E_nil)))) (S_ret ((E_andV (E_cb C_isi (E_cons (E_var 0) (E_cons (E_ty _) E_nil))) (E_andV (E_op O_eq (E_cb C_len (E_cons (E_var 0) E_nil)) (E_cb C_len (E_cons (E_var 1) E_nil))) (E_op O_eq (E_lc (I_rng1 (E_cons (E_cb C_len (E_cons (E_var 1) E_nil)) E_nil)) (V_name 2 (by decide)) (E_test (E_op O_ne (E_sl O_sl (E_var 0) (E_part (E_var 2)) (E_part (E_op O_add (E_var 2) (E_int 1)))) (E_op O_ix (E_var 1) (E_var 2)))) (E_var 2)) (E_lst E_nil)))))) S_next)
    (S_seq (S_if ((E_or (E_test (E_op O_ne (E_cb C_isi (E_cons (E_var 0) (E_cons (E_ty _) E_nil))) (E_cb C_isi (E_cons (E_var 1) (E_cons (E_ty _) E_nil))))) (E_test (E_op O_ne (E_cb C_isi (E_cons (E_var 0) (E_cons (E_ty _) E_nil))) (E_cb C_isi (E_cons (E_var 1) (E_cons (E_ty _) E_nil))))))) (S_ret (E_bl false)) S_next)
    (S_ret ((E_andV (E_op O_eq (E_cb C_len (E_cons (E_var 0) E_nil)) (E_cb C_len (E_cons (E_var 1) E_nil))) (E_op O_eq (E_lc (I_rng1 (E_cons (E_cb C_len (E_cons (E_var 1) E_nil)) E_nil)) (V_name 2 (by decide)) (E_not (E_B (E_call (f_law_same n) (E_cons (E_op O_ix (E_var 0) (E_var 2)) (E_cons (E_op O_ix (E_var 1) (E_var 2)) E_nil))))) (E_var 2)) (E_lst E_nil)))))))))
theorem len_law_same (K : PySem.W.Frag) : ∀ n vs H Q E, sp_law_same K n vs H Q E → vs.length = (["given", "due"] : List Str).length
  | 0, _, _, _, _, h => (up_no h).elim
  | _ + 1, _, _, _, _, h => up_len h
theorem pure_law_same (K : PySem.W.Frag) (n : Nat) (vs : List V) (H : Hp) (Q : VK) (E : XK) (h : sp_law_same K (n + 1) vs H Q E) : t_law_same K n { nx := fun _ H' => Q .non H', rt := Q } (start ["given", "due", "k"] vs) H := up_run (tw := fun _ => t_law_same K n) (c_law_same n) (N := ["given", "due", "k"]) rfl h
def m_law_copy (r : MP) : MS :=
  (mSeq (mIfS (mB (mCB nIsi (mCons (mVar 0) (mCons (mC (.ty "list")) mNil)))) (mRet (mLc (mAny (mVar 0)) (hName 3) mYes (mCall r (mCons (mVar 3) mNil)) [3])) mNext)
    (mSeq (mIfS (mB (mCB nIsi (mCons (mVar 0) (mCons (mC (.ty "tuple")) mNil)))) (mRet (mCB nTupC (mCons (mLc (mAny (mVar 0)) (hName 3) mYes (mCall r (mCons (mVar 3) mNil)) [3]) mNil))) mNext)
    (mSeq (mAsg (mCell (mDNew)) (hName 1))
    (mCut (mIfS (mB (mCB nIsi (mCons (mVar 0) (mCons (mC (.ty "dict")) mNil)))) (mForK (pVar 0) keysD (hName 2) (mAsg (mCall r (mCons (mOp nIx (mVar 0) (mVar 2)) mNil)) (hSub (mVar 1) (mVar 2) nSet))) mNext)
    (mRet (mIf (mB (mCB nIsi (mCons (mVar 0) (mCons (mC (.ty "dict")) mNil)))) (mVar 1) (mVar 0)))))))
def f_law_copy : Nat → MP
  | 0 => fun _ _ _ _ => False
  | n + 1 => dfn 4 1 (fun _ => m_law_copy (f_law_copy n))
abbrev sp_law_copy (K : PySem.W.Frag) (n : Nat) : Sp := up K (f_law_copy n)
def t_law_copy (K : PySem.W.Frag) (n : Nat) : TS :=
  (tSeq (tIfS (tB (tCB (rIsi K) (tCons (tVar 0) (tCons (tC (.ty "list")) tNil)))) (tRet (tLc (iSeq K (tVar 0)) (gName 3) tYes (tCall (sp_law_copy K n) [] E0 (tCons (tVar 3) tNil)) [3])) tNext)
    (tSeq (tIfS (tB (tCB (rIsi K) (tCons (tVar 0) (tCons (tC (.ty "tuple")) tNil)))) (tRet (tCB (rTupA K) (tCons (tLc (iSeq K (tVar 0)) (gName 3) tYes (tCall (sp_law_copy K n) [] E0 (tCons (tVar 3) tNil)) [3]) tNil))) tNext)
    (tSeq (tAsg (tDNewK) (gName 1))
    (tCut (tIfS (tB (tCB (rIsi K) (tCons (tVar 0) (tCons (tC (.ty "dict")) tNil)))) (tLockW (fun W2 => tFor (iKeys (tVar 0)) (gName 2) (tAsg (tCall (sp_law_copy K n) [] E0 (tCons (tOp (rIxB K) (tVar 0) (tVar 2)) tNil)) (gSub (tVar 1) (tVar 2) rSetB))) (fun _ _ _ _ => False)) tNext)
    (tRet (tIf (tB (tCB (rIsi K) (tCons (tVar 0) (tCons (tC (.ty "dict")) tNil)))) (tVar 1) (tVar 0)))))))
theorem c_law_copy {K : PySem.W.Frag} (n : Nat) : SS K (fun _ => t_law_copy K n) (fun _ => m_law_copy (f_law_copy n)) := by
  unfold t_law_copy m_law_copy 
  exact (S_seq (S_if (E_B (E_cb C_isi (E_cons (E_var 0) (E_cons (E_ty _) E_nil)))) (S_ret (E_lc (I_seq (E_var 0)) (V_name 3 (by decide)) E_yes (E_call (f_law_copy n) (E_cons (E_var 3) E_nil)))) S_next)
    (S_seq (S_if (E_B (E_cb C_isi (E_cons (E_var 0) (E_cons (E_ty _) E_nil)))) (S_ret (E_cb C_tup (E_cons (E_lc (I_seq (E_var 0)) (V_name 3 (by decide)) E_yes (E_call (f_law_copy n) (E_cons (E_var 3) E_nil))) E_nil))) S_next)
    (S_seq (S_asg (E_cell (N_dnew)) (G_name 1))
    (S_cut (S_if (E_B (E_cb C_isi (E_cons (E_var 0) (E_cons (E_ty _) E_nil)))) (S_forK0 (P_var 0) (G_name 2) (S_asg (E_call (f_law_copy n) (E_cons (E_op O_ix (E_var 0) (E_var 2)) E_nil)) (G_sub O_set (E_var 1) (E_var 2)))) S_next)
    (S_ret (E_if (E_B (E_cb C_isi (E_cons (E_var 0) (E_cons (E_ty _) E_nil)))) (E_var 1) (E_var 0)))))))
theorem len_law_copy (K : PySem.W.Frag) : ∀ n vs H Q E, sp_law_copy K n vs H Q E → vs.length = (["value"] : List Str).length
  | 0, _, _, _, _, h => (up_no h).elim
  | _ + 1, _, _, _, _, h => up_len h
theorem pure_law_copy (K : PySem.W.Frag) (n : Nat) (vs : List V) (H : Hp) (Q : VK) (E : XK) (h : sp_law_copy K (n + 1) vs H Q E) : t_law_copy K n { nx := fun _ H' => Q .non H', rt := Q } (start ["value", "found", "key", "item"] vs) H := up_run (tw := fun _ => t_law_copy K n) (c_law_copy n) (N := ["value", "found", "key", "item"]) rfl h
def b_law_entries_L1_3 : MS :=
  (mDrop (mBM "list" nAppend (mVar 3) (mCons (mTup (mCons (mVar 5) (mCons (mVar 6) (mCons (mTup (mCons (mVar 7) (mCons (mVar 8) mNil))) (mCons (mVar 9) mNil))))) mNil)))
def b_law_entries_L1_2 : MS :=
  mSeq (mAsg (mIf (mB (mOp nEq (mVar 7) (mC (.str "put")))) (mOp nIx (mLst (mCons (mC (.str "done")) (mCons (mC (.str "refused")) mNil))) (mCall f_law_take (mCons (mVar 0) (mCons (mC (.int 2)) mNil)))) (mCall f_law_take (mCons (mVar 0) (mCons (mC (.int 2)) mNil)))) (hName 9)) b_law_entries_L1_3
def b_law_entries_L1_1 : MS :=
  mSeq (mPar 7 8 (mCons (mOp nIx (mLst (mCons (mC (.str "put")) (mCons (mC (.str "put")) (mCons (mC (.str "strike")) (mCons (mC (.str "read")) (mCons (mC (.str "read")) mNil)))))) (mCall f_law_take (mCons (mVar 0) (mCons (mC (.int 5)) mNil)))) (mCons (mOp nIx (mLst (mCons (mC (.int 1)) (mCons (mC (.int 1)) (mCons (mC (.int 2)) (mCons (mC (.int 30)) mNil))))) (mCall f_law_take (mCons (mVar 0) (mCons (mC (.int 4)) mNil)))) mNil))) b_law_entries_L1_2
def l_law_entries_1 : MS :=
  mSeq (mAsg (mCB nSortB (mCons (mLst (mCons (mBM0 "list" nPop (mVar 2)) (mCons (mBM0 "list" nPop (mVar 2)) mNil))) mNil)) (hTL 2 (hCons (hName 5) (hCons (hName 6) hNil)))) b_law_entries_L1_1
def b_law_entries_2 : MS :=
  (mRet (mVar 3))
def b_law_entries_1 : MS :=
  mSeq (mFor (mRng1 (mCons (mVar 1) mNil)) (hName 4) l_law_entries_1) b_law_entries_2
def m_law_entries : MS :=
  mSeq (mPar 2 3 (mCons (mCall f_law_mixed (mCons (mVar 0) (mCons (mLstRg2 (mNeg (mC (.int 3))) (mOp nAdd (mOp nMul (mC (.int 2)) (mVar 1)) (mC (.int 3)))) mNil))) (mCons (mCell (mLst mNil)) mNil))) b_law_entries_1
def f_law_entries : MP := dfn 10 2 (fun _ => m_law_entries)
abbrev sp_law_entries (K : PySem.W.Frag) : Sp := up K f_law_entries
def t_law_entries (K : PySem.W.Frag) : TS :=
  (tSeq (tPar 2 3 (tCons (tCall (sp_law_mixed K) [] E0 (tCons (tVar 0) (tCons (tLstRg (tRg2 (tUn (rU fun i => .int (-i)) (tC (.int 3))) (tOp (rAddA K) (tOp rMulA (tC (.int 2)) (tVar 1)) (tC (.int 3))))) tNil))) (tCons (tLst tNil) tNil)))
    (tSeq (tFor (iRng1 (tCons (tVar 1) tNil)) (gName 4) (tSeq (tAsg (tCB (rSortB K) (tCons (tLst (tCons (tBM0W K "list" rPopA (tVar 2)) (tCons (tBM0W K "list" rPopA (tVar 2)) tNil))) tNil)) (gTL K 2 (gCons (gName 5) (gCons (gName 6) gNil))))
    (tSeq (tPar 7 8 (tCons (tOp (rIxB K) (tLst (tCons (tC (.str "put")) (tCons (tC (.str "put")) (tCons (tC (.str "strike")) (tCons (tC (.str "read")) (tCons (tC (.str "read")) tNil)))))) (tCall (sp_law_take K) [] E0 (tCons (tVar 0) (tCons (tC (.int 5)) tNil)))) (tCons (tOp (rIxB K) (tLst (tCons (tC (.int 1)) (tCons (tC (.int 1)) (tCons (tC (.int 2)) (tCons (tC (.int 30)) tNil))))) (tCall (sp_law_take K) [] E0 (tCons (tVar 0) (tCons (tC (.int 4)) tNil)))) tNil)))
    (tSeq (tAsg (tIf (tTest (tOp (rEqA K) (tVar 7) (tC (.str "put")))) (tOp (rIxB K) (tLst (tCons (tC (.str "done")) (tCons (tC (.str "refused")) tNil))) (tCall (sp_law_take K) [] E0 (tCons (tVar 0) (tCons (tC (.int 2)) tNil)))) (tCall (sp_law_take K) [] E0 (tCons (tVar 0) (tCons (tC (.int 2)) tNil)))) (gName 9))
    (tDrop (tBMW K "list" rAppend (tVar 3) (tCons (tTup (tCons (tVar 5) (tCons (tVar 6) (tCons (tTup (tCons (tVar 7) (tCons (tVar 8) tNil))) (tCons (tVar 9) tNil))))) tNil)))))))
    (tRet (tVar 3))))
theorem c_law_entries {K : PySem.W.Frag} : SS K (fun _ => t_law_entries K) (fun _ => m_law_entries) := by
  unfold t_law_entries m_law_entries b_law_entries_1 b_law_entries_2 l_law_entries_1 b_law_entries_L1_1 b_law_entries_L1_2 b_law_entries_L1_3
  exact (S_seq (S_par (E_cons (E_call f_law_mixed (E_cons (E_var 0) (E_cons (E_lstRg2 (E_neg (E_int 3)) (E_op O_add (E_op O_mul (E_int 2) (E_var 1)) (E_int 3))) E_nil))) (E_cons (E_cell (N_lst E_nil)) E_nil)))
    (S_seq (S_for (I_rng1 (E_cons (E_var 1) E_nil)) (G_name 4) (S_seq (S_asg (E_cb C_sortB (E_cons (E_lst (E_cons (E_bm0 M_pop (E_var 2)) (E_cons (E_bm0 M_pop (E_var 2)) E_nil))) E_nil)) (G_tl (G_cons (G_name 5) (G_cons (G_name 6) G_nil))))
    (S_seq (S_par (E_cons (E_op O_ix (E_lst (E_cons (E_str (by decide)) (E_cons (E_str (by decide)) (E_cons (E_str (by decide)) (E_cons (E_str (by decide)) (E_cons (E_str (by decide)) E_nil)))))) (E_call f_law_take (E_cons (E_var 0) (E_cons (E_int 5) E_nil)))) (E_cons (E_op O_ix (E_lst (E_cons (E_int 1) (E_cons (E_int 1) (E_cons (E_int 2) (E_cons (E_int 30) E_nil))))) (E_call f_law_take (E_cons (E_var 0) (E_cons (E_int 4) E_nil)))) E_nil)))
    (S_seq (S_asg (E_if (E_test (E_op O_eq (E_var 7) (E_str (by decide)))) (E_op O_ix (E_lst (E_cons (E_str (by decide)) (E_cons (E_str (by decide)) E_nil))) (E_call f_law_take (E_cons (E_var 0) (E_cons (E_int 2) E_nil)))) (E_call f_law_take (E_cons (E_var 0) (E_cons (E_int 2) E_nil)))) (G_name 9))
    (S_drop (E_bm M_append (E_var 3) (E_cons (E_tup (E_cons (E_var 5) (E_cons (E_var 6) (E_cons (E_tup (E_cons (E_var 7) (E_cons (E_var 8) E_nil))) (E_cons (E_var 9) E_nil))))) E_nil)))))))
    (S_ret (E_var 3))))
theorem len_law_entries (K : PySem.W.Frag) : ∀ vs H Q E, sp_law_entries K vs H Q E → vs.length = (["box", "many"] : List Str).length := fun _ _ _ _ h => up_len h
theorem pure_law_entries (K : PySem.W.Frag) (vs : List V) (H : Hp) (Q : VK) (E : XK) (h : sp_law_entries K vs H Q E) : t_law_entries K { nx := fun _ H' => Q .non H', rt := Q } (start ["box", "many", "times", "found", "k", "begun", "ended", "kind", "key", "told"] vs) H := up_run (tw := fun _ => t_law_entries K) (c_law_entries) (N := ["box", "many", "times", "found", "k", "begun", "ended", "kind", "key", "told"]) rfl h
def b_law_honest_L1_6 : MS :=
  (mAsg (mOp nAdd (mVar 5) (mC (.int 1))) (hName 5))
def b_law_honest_L1_5 : MS :=
  mSeq (mDrop (mBM "list" nAppend (mVar 4) (mCons (mTup (mCons (mOp nSub (mOp nSub (mOp nMul (mC (.int 20)) (mVar 5)) (mOp nMul (mOp nIx (mLst (mCons (mC (.int 1)) (mCons (mC (.int 25)) (mCons (mC (.int 45)) mNil)))) (mCall f_law_take (mCons (mVar 0) (mCons (mC (.int 3)) mNil)))) (mC (.int 2)))) (mVar 6)) (mCons (mOp nAdd (mOp nAdd (mOp nMul (mC (.int 20)) (mVar 5)) (mOp nMul (mOp nIx (mLst (mCons (mC (.int 1)) (mCons (mC (.int 21)) (mCons (mC (.int 47)) mNil)))) (mCall f_law_take (mCons (mVar 0) (mCons (mC (.int 3)) mNil)))) (mC (.int 2)))) (mVar 6)) (mCons (mTup (mCons (mVar 7) (mCons (mVar 8) mNil))) (mCons (mVar 9) mNil))))) mNil))) b_law_honest_L1_6
def b_law_honest_L1_4 : MS :=
  mCut (mIfS ((mAnd (mB (mOp nEq (mVar 7) (mC (.str "put")))) (mB (mOp nEq (mVar 9) (mC (.str "done")))))) (mDrop (mBM "list" nAppend (mVar 3) (mCons (mVar 8) mNil))) mNext) b_law_honest_L1_5
def b_law_honest_L1_3 : MS :=
  mCut (mIfS (mB (mOp nEq (mVar 7) (mC (.str "strike")))) (mAsg (mCell (mLc (mAny (mVar 3)) (hName 10) (mB (mOp nNe (mVar 10) (mVar 8))) (mVar 10) [10])) (hName 3)) mNext) b_law_honest_L1_4
def b_law_honest_L1_2 : MS :=
  mCut (mIfS (mB (mOp nEq (mVar 7) (mC (.str "put")))) (mAsg (mIf (mB (mOp nIn (mVar 8) (mVar 3))) (mC (.str "refused")) (mC (.str "done"))) (hName 9)) mNext) b_law_honest_L1_3
def b_law_honest_L1_1 : MS :=
  mSeq (mAsg (mCB nInt (mCons (mOp nIn (mVar 8) (mVar 3)) mNil)) (hName 9)) b_law_honest_L1_2
def l_law_honest_1 : MS :=
  mSeq (mAsg (mTup (mCons (mOp nIx (mLst (mCons (mC (.str "put")) (mCons (mC (.str "put")) (mCons (mC (.str "strike")) (mCons (mC (.str "read")) (mCons (mC (.str "read")) mNil)))))) (mCall f_law_take (mCons (mVar 0) (mCons (mC (.int 5)) mNil)))) (mCons (mOp nIx (mLst (mCons (mC (.int 1)) (mCons (mC (.int 1)) (mCons (mC (.int 2)) (mCons (mC (.int 30)) mNil))))) (mCall f_law_take (mCons (mVar 0) (mCons (mC (.int 4)) mNil)))) mNil))) (hTup 2 (hCons (hName 7) (hCons (hName 8) hNil)))) b_law_honest_L1_1
def b_law_honest_3 : MS :=
  (mRet (mTup (mCons (mVar 2) (mCons (mVar 4) mNil))))
def b_law_honest_2 : MS :=
  mSeq (mFor (mRng1 (mCons (mVar 1) mNil)) (hName 6) l_law_honest_1) b_law_honest_3
def b_law_honest_1 : MS :=
  mSeq (mPar3 3 4 5 (mCons (mCell (mCB nList (mCons (mVar 2) mNil))) (mCons (mCell (mLst mNil)) (mCons (mC (.int 0)) mNil)))) b_law_honest_2
def m_law_honest : MS :=
  mSeq (mAsg (mLc (mAny (mLst (mCons (mC (.int 1)) (mCons (mC (.int 2)) (mCons (mC (.int 30)) mNil))))) (hName 8) (mB (mOp nEq (mCall f_law_take (mCons (mVar 0) (mCons (mC (.int 2)) mNil))) (mC (.int 0)))) (mVar 8) [8]) (hName 2)) b_law_honest_1
def f_law_honest : MP := dfn 11 2 (fun _ => m_law_honest)
abbrev sp_law_honest (K : PySem.W.Frag) : Sp := up K f_law_honest
def t_law_honest (K : PySem.W.Frag) : TS :=
  (tSeq (tAsg (tLc (iSeq K (tLst (tCons (tC (.int 1)) (tCons (tC (.int 2)) (tCons (tC (.int 30)) tNil))))) (gName 8) (tTest (tOp (rEqA K) (tCall (sp_law_take K) [] E0 (tCons (tVar 0) (tCons (tC (.int 2)) tNil))) (tC (.int 0)))) (tVar 8) [8]) (gName 2))
    (tSeq (tPar3 3 4 5 (tCons (tCB (rListA K) (tCons (tVar 2) tNil)) (tCons (tLst tNil) (tCons (tC (.int 0)) tNil))))
    (tSeq (tFor (iRng1 (tCons (tVar 1) tNil)) (gName 6) (tSeq (tAsg (tTup (tCons (tOp (rIxB K) (tLst (tCons (tC (.str "put")) (tCons (tC (.str "put")) (tCons (tC (.str "strike")) (tCons (tC (.str "read")) (tCons (tC (.str "read")) tNil)))))) (tCall (sp_law_take K) [] E0 (tCons (tVar 0) (tCons (tC (.int 5)) tNil)))) (tCons (tOp (rIxB K) (tLst (tCons (tC (.int 1)) (tCons (tC (.int 1)) (tCons (tC (.int 2)) (tCons (tC (.int 30)) tNil))))) (tCall (sp_law_take K) [] E0 (tCons (tVar 0) (tCons (tC (.int 4)) tNil)))) tNil))) (gTup K 2 (gCons (gName 7) (gCons (gName 8) gNil))))
    (tSeq (tAsg (tCB rIntA (tCons (tOp (rInB K) (tVar 8) (tVar 3)) tNil)) (gName 9))
    (tCut (tIfS (tTest (tOp (rEqA K) (tVar 7) (tC (.str "put")))) (tAsg (tIf (tTest (tOp (rInB K) (tVar 8) (tVar 3))) (tC (.str "refused")) (tC (.str "done"))) (gName 9)) tNext)
    (tCut (tIfS (tTest (tOp (rEqA K) (tVar 7) (tC (.str "strike")))) (tAsg (tLc (iSeq K (tVar 3)) (gName 10) (tTest (tOp (rNeA K) (tVar 10) (tVar 8))) (tVar 10) [10]) (gName 3)) tNext)
    (tCut (tIfS ((tAnd (tTest (tOp (rEqA K) (tVar 7) (tC (.str "put")))) (tTest (tOp (rEqA K) (tVar 9) (tC (.str "done")))))) (tDrop (tBMW K "list" rAppend (tVar 3) (tCons (tVar 8) tNil))) tNext)
    (tSeq (tDrop (tBMW K "list" rAppend (tVar 4) (tCons (tTup (tCons (tOp rSubA (tOp rSubA (tOp rMulA (tC (.int 20)) (tVar 5)) (tOp rMulA (tOp (rIxB K) (tLst (tCons (tC (.int 1)) (tCons (tC (.int 25)) (tCons (tC (.int 45)) tNil)))) (tCall (sp_law_take K) [] E0 (tCons (tVar 0) (tCons (tC (.int 3)) tNil)))) (tC (.int 2)))) (tVar 6)) (tCons (tOp (rAddA K) (tOp (rAddA K) (tOp rMulA (tC (.int 20)) (tVar 5)) (tOp rMulA (tOp (rIxB K) (tLst (tCons (tC (.int 1)) (tCons (tC (.int 21)) (tCons (tC (.int 47)) tNil)))) (tCall (sp_law_take K) [] E0 (tCons (tVar 0) (tCons (tC (.int 3)) tNil)))) (tC (.int 2)))) (tVar 6)) (tCons (tTup (tCons (tVar 7) (tCons (tVar 8) tNil))) (tCons (tVar 9) tNil))))) tNil)))
    (tAsg (tOp (rAddA K) (tVar 5) (tC (.int 1))) (gName 5)))))))))
    (tRet (tTup (tCons (tVar 2) (tCons (tVar 4) tNil)))))))
theorem c_law_honest {K : PySem.W.Frag} : SS K (fun _ => t_law_honest K) (fun _ => m_law_honest) := by
  unfold t_law_honest m_law_honest b_law_honest_1 b_law_honest_2 b_law_honest_3 l_law_honest_1 b_law_honest_L1_1 b_law_honest_L1_2 b_law_honest_L1_3 b_law_honest_L1_4 b_law_honest_L1_5 b_law_honest_L1_6
  exact (S_seq (S_asg (E_lc (I_seq (E_lst (E_cons (E_int 1) (E_cons (E_int 2) (E_cons (E_int 30) E_nil))))) (V_name 8 (by decide)) (E_test (E_op O_eq (E_call f_law_take (E_cons (E_var 0) (E_cons (E_int 2) E_nil))) (E_int 0))) (E_var 8)) (G_name 2))
    (S_seq (S_par3 (E_cons (E_cell (N_list (E_cons (E_var 2) E_nil))) (E_cons (E_cell (N_lst E_nil)) (E_cons (E_int 0) E_nil))))
    (S_seq (S_for (I_rng1 (E_cons (E_var 1) E_nil)) (G_name 6) (S_seq (S_asg (E_tup (E_cons (E_op O_ix (E_lst (E_cons (E_str (by decide)) (E_cons (E_str (by decide)) (E_cons (E_str (by decide)) (E_cons (E_str (by decide)) (E_cons (E_str (by decide)) E_nil)))))) (E_call f_law_take (E_cons (E_var 0) (E_cons (E_int 5) E_nil)))) (E_cons (E_op O_ix (E_lst (E_cons (E_int 1) (E_cons (E_int 1) (E_cons (E_int 2) (E_cons (E_int 30) E_nil))))) (E_call f_law_take (E_cons (E_var 0) (E_cons (E_int 4) E_nil)))) E_nil))) (G_tup (G_cons (G_name 7) (G_cons (G_name 8) G_nil))))
    (S_seq (S_asg (E_cb C_int (E_cons (E_op O_in (E_var 8) (E_var 3)) E_nil)) (G_name 9))
    (S_cut (S_if (E_test (E_op O_eq (E_var 7) (E_str (by decide)))) (S_asg (E_if (E_test (E_op O_in (E_var 8) (E_var 3))) (E_str (by decide)) (E_str (by decide))) (G_name 9)) S_next)
    (S_cut (S_if (E_test (E_op O_eq (E_var 7) (E_str (by decide)))) (S_asg (E_cell (N_lc (I_seq (E_var 3)) (V_name 10 (by decide)) (E_test (E_op O_ne (E_var 10) (E_var 8))) (E_var 10))) (G_name 3)) S_next)
    (S_cut (S_if ((E_and (E_test (E_op O_eq (E_var 7) (E_str (by decide)))) (E_test (E_op O_eq (E_var 9) (E_str (by decide)))))) (S_drop (E_bm M_append (E_var 3) (E_cons (E_var 8) E_nil))) S_next)
    (S_seq (S_drop (E_bm M_append (E_var 4) (E_cons (E_tup (E_cons (E_op O_sub (E_op O_sub (E_op O_mul (E_int 20) (E_var 5)) (E_op O_mul (E_op O_ix (E_lst (E_cons (E_int 1) (E_cons (E_int 25) (E_cons (E_int 45) E_nil)))) (E_call f_law_take (E_cons (E_var 0) (E_cons (E_int 3) E_nil)))) (E_int 2))) (E_var 6)) (E_cons (E_op O_add (E_op O_add (E_op O_mul (E_int 20) (E_var 5)) (E_op O_mul (E_op O_ix (E_lst (E_cons (E_int 1) (E_cons (E_int 21) (E_cons (E_int 47) E_nil)))) (E_call f_law_take (E_cons (E_var 0) (E_cons (E_int 3) E_nil)))) (E_int 2))) (E_var 6)) (E_cons (E_tup (E_cons (E_var 7) (E_cons (E_var 8) E_nil))) (E_cons (E_var 9) E_nil))))) E_nil)))
    (S_asg (E_op O_add (E_var 5) (E_int 1)) (G_name 5)))))))))
    (S_ret (E_tup (E_cons (E_var 2) (E_cons (E_var 4) E_nil)))))))
theorem len_law_honest (K : PySem.W.Frag) : ∀ vs H Q E, sp_law_honest K vs H Q E → vs.length = (["box", "many"] : List Str).length := fun _ _ _ _ h => up_len h
theorem pure_law_honest (K : PySem.W.Frag) (vs : List V) (H : Hp) (Q : VK) (E : XK) (h : sp_law_honest K vs H Q E) : t_law_honest K { nx := fun _ H' => Q .non H', rt := Q } (start ["box", "many", "keys", "there", "found", "at", "k", "kind", "key", "told", "other"] vs) H := up_run (tw := fun _ => t_law_honest K) (c_law_honest) (N := ["box", "many", "keys", "there", "found", "at", "k", "kind", "key", "told", "other"]) rfl h
def m_law_have_unlike_times : MS :=
  (mSeq (mAsg (mOp nAdd (mLc (mAny (mOp nIx (mVar 0) (mC (.int 1)))) (hName 2) mYes (mOp nIx (mVar 2) (mC (.int 0))) [2]) (mLc (mAny (mOp nIx (mVar 0) (mC (.int 1)))) (hName 2) mYes (mOp nIx (mVar 2) (mC (.int 1))) [2])) (hName 1))
    (mRet (mOp nEq (mCB nLen (mCons (mCB nDictP (mCons (mLc (mAny (mVar 1)) (hName 3) mYes (mTup (mCons (mVar 3) (mCons (mC (.int 1)) mNil))) [3]) mNil)) mNil)) (mCB nLen (mCons (mVar 1) mNil)))))
def f_law_have_unlike_times : MP := dfn 4 1 (fun _ => m_law_have_unlike_times)
abbrev sp_law_have_unlike_times (K : PySem.W.Frag) : Sp := up K f_law_have_unlike_times
def t_law_have_unlike_times (K : PySem.W.Frag) : TS :=
  (tSeq (tAsg (tOp (rAddA K) (tLc (iSeq K (tOp (rIxB K) (tVar 0) (tC (.int 1)))) (gName 2) tYes (tOp (rIxB K) (tVar 2) (tC (.int 0))) [2]) (tLc (iSeq K (tOp (rIxB K) (tVar 0) (tC (.int 1)))) (gName 2) tYes (tOp (rIxB K) (tVar 2) (tC (.int 1))) [2])) (gName 1))
    (tRet (tOp (rEqA K) (tCB (rLenB K) (tCons (tCB (rDictP K) (tCons (tLc (iSeq K (tVar 1)) (gName 3) tYes (tTup (tCons (tVar 3) (tCons (tC (.int 1)) tNil))) [3]) tNil)) tNil)) (tCB (rLenB K) (tCons (tVar 1) tNil)))))
theorem c_law_have_unlike_times {K : PySem.W.Frag} : SS K (fun _ => t_law_have_unlike_times K) (fun _ => m_law_have_unlike_times) := by
  unfold t_law_have_unlike_times m_law_have_unlike_times 
  exact (S_seq (S_asg (E_op O_add (E_lc (I_seq (E_op O_ix (E_var 0) (E_int 1))) (V_name 2 (by decide)) E_yes (E_op O_ix (E_var 2) (E_int 0))) (E_lc (I_seq (E_op O_ix (E_var 0) (E_int 1))) (V_name 2 (by decide)) E_yes (E_op O_ix (E_var 2) (E_int 1)))) (G_name 1))
    (S_ret (E_op O_eq (E_cb C_len (E_cons (E_cb C_dictP (E_cons (E_lc (I_seq (E_var 1)) (V_name 3 (by decide)) E_yes (E_tup (E_cons (E_var 3) (E_cons (E_int 1) E_nil)))) E_nil)) E_nil)) (E_cb C_len (E_cons (E_var 1) E_nil)))))
theorem len_law_have_unlike_times (K : PySem.W.Frag) : ∀ vs H Q E, sp_law_have_unlike_times K vs H Q E → vs.length = (["history"] : List Str).length := fun _ _ _ _ h => up_len h
theorem pure_law_have_unlike_times (K : PySem.W.Frag) (vs : List V) (H : Hp) (Q : VK) (E : XK) (h : sp_law_have_unlike_times K vs H Q E) : t_law_have_unlike_times K { nx := fun _ H' => Q .non H', rt := Q } (start ["history", "times", "entry", "time"] vs) H := up_run (tw := fun _ => t_law_have_unlike_times K) (c_law_have_unlike_times) (N := ["history", "times", "entry", "time"]) rfl h
def b_law_history_L1_2 : MS :=
  (mAsg (mTup (mCons (mVar 7) (mCons (mVar 8) (mCons (mVar 9) (mCons (mIf (mB (mOp nEq (mOp nIx (mVar 9) (mC (.int 0))) (mC (.str "put")))) (mOp nIx (mDisp (((mC (.str "done")), (mC (.str "refused"))) :: ((mC (.str "refused")), (mC (.str "done"))) :: [])) (mVar 10)) (mOp nSub (mC (.int 1)) (mVar 10))) mNil))))) (hSub (mVar 4) (mVar 6) nSet))
def b_law_history_L1_1 : MS :=
  mSeq (mAsg (mOp nIx (mVar 4) (mVar 6)) (hTup 4 (hCons (hName 7) (hCons (hName 8) (hCons (hName 9) (hCons (hName 10) hNil)))))) b_law_history_L1_2
def l_law_history_1 : MS :=
  mSeq (mAsg (mCall f_law_take (mCons (mVar 0) (mCons (mVar 1) mNil))) (hName 6)) b_law_history_L1_1
def b_law_history_6 : MS :=
  (mRet (mTup (mCons (mOp nIx (mVar 3) (mC (.int 0))) (mCons (mVar 4) mNil))))
def b_law_history_5 : MS :=
  mSeq (mFor (mRng1 (mCons (mOp nSub (mVar 2) (mC (.int 1))) mNil)) (hName 5) l_law_history_1) b_law_history_6
def b_law_history_4 : MS :=
  mSeq (mAsg (mCell (mCB nList (mCons (mOp nIx (mVar 3) (mC (.int 1))) mNil))) (hName 4)) b_law_history_5
def b_law_history_3 : MS :=
  mSeq (mIfS (mNot (mB (mCall f_law_have_unlike_times (mCons (mVar 3) mNil)))) (mRet (mTup (mCons (mOp nIx (mVar 3) (mC (.int 0))) (mCons (mCall f_law_entries (mCons (mVar 0) (mCons (mCB nMin (mCons (mVar 1) (mCons (mC (.int 5)) mNil))) mNil))) mNil)))) mNext) b_law_history_4
def b_law_history_2 : MS :=
  mSeq (mAsg (mCall f_law_honest (mCons (mVar 0) (mCons (mVar 1) mNil))) (hName 3)) b_law_history_3
def b_law_history_1 : MS :=
  mSeq (mIfS (mB (mOp nEq (mVar 2) (mC (.int 0)))) (mRet (mTup (mCons (mLc (mAny (mLst (mCons (mC (.int 1)) (mCons (mC (.int 2)) (mCons (mC (.int 30)) mNil))))) (hName 11) (mB (mOp nEq (mCall f_law_take (mCons (mVar 0) (mCons (mC (.int 2)) mNil))) (mC (.int 0)))) (mVar 11) [11]) (mCons (mCall f_law_entries (mCons (mVar 0) (mCons (mVar 1) mNil))) mNil)))) mNext) b_law_history_2
def m_law_history : MS :=
  mSeq (mPar 1 2 (mCons (mOp nAdd (mC (.int 1)) (mCall f_law_take (mCons (mVar 0) (mCons (mC (.int 7)) mNil)))) (mCons (mCall f_law_take (mCons (mVar 0) (mCons (mC (.int 4)) mNil))) mNil))) b_law_history_1
def f_law_history : MP := dfn 12 1 (fun _ => m_law_history)
abbrev sp_law_history (K : PySem.W.Frag) : Sp := up K f_law_history
def t_law_history (K : PySem.W.Frag) : TS :=
  (tSeq (tPar 1 2 (tCons (tOp (rAddA K) (tC (.int 1)) (tCall (sp_law_take K) [] E0 (tCons (tVar 0) (tCons (tC (.int 7)) tNil)))) (tCons (tCall (sp_law_take K) [] E0 (tCons (tVar 0) (tCons (tC (.int 4)) tNil))) tNil)))
    (tSeq (tIfS (tTest (tOp (rEqA K) (tVar 2) (tC (.int 0)))) (tRet (tTup (tCons (tLc (iSeq K (tLst (tCons (tC (.int 1)) (tCons (tC (.int 2)) (tCons (tC (.int 30)) tNil))))) (gName 11) (tTest (tOp (rEqA K) (tCall (sp_law_take K) [] E0 (tCons (tVar 0) (tCons (tC (.int 2)) tNil))) (tC (.int 0)))) (tVar 11) [11]) (tCons (tCall (sp_law_entries K) [] E0 (tCons (tVar 0) (tCons (tVar 1) tNil))) tNil)))) tNext)
    (tSeq (tAsg (tCall (sp_law_honest K) [] E0 (tCons (tVar 0) (tCons (tVar 1) tNil))) (gName 3))
    (tSeq (tIfS (tNot (tB (tCall (sp_law_have_unlike_times K) [] E0 (tCons (tVar 3) tNil)))) (tRet (tTup (tCons (tOp (rIxB K) (tVar 3) (tC (.int 0))) (tCons (tCall (sp_law_entries K) [] E0 (tCons (tVar 0) (tCons (tCB (rMinA K) (tCons (tVar 1) (tCons (tC (.int 5)) tNil))) tNil))) tNil)))) tNext)
    (tSeq (tAsg (tCB (rListA K) (tCons (tOp (rIxB K) (tVar 3) (tC (.int 1))) tNil)) (gName 4))
    (tSeq (tFor (iRng1 (tCons (tOp rSubA (tVar 2) (tC (.int 1))) tNil)) (gName 5) (tSeq (tAsg (tCall (sp_law_take K) [] E0 (tCons (tVar 0) (tCons (tVar 1) tNil))) (gName 6))
    (tSeq (tAsg (tOp (rIxB K) (tVar 4) (tVar 6)) (gTup K 4 (gCons (gName 7) (gCons (gName 8) (gCons (gName 9) (gCons (gName 10) gNil))))))
    (tAsg (tTup (tCons (tVar 7) (tCons (tVar 8) (tCons (tVar 9) (tCons (tIf (tTest (tOp (rEqA K) (tOp (rIxB K) (tVar 9) (tC (.int 0))) (tC (.str "put")))) (tOp (rIxB K) (tDisp (((tC (.str "done")), (tC (.str "refused"))) :: ((tC (.str "refused")), (tC (.str "done"))) :: [])) (tVar 10)) (tOp rSubA (tC (.int 1)) (tVar 10))) tNil))))) (gSub (tVar 4) (tVar 6) rSetB)))))
    (tRet (tTup (tCons (tOp (rIxB K) (tVar 3) (tC (.int 0))) (tCons (tVar 4) tNil))))))))))
theorem c_law_history {K : PySem.W.Frag} : SS K (fun _ => t_law_history K) (fun _ => m_law_history) := by
  unfold t_law_history m_law_history b_law_history_1 b_law_history_2 b_law_history_3 b_law_history_4 b_law_history_5 b_law_history_6 l_law_history_1 b_law_history_L1_1 b_law_history_L1_2
  exact (S_seq (S_par (E_cons (E_op O_add (E_int 1) (E_call f_law_take (E_cons (E_var 0) (E_cons (E_int 7) E_nil)))) (E_cons (E_call f_law_take (E_cons (E_var 0) (E_cons (E_int 4) E_nil))) E_nil)))
    (S_seq (S_if (E_test (E_op O_eq (E_var 2) (E_int 0))) (S_ret (E_tup (E_cons (E_lc (I_seq (E_lst (E_cons (E_int 1) (E_cons (E_int 2) (E_cons (E_int 30) E_nil))))) (V_name 11 (by decide)) (E_test (E_op O_eq (E_call f_law_take (E_cons (E_var 0) (E_cons (E_int 2) E_nil))) (E_int 0))) (E_var 11)) (E_cons (E_call f_law_entries (E_cons (E_var 0) (E_cons (E_var 1) E_nil))) E_nil)))) S_next)
    (S_seq (S_asg (E_call f_law_honest (E_cons (E_var 0) (E_cons (E_var 1) E_nil))) (G_name 3))
    (S_seq (S_if (E_not (E_B (E_call f_law_have_unlike_times (E_cons (E_var 3) E_nil)))) (S_ret (E_tup (E_cons (E_op O_ix (E_var 3) (E_int 0)) (E_cons (E_call f_law_entries (E_cons (E_var 0) (E_cons (E_cb C_min (E_cons (E_var 1) (E_cons (E_int 5) E_nil))) E_nil))) E_nil)))) S_next)
    (S_seq (S_asg (E_cell (N_list (E_cons (E_op O_ix (E_var 3) (E_int 1)) E_nil))) (G_name 4))
    (S_seq (S_for (I_rng1 (E_cons (E_op O_sub (E_var 2) (E_int 1)) E_nil)) (G_name 5) (S_seq (S_asg (E_call f_law_take (E_cons (E_var 0) (E_cons (E_var 1) E_nil))) (G_name 6))
    (S_seq (S_asg (E_op O_ix (E_var 4) (E_var 6)) (G_tup (G_cons (G_name 7) (G_cons (G_name 8) (G_cons (G_name 9) (G_cons (G_name 10) G_nil))))))
    (S_asg (E_tup (E_cons (E_var 7) (E_cons (E_var 8) (E_cons (E_var 9) (E_cons (E_if (E_test (E_op O_eq (E_op O_ix (E_var 9) (E_int 0)) (E_str (by decide)))) (E_op O_ix (E_disp (.cons (E_str (by decide)) (E_str (by decide)) (.cons (E_str (by decide)) (E_str (by decide)) .nil))) (E_var 10)) (E_op O_sub (E_int 1) (E_var 10))) E_nil))))) (G_sub O_set (E_var 4) (E_var 6))))))
    (S_ret (E_tup (E_cons (E_op O_ix (E_var 3) (E_int 0)) (E_cons (E_var 4) E_nil))))))))))
theorem len_law_history (K : PySem.W.Frag) : ∀ vs H Q E, sp_law_history K vs H Q E → vs.length = (["box"] : List Str).length := fun _ _ _ _ h => up_len h
theorem pure_law_history (K : PySem.W.Frag) (vs : List V) (H : Hp) (Q : VK) (E : XK) (h : sp_law_history K vs H Q E) : t_law_history K { nx := fun _ H' => Q .non H', rt := Q } (start ["box", "many", "way", "history", "entries", "turn", "at", "begun", "ended", "asked", "told", "key"] vs) H := up_run (tw := fun _ => t_law_history K) (c_law_history) (N := ["box", "many", "way", "history", "entries", "turn", "at", "begun", "ended", "asked", "told", "key"]) rfl h
def b_law_has_order_L1_4 (r : MP) : MS :=
  (mIfS ((mAnd (mB (mVar 9)) (mB (mCall r (mCons (mVar 0) (mCons (mVar 1) (mCons (mLc (mAny (mVar 2)) (hName 11) (mB (mOp nNe (mVar 11) (mVar 4))) (mVar 11) [11]) (mCons (mVar 10) mNil)))))))) (mRet (mC (.bl true))) mNext)
def b_law_has_order_L1_3 (r : MP) : MS :=
  mSeq (mAsg (mIf (mB (mOp nNe (mOp nIx (mVar 7) (mC (.int 0))) (mC (.str "strike")))) ((mOrV (mVar 3) (mOp nEq (mOp nIx (mVar 7) (mC (.int 0))) (mC (.str "put"))))) (mC (.bl false))) (hName 10)) (b_law_has_order_L1_4 r)
def b_law_has_order_L1_2 (r : MP) : MS :=
  mSeq (mAsg (mIf (mB (mOp nEq (mOp nIx (mVar 7) (mC (.int 0))) (mC (.str "put")))) (mOp nEq (mVar 8) (mIf (mB (mVar 3)) (mC (.str "refused")) (mC (.str "done")))) (mOp nEq (mVar 8) (mCB nInt (mCons (mVar 3) mNil)))) (hName 9)) (b_law_has_order_L1_3 r)
def b_law_has_order_L1_1 (r : MP) : MS :=
  mSeq (mIfS (mB (mOp nNe (mLc (mAny (mVar 2)) (hName 11) (mB (mOp nLt (mOp nIx (mOp nIx (mVar 1) (mVar 11)) (mC (.int 1))) (mVar 5))) (mVar 11) [11]) (mLst mNil))) (mCont) mNext) (b_law_has_order_L1_2 r)
def l_law_has_order_1 (r : MP) : MS :=
  mSeq (mAsg (mOp nIx (mVar 1) (mVar 4)) (hTup 4 (hCons (hName 5) (hCons (hName 6) (hCons (hName 7) (hCons (hName 8) hNil)))))) (b_law_has_order_L1_1 r)
def b_law_has_order_2 (r : MP) : MS :=
  (mRet (mC (.bl false)))
def b_law_has_order_1 (r : MP) : MS :=
  mSeq (mFor (mAny (mVar 2)) (hName 4) (l_law_has_order_1 r)) (b_law_has_order_2 r)
def m_law_has_order (r : MP) : MS :=
  mSeq (mIfS (mB (mOp nEq (mVar 2) (mLst mNil))) (mRet (mC (.bl true))) mNext) (b_law_has_order_1 r)
def f_law_has_order : Nat → MP
  | 0 => fun _ _ _ _ => False
  | n + 1 => dfn 12 4 (fun _ => m_law_has_order (f_law_has_order n))
abbrev sp_law_has_order (K : PySem.W.Frag) (n : Nat) : Sp := up K (f_law_has_order n)
def t_law_has_order (K : PySem.W.Frag) (n : Nat) : TS :=
  (tSeq (tIfS (tTest (tOp (rEqA K) (tVar 2) (tLst tNil))) (tRet (tC (.bl true))) tNext)
    (tSeq (tFor (iSeq K (tVar 2)) (gName 4) (tSeq (tAsg (tOp (rIxB K) (tVar 1) (tVar 4)) (gTup K 4 (gCons (gName 5) (gCons (gName 6) (gCons (gName 7) (gCons (gName 8) gNil))))))
    (tSeq (tIfS (tTest (tOp (rNeA K) (tLc (iSeq K (tVar 2)) (gName 11) (tTest (tOp rLtA (tOp (rIxB K) (tOp (rIxB K) (tVar 1) (tVar 11)) (tC (.int 1))) (tVar 5))) (tVar 11) [11]) (tLst tNil))) (tCont) tNext)
    (tSeq (tAsg (tIf (tTest (tOp (rEqA K) (tOp (rIxB K) (tVar 7) (tC (.int 0))) (tC (.str "put")))) (tOp (rEqA K) (tVar 8) (tIf (tB (tVar 3)) (tC (.str "refused")) (tC (.str "done")))) (tOp (rEqA K) (tVar 8) (tCB rIntA (tCons (tVar 3) tNil)))) (gName 9))
    (tSeq (tAsg (tIf (tTest (tOp (rNeA K) (tOp (rIxB K) (tVar 7) (tC (.int 0))) (tC (.str "strike")))) ((tOrV (tVar 3) (tOp (rEqA K) (tOp (rIxB K) (tVar 7) (tC (.int 0))) (tC (.str "put"))))) (tC (.bl false))) (gName 10))
    (tIfS ((tAnd (tB (tVar 9)) (tB (tCall (sp_law_has_order K n) [] E0 (tCons (tVar 0) (tCons (tVar 1) (tCons (tLc (iSeq K (tVar 2)) (gName 11) (tTest (tOp (rNeA K) (tVar 11) (tVar 4))) (tVar 11) [11]) (tCons (tVar 10) tNil)))))))) (tRet (tC (.bl true))) tNext))))))
    (tRet (tC (.bl false)))))
theorem c_law_has_order {K : PySem.W.Frag} (n : Nat) : SS K (fun _ => t_law_has_order K n) (fun _ => m_law_has_order (f_law_has_order n)) := by
  unfold t_law_has_order m_law_has_order b_law_has_order_1 b_law_has_order_2 l_law_has_order_1 b_law_has_order_L1_1 b_law_has_order_L1_2 b_law_has_order_L1_3 b_law_has_order_L1_4
  exact (S_seq (S_if (E_test (E_op O_eq (E_var 2) (E_lst E_nil))) (S_ret (E_bl true)) S_next)
    (S_seq (S_for (I_seq (E_var 2)) (G_name 4) (S_seq (S_asg (E_op O_ix (E_var 1) (E_var 4)) (G_tup (G_cons (G_name 5) (G_cons (G_name 6) (G_cons (G_name 7) (G_cons (G_name 8) G_nil))))))
    (S_seq (S_if (E_test (E_op O_ne (E_lc (I_seq (E_var 2)) (V_name 11 (by decide)) (E_test (E_op O_lt (E_op O_ix (E_op O_ix (E_var 1) (E_var 11)) (E_int 1)) (E_var 5))) (E_var 11)) (E_lst E_nil))) (S_cont) S_next)
    (S_seq (S_asg (E_if (E_test (E_op O_eq (E_op O_ix (E_var 7) (E_int 0)) (E_str (by decide)))) (E_op O_eq (E_var 8) (E_if (E_B (E_var 3)) (E_str (by decide)) (E_str (by decide)))) (E_op O_eq (E_var 8) (E_cb C_int (E_cons (E_var 3) E_nil)))) (G_name 9))
    (S_seq (S_asg (E_if (E_test (E_op O_ne (E_op O_ix (E_var 7) (E_int 0)) (E_str (by decide)))) ((E_orV (E_var 3) (E_op O_eq (E_op O_ix (E_var 7) (E_int 0)) (E_str (by decide))))) (E_bl false)) (G_name 10))
    (S_if ((E_and (E_B (E_var 9)) (E_B (E_call (f_law_has_order n) (E_cons (E_var 0) (E_cons (E_var 1) (E_cons (E_lc (I_seq (E_var 2)) (V_name 11 (by decide)) (E_test (E_op O_ne (E_var 11) (E_var 4))) (E_var 11)) (E_cons (E_var 10) E_nil)))))))) (S_ret (E_bl true)) S_next))))))
    (S_ret (E_bl false))))
theorem len_law_has_order (K : PySem.W.Frag) : ∀ n vs H Q E, sp_law_has_order K n vs H Q E → vs.length = (["keys", "entries", "left", "there"] : List Str).length
  | 0, _, _, _, _, h => (up_no h).elim
  | _ + 1, _, _, _, _, h => up_len h
theorem pure_law_has_order (K : PySem.W.Frag) (n : Nat) (vs : List V) (H : Hp) (Q : VK) (E : XK) (h : sp_law_has_order K (n + 1) vs H Q E) : t_law_has_order K n { nx := fun _ H' => Q .non H', rt := Q } (start ["keys", "entries", "left", "there", "number", "begun", "ended", "asked", "told", "fits", "after", "other"] vs) H := up_run (tw := fun _ => t_law_has_order K n) (c_law_has_order n) (N := ["keys", "entries", "left", "there", "number", "begun", "ended", "asked", "told", "fits", "after", "other"]) rfl h
def m_law_bad : MS :=
  (mSeq (mAsg (mVar 0) (hTup 2 (hCons (hName 1) (hCons (hName 2) hNil))))
    (mSeq (mAsg (mCB nSortB (mCons (mCB nDictP (mCons (mLc (mAny (mVar 2)) (hName 7) mYes (mTup (mCons (mOp nIx (mOp nIx (mVar 7) (mC (.int 2))) (mC (.int 1))) (mCons (mC (.int 1)) mNil))) [7]) mNil)) mNil)) (hName 3))
    (mSeq (mAsg (mCell (mLst mNil)) (hName 4))
    (mSeq (mFor (mAny (mVar 3)) (hName 5) (mSeq (mAsg (mLc (mAny (mVar 2)) (hName 7) (mB (mOp nEq (mOp nIx (mOp nIx (mVar 7) (mC (.int 2))) (mC (.int 1))) (mVar 5))) (mVar 7) [7]) (hName 6))
    (mIfS (mNot (mB (mCall (f_law_has_order 9) (mCons (mVar 1) (mCons (mVar 6) (mCons (mLstRg1 (mCB nLen (mCons (mVar 6) mNil))) (mCons (mOp nIn (mVar 5) (mVar 1)) mNil))))))) (mDrop (mBM "list" nAppend (mVar 4) (mCons (mVar 5) mNil))) mNext)))
    (mRet (mVar 4))))))
def f_law_bad : MP := dfn 8 1 (fun _ => m_law_bad)
abbrev sp_law_bad (K : PySem.W.Frag) : Sp := up K f_law_bad
def t_law_bad (K : PySem.W.Frag) : TS :=
  (tSeq (tAsg (tVar 0) (gTup K 2 (gCons (gName 1) (gCons (gName 2) gNil))))
    (tSeq (tAsg (tCB (rSortB K) (tCons (tCB (rDictP K) (tCons (tLc (iSeq K (tVar 2)) (gName 7) tYes (tTup (tCons (tOp (rIxB K) (tOp (rIxB K) (tVar 7) (tC (.int 2))) (tC (.int 1))) (tCons (tC (.int 1)) tNil))) [7]) tNil)) tNil)) (gName 3))
    (tSeq (tAsg (tLst tNil) (gName 4))
    (tSeq (tFor (iSeq K (tVar 3)) (gName 5) (tSeq (tAsg (tLc (iSeq K (tVar 2)) (gName 7) (tTest (tOp (rEqA K) (tOp (rIxB K) (tOp (rIxB K) (tVar 7) (tC (.int 2))) (tC (.int 1))) (tVar 5))) (tVar 7) [7]) (gName 6))
    (tIfS (tNot (tB (tCall (sp_law_has_order K 9) [] E0 (tCons (tVar 1) (tCons (tVar 6) (tCons (tLstRg (tRg1 (tCB (rLenB K) (tCons (tVar 6) tNil)))) (tCons (tOp (rInB K) (tVar 5) (tVar 1)) tNil))))))) (tDrop (tBMW K "list" rAppend (tVar 4) (tCons (tVar 5) tNil))) tNext)))
    (tRet (tVar 4))))))
theorem c_law_bad {K : PySem.W.Frag} : SS K (fun _ => t_law_bad K) (fun _ => m_law_bad) := by
  unfold t_law_bad m_law_bad 
  exact (S_seq (S_asg (E_var 0) (G_tup (G_cons (G_name 1) (G_cons (G_name 2) G_nil))))
    (S_seq (S_asg (E_cb C_sortB (E_cons (E_cb C_dictP (E_cons (E_lc (I_seq (E_var 2)) (V_name 7 (by decide)) E_yes (E_tup (E_cons (E_op O_ix (E_op O_ix (E_var 7) (E_int 2)) (E_int 1)) (E_cons (E_int 1) E_nil)))) E_nil)) E_nil)) (G_name 3))
    (S_seq (S_asg (E_cell (N_lst E_nil)) (G_name 4))
    (S_seq (S_for (I_seq (E_var 3)) (G_name 5) (S_seq (S_asg (E_lc (I_seq (E_var 2)) (V_name 7 (by decide)) (E_test (E_op O_eq (E_op O_ix (E_op O_ix (E_var 7) (E_int 2)) (E_int 1)) (E_var 5))) (E_var 7)) (G_name 6))
    (S_if (E_not (E_B (E_call (f_law_has_order 9) (E_cons (E_var 1) (E_cons (E_var 6) (E_cons (E_lstRg1 (E_cb C_len (E_cons (E_var 6) E_nil))) (E_cons (E_op O_in (E_var 5) (E_var 1)) E_nil))))))) (S_drop (E_bm M_append (E_var 4) (E_cons (E_var 5) E_nil))) S_next)))
    (S_ret (E_var 4))))))
theorem len_law_bad (K : PySem.W.Frag) : ∀ vs H Q E, sp_law_bad K vs H Q E → vs.length = (["history"] : List Str).length := fun _ _ _ _ h => up_len h
theorem pure_law_bad (K : PySem.W.Frag) (vs : List V) (H : Hp) (Q : VK) (E : XK) (h : sp_law_bad K vs H Q E) : t_law_bad K { nx := fun _ H' => Q .non H', rt := Q } (start ["history", "keys", "entries", "wanted", "found", "key", "mine", "entry"] vs) H := up_run (tw := fun _ => t_law_bad K) (c_law_bad) (N := ["history", "keys", "entries", "wanted", "found", "key", "mine", "entry"]) rfl h
def b_law_cell_right_L1_1 : MS :=
  (mIfS (mB (mOp nNe (mOp nIs (mCall f_serial_order (mCons (mVar 9) mNil)) (mC .non)) (mOp nIn (mVar 8) (mVar 3)))) (mRet (mC (.bl false))) mNext)
def l_law_cell_right_1 : MS :=
  mSeq (mAsg (mTup (mCons (mOp nIx (mVar 2) (mC (.int 0))) (mCons (mLc (mAny (mOp nIx (mVar 2) (mC (.int 1)))) (hName 11) (mB (mOp nEq (mOp nIx (mOp nIx (mVar 11) (mC (.int 2))) (mC (.int 1))) (mVar 8))) (mVar 11) [11]) mNil))) (hName 9)) b_law_cell_right_L1_1
def b_law_cell_right_10 : MS :=
  (mRet ((mAndV (mCall (f_law_same 4) (mCons (mCall f_bad_keys (mCons (mVar 10) mNil)) (mCons (mVar 3) mNil))) (mOp nEq (mOp nIs (mCall f_order_by_keys (mCons (mVar 10) mNil)) (mC .non)) (mOp nNe (mVar 3) (mLst mNil))))))
def b_law_cell_right_9 : MS :=
  mSeq (mAsg (mTup (mCons (mCall f_law_mixed (mCons (mVar 0) (mCons (mOp nIx (mVar 2) (mC (.int 0))) mNil))) (mCons (mCall f_law_mixed (mCons (mVar 0) (mCons (mOp nIx (mVar 2) (mC (.int 1))) mNil))) mNil))) (hName 10)) b_law_cell_right_10
def b_law_cell_right_8 : MS :=
  mSeq (mForN (mCB nDictP (mCons (mLc (mAny (mOp nIx (mVar 2) (mC (.int 1)))) (hName 11) mYes (mTup (mCons (mOp nIx (mOp nIx (mVar 11) (mC (.int 2))) (mC (.int 1))) (mCons (mC (.int 1)) mNil))) [11]) mNil)) keysD (hName 8) l_law_cell_right_1) b_law_cell_right_9
def b_law_cell_right_7 : MS :=
  mSeq (mIfS ((mAnd (mB (mOp nIsnt (mVar 6) (mC .non))) ((mOr (mB (mOp nIsnt (mCall f_explains_history (mCons (mVar 2) (mCons (mVar 6) mNil))) (mC (.bl true)))) (mB (mOp nIsnt (mCall f_explains_history (mCons (mVar 2) (mCons (mVar 7) mNil))) (mC (.bl true)))))))) (mRet (mC (.bl false))) mNext) b_law_cell_right_8
def b_law_cell_right_6 : MS :=
  mSeq (mIfS ((mOr (mB (mOp nNe (mOp nIs (mVar 6) (mC .non)) (mOp nNe (mVar 3) (mLst mNil)))) (mB (mOp nNe (mOp nIs (mVar 7) (mC .non)) (mOp nNe (mVar 3) (mLst mNil)))))) (mRet (mC (.bl false))) mNext) b_law_cell_right_7
def b_law_cell_right_5 : MS :=
  mSeq (mPar 6 7 (mCons (mCall f_serial_order (mCons (mVar 2) mNil)) (mCons (mIf (mB (mVar 1)) (mCallP [0] 0 1 f_order_by_keys mNil (mCons (mVar 4) mNil)) (mCall f_order_by_keys (mCons (mVar 4) mNil))) mNil))) b_law_cell_right_6
def b_law_cell_right_4 : MS :=
  mSeq (mIfS ((mOr (mNot (mB (mCall (f_law_same 4) (mCons (mVar 5) (mCons (mVar 3) mNil))))) (mB (mOp nNe (mCB nRepr (mCons (mVar 4) mNil)) (mCB nRepr (mCons (mVar 2) mNil)))))) (mRet (mC (.bl false))) mNext) b_law_cell_right_5
def b_law_cell_right_3 : MS :=
  mSeq (mAsg (mIf (mB (mVar 1)) (mCallP [0] 0 1 f_bad_keys mNil (mCons (mVar 4) mNil)) (mCall f_bad_keys (mCons (mVar 4) mNil))) (hName 5)) b_law_cell_right_4
def b_law_cell_right_2 : MS :=
  mSeq (mPar 3 4 (mCons (mCall f_law_bad (mCons (mVar 2) mNil)) (mCons (mCall (f_law_copy 6) (mCons (mVar 2) mNil)) mNil))) b_law_cell_right_3
def b_law_cell_right_1 : MS :=
  mSeq (mAsg (mCall f_law_history (mCons (mVar 0) mNil)) (hName 2)) b_law_cell_right_2
def m_law_cell_right : MS :=
  mSeq (mAsg (mOp nEq (mCall f_law_take (mCons (mVar 0) (mCons (mC (.int 2)) mNil))) (mC (.int 1))) (hName 1)) b_law_cell_right_1
def f_law_cell_right : MP := dfn 12 1 (fun _ => m_law_cell_right)
abbrev sp_law_cell_right (K : PySem.W.Frag) : Sp := up K f_law_cell_right
def t_law_cell_right (K : PySem.W.Frag) : TS :=
  (tSeq (tAsg (tOp (rEqA K) (tCall (sp_law_take K) [] E0 (tCons (tVar 0) (tCons (tC (.int 2)) tNil))) (tC (.int 1))) (gName 1))
    (tSeq (tAsg (tCall (sp_law_history K) [] E0 (tCons (tVar 0) tNil)) (gName 2))
    (tSeq (tPar 3 4 (tCons (tCall (sp_law_bad K) [] E0 (tCons (tVar 2) tNil)) (tCons (tCall (sp_law_copy K 6) [] E0 (tCons (tVar 2) tNil)) tNil)))
    (tSeq (tAsg (tIf (tB (tVar 1)) (tCallP [0] 0 1 (sp_bad_keys K) (fun _ => E0) tNil (tCons (tVar 4) tNil)) (tCall (sp_bad_keys K) [] E0 (tCons (tVar 4) tNil))) (gName 5))
    (tSeq (tIfS ((tOr (tNot (tB (tCall (sp_law_same K 4) [] E0 (tCons (tVar 5) (tCons (tVar 3) tNil))))) (tTest (tOp (rNeA K) (tCB (rReprA K) (tCons (tVar 4) tNil)) (tCB (rReprA K) (tCons (tVar 2) tNil)))))) (tRet (tC (.bl false))) tNext)
    (tSeq (tPar 6 7 (tCons (tCall (sp_serial_order K) [] E0 (tCons (tVar 2) tNil)) (tCons (tIf (tB (tVar 1)) (tCallP [0] 0 1 (sp_order_by_keys K) (fun _ => E0) tNil (tCons (tVar 4) tNil)) (tCall (sp_order_by_keys K) [] E0 (tCons (tVar 4) tNil))) tNil)))
    (tSeq (tIfS ((tOr (tTest (tOp (rNeA K) (tOp rIsA (tVar 6) (tC .non)) (tOp (rNeA K) (tVar 3) (tLst tNil)))) (tTest (tOp (rNeA K) (tOp rIsA (tVar 7) (tC .non)) (tOp (rNeA K) (tVar 3) (tLst tNil)))))) (tRet (tC (.bl false))) tNext)
    (tSeq (tIfS ((tAnd (tTest (tOp rNotA (tVar 6) (tC .non))) ((tOr (tTest (tOp rNotA (tCall (sp_explains_history K) [] E0 (tCons (tVar 2) (tCons (tVar 6) tNil))) (tC (.bl true)))) (tTest (tOp rNotA (tCall (sp_explains_history K) [] E0 (tCons (tVar 2) (tCons (tVar 7) tNil))) (tC (.bl true)))))))) (tRet (tC (.bl false))) tNext)
    (tSeq (tFor (iKeysN (tCB (rDictP K) (tCons (tLc (iSeq K (tOp (rIxB K) (tVar 2) (tC (.int 1)))) (gName 11) tYes (tTup (tCons (tOp (rIxB K) (tOp (rIxB K) (tVar 11) (tC (.int 2))) (tC (.int 1))) (tCons (tC (.int 1)) tNil))) [11]) tNil))) (gName 8) (tSeq (tAsg (tTup (tCons (tOp (rIxB K) (tVar 2) (tC (.int 0))) (tCons (tLc (iSeq K (tOp (rIxB K) (tVar 2) (tC (.int 1)))) (gName 11) (tTest (tOp (rEqA K) (tOp (rIxB K) (tOp (rIxB K) (tVar 11) (tC (.int 2))) (tC (.int 1))) (tVar 8))) (tVar 11) [11]) tNil))) (gName 9))
    (tIfS (tTest (tOp (rNeA K) (tOp rIsA (tCall (sp_serial_order K) [] E0 (tCons (tVar 9) tNil)) (tC .non)) (tOp (rInB K) (tVar 8) (tVar 3)))) (tRet (tC (.bl false))) tNext)))
    (tSeq (tAsg (tTup (tCons (tCall (sp_law_mixed K) [] E0 (tCons (tVar 0) (tCons (tOp (rIxB K) (tVar 2) (tC (.int 0))) tNil))) (tCons (tCall (sp_law_mixed K) [] E0 (tCons (tVar 0) (tCons (tOp (rIxB K) (tVar 2) (tC (.int 1))) tNil))) tNil))) (gName 10))
    (tRet ((tAndV (tCall (sp_law_same K 4) [] E0 (tCons (tCall (sp_bad_keys K) [] E0 (tCons (tVar 10) tNil)) (tCons (tVar 3) tNil))) (tOp (rEqA K) (tOp rIsA (tCall (sp_order_by_keys K) [] E0 (tCons (tVar 10) tNil)) (tC .non)) (tOp (rNeA K) (tVar 3) (tLst tNil))))))))))))))))
theorem c_law_cell_right {K : PySem.W.Frag} : SS K (fun _ => t_law_cell_right K) (fun _ => m_law_cell_right) := by
  unfold t_law_cell_right m_law_cell_right b_law_cell_right_1 b_law_cell_right_2 b_law_cell_right_3 b_law_cell_right_4 b_law_cell_right_5 b_law_cell_right_6 b_law_cell_right_7 b_law_cell_right_8 b_law_cell_right_9 b_law_cell_right_10 l_law_cell_right_1 b_law_cell_right_L1_1
  exact (S_seq (S_asg (E_op O_eq (E_call f_law_take (E_cons (E_var 0) (E_cons (E_int 2) E_nil))) (E_int 1)) (G_name 1))
    (S_seq (S_asg (E_call f_law_history (E_cons (E_var 0) E_nil)) (G_name 2))
    (S_seq (S_par (E_cons (E_call f_law_bad (E_cons (E_var 2) E_nil)) (E_cons (E_call (f_law_copy 6) (E_cons (E_var 2) E_nil)) E_nil)))
    (S_seq (S_asg (E_if (E_B (E_var 1)) (E_callP [0] 0 1 f_bad_keys E_nil (E_cons (E_var 4) E_nil)) (E_call f_bad_keys (E_cons (E_var 4) E_nil))) (G_name 5))
    (S_seq (S_if ((E_or (E_not (E_B (E_call (f_law_same 4) (E_cons (E_var 5) (E_cons (E_var 3) E_nil))))) (E_test (E_op O_ne (E_cb C_repr (E_cons (E_var 4) E_nil)) (E_cb C_repr (E_cons (E_var 2) E_nil)))))) (S_ret (E_bl false)) S_next)
    (S_seq (S_par (E_cons (E_call f_serial_order (E_cons (E_var 2) E_nil)) (E_cons (E_if (E_B (E_var 1)) (E_callP [0] 0 1 f_order_by_keys E_nil (E_cons (E_var 4) E_nil)) (E_call f_order_by_keys (E_cons (E_var 4) E_nil))) E_nil)))
    (S_seq (S_if ((E_or (E_test (E_op O_ne (E_op O_is (E_var 6) (E_non)) (E_op O_ne (E_var 3) (E_lst E_nil)))) (E_test (E_op O_ne (E_op O_is (E_var 7) (E_non)) (E_op O_ne (E_var 3) (E_lst E_nil)))))) (S_ret (E_bl false)) S_next)
    (S_seq (S_if ((E_and (E_test (E_op O_isnt (E_var 6) (E_non))) ((E_or (E_test (E_op O_isnt (E_call f_explains_history (E_cons (E_var 2) (E_cons (E_var 6) E_nil))) (E_bl true))) (E_test (E_op O_isnt (E_call f_explains_history (E_cons (E_var 2) (E_cons (E_var 7) E_nil))) (E_bl true))))))) (S_ret (E_bl false)) S_next)
    (S_seq (S_forN (N_dictP (E_cons (E_lc (I_seq (E_op O_ix (E_var 2) (E_int 1))) (V_name 11 (by decide)) E_yes (E_tup (E_cons (E_op O_ix (E_op O_ix (E_var 11) (E_int 2)) (E_int 1)) (E_cons (E_int 1) E_nil)))) E_nil)) (G_name 8) (S_seq (S_asg (E_tup (E_cons (E_op O_ix (E_var 2) (E_int 0)) (E_cons (E_lc (I_seq (E_op O_ix (E_var 2) (E_int 1))) (V_name 11 (by decide)) (E_test (E_op O_eq (E_op O_ix (E_op O_ix (E_var 11) (E_int 2)) (E_int 1)) (E_var 8))) (E_var 11)) E_nil))) (G_name 9))
    (S_if (E_test (E_op O_ne (E_op O_is (E_call f_serial_order (E_cons (E_var 9) E_nil)) (E_non)) (E_op O_in (E_var 8) (E_var 3)))) (S_ret (E_bl false)) S_next)))
    (S_seq (S_asg (E_tup (E_cons (E_call f_law_mixed (E_cons (E_var 0) (E_cons (E_op O_ix (E_var 2) (E_int 0)) E_nil))) (E_cons (E_call f_law_mixed (E_cons (E_var 0) (E_cons (E_op O_ix (E_var 2) (E_int 1)) E_nil))) E_nil))) (G_name 10))
    (S_ret ((E_andV (E_call (f_law_same 4) (E_cons (E_call f_bad_keys (E_cons (E_var 10) E_nil)) (E_cons (E_var 3) E_nil))) (E_op O_eq (E_op O_is (E_call f_order_by_keys (E_cons (E_var 10) E_nil)) (E_non)) (E_op O_ne (E_var 3) (E_lst E_nil))))))))))))))))
theorem len_law_cell_right (K : PySem.W.Frag) : ∀ vs H Q E, sp_law_cell_right K vs H Q E → vs.length = (["box"] : List Str).length := fun _ _ _ _ h => up_len h
theorem pure_law_cell_right (K : PySem.W.Frag) (vs : List V) (H : Hp) (Q : VK) (E : XK) (h : sp_law_cell_right K vs H Q E) : t_law_cell_right K { nx := fun _ H' => Q .non H', rt := Q } (start ["box", "by_name", "history", "due", "given", "found", "whole", "put", "key", "alone", "other", "entry"] vs) H := up_run (tw := fun _ => t_law_cell_right K) (c_law_cell_right) (N := ["box", "by_name", "history", "due", "given", "found", "whole", "put", "key", "alone", "other", "entry"]) rfl h
def m_law : MS :=
  (mSeq (mFor (mRng1 (mCons (mC (.int 8)) mNil)) (hName 1) (mIfS (mNot (mB (mCall f_law_cell_right (mCons (mCall f_law_box (mCons (mCall f_law_cell (mCons (mVar 0) (mCons (mVar 1) mNil))) mNil)) mNil)))) (mRet (mC (.bl false))) mNext))
    (mRet (mC (.bl true))))
def f_law : MP := dfn 2 1 (fun _ => m_law)
abbrev sp_law (K : PySem.W.Frag) : Sp := up K f_law
def t_law (K : PySem.W.Frag) : TS :=
  (tSeq (tFor (iRng1 (tCons (tC (.int 8)) tNil)) (gName 1) (tIfS (tNot (tB (tCall (sp_law_cell_right K) [] E0 (tCons (tCall (sp_law_box K) [] E0 (tCons (tCall (sp_law_cell K) [] E0 (tCons (tVar 0) (tCons (tVar 1) tNil))) tNil)) tNil)))) (tRet (tC (.bl false))) tNext))
    (tRet (tC (.bl true))))
theorem c_law {K : PySem.W.Frag} : SS K (fun _ => t_law K) (fun _ => m_law) := by
  unfold t_law m_law 
  exact (S_seq (S_for (I_rng1 (E_cons (E_int 8) E_nil)) (G_name 1) (S_if (E_not (E_B (E_call f_law_cell_right (E_cons (E_call f_law_box (E_cons (E_call f_law_cell (E_cons (E_var 0) (E_cons (E_var 1) E_nil))) E_nil)) E_nil)))) (S_ret (E_bl false)) S_next))
    (S_ret (E_bl true)))
theorem len_law (K : PySem.W.Frag) : ∀ vs H Q E, sp_law K vs H Q E → vs.length = (["script"] : List Str).length := fun _ _ _ _ h => up_len h
theorem pure_law (K : PySem.W.Frag) (vs : List V) (H : Hp) (Q : VK) (E : XK) (h : sp_law K vs H Q E) : t_law K { nx := fun _ H' => Q .non H', rt := Q } (start ["script", "k"] vs) H := up_run (tw := fun _ => t_law K) (c_law) (N := ["script", "k"]) rfl h
end Z
namespace Z
open PySem PySem.Spec PyProof.Rows L2 Evl
namespace Hs
inductive To where
  | d | r | n (i : Int)
  deriving DecidableEq
structure Ent where
  b : Int
  e : Int
  k : Str
  y : Int
  t : To
def e0 : Ent := ⟨0, 1, "put", 0, .d⟩
def ent (xs : List Ent) (i : Nat) : Ent := xs.getD i e0
def may (xs : List Ent) (left : List Nat) (i : Nat) : Bool := left.all fun o => !decide ((ent xs o).e < (ent xs i).b)
def fits (x : Ent) (t : Bool) : Bool := if x.k = ("put" : Str) then decide (x.t = .r) == t else decide (x.t = .n (if t then 1 else 0))
def rowB (x : Ent) (t : Bool) : Bool := !decide (x.k = ("strike" : Str)) && (t || decide (x.k = ("put" : Str)))
def aft (l : List Int) (x : Ent) : List Int := (l.filter fun z => !decide (z = x.y)) ++ if rowB x (decide (x.y ∈ l)) then [x.y] else []
def good (xs : List Ent) : List Int → List Nat → Bool
  | _, [] => true
  | l, i :: r => may xs r i && fits (ent xs i) (decide ((ent xs i).y ∈ l)) && good xs (aft l (ent xs i)) r
def orderF (xs : List Ent) : Nat → List Nat → List Int → Option (List Nat)
  | 0, left, _ => if left = [] then some [] else none
  | n + 1, left, l => if left = [] then some [] else left.findSome? fun i => if (may xs left i && fits (ent xs i) (decide ((ent xs i).y ∈ l))) = true then (orderF xs n (left.filter fun o => !decide (o = i)) (aft l (ent xs i))).map (i :: ·) else none
def permsF : Nat → List Nat → List (List Nat)
  | 0, _ => [[]]
  | n + 1, left => left.flatMap fun x => (permsF n (left.filter fun o => !decide (o = x))).map (x :: ·)
theorem len_filter {L : List Nat} (nd : L.Nodup) {x : Nat} (h : x ∈ L) : (L.filter fun o => !decide (o = x)).length + 1 = L.length := by
  induction L with
  | nil => cases h
  | cons a L ih =>
    rw [List.nodup_cons] at nd
    rw [List.filter_cons]
    by_cases c : a = x
    · subst c
      rw [if_neg (by simp)]
      rw [List.filter_eq_self.2 fun o ho => by
        have : o ≠ a := fun q => nd.1 (q ▸ ho)
        simp [this]]
      rfl
    · rw [if_pos (by simp [c])]
      rcases List.mem_cons.1 h with h | h
      · exact absurd h.symm c
      · rw [List.length_cons, List.length_cons, ih nd.2 h]
theorem perm_filter {L : List Nat} (nd : L.Nodup) {x : Nat} (h : x ∈ L) : (x :: L.filter fun o => !decide (o = x)).Perm L := by
  induction L with
  | nil => cases h
  | cons a L ih =>
    rw [List.nodup_cons] at nd
    rw [List.filter_cons]
    by_cases c : a = x
    · subst c
      rw [if_neg (by simp)]
      rw [List.filter_eq_self.2 fun o ho => by
        have : o ≠ a := fun q => nd.1 (q ▸ ho)
        simp [this]]
    · rw [if_pos (by simp [c])]
      rcases List.mem_cons.1 h with h | h
      · exact absurd h.symm c
      · exact (List.Perm.swap a x _).trans ((ih nd.2 h).cons a)
theorem perms_perm : ∀ {n : Nat} {L o : List Nat}, L.Nodup → L.length = n → o ∈ permsF n L → o.Perm L
  | 0, L, o, _, hl, h => by
    have e : L = [] := List.length_eq_zero_iff.1 hl
    subst e
    rw [List.mem_singleton.1 h]
  | n + 1, L, o, nd, hl, h => by
    obtain ⟨x, hx, h⟩ := List.mem_flatMap.1 h
    obtain ⟨o', h', rfl⟩ := List.mem_map.1 h
    have l1 := len_filter nd hx
    have p := perms_perm (nd.filter _) (by omega) h'
    exact (p.cons x).trans (perm_filter nd hx)
theorem find_congr {α : Type} {p q : α → Bool} : ∀ {l : List α}, (∀ a ∈ l, p a = q a) → l.find? p = l.find? q
  | [], _ => rfl
  | a :: l, h => by
    rw [List.find?_cons, List.find?_cons, h a (List.mem_cons_self ..), find_congr fun b hb => h b (List.mem_cons_of_mem _ hb)]
theorem findSome_congr {α β : Type} {f g : α → Option β} : ∀ {l : List α}, (∀ a ∈ l, f a = g a) → l.findSome? f = l.findSome? g
  | [], _ => rfl
  | a :: l, h => by
    rw [List.findSome?_cons, List.findSome?_cons, h a (List.mem_cons_self ..), findSome_congr fun b hb => h b (List.mem_cons_of_mem _ hb)]
theorem may_perm {xs : List Ent} {o left : List Nat} {i : Nat} (be : ∀ i, (ent xs i).b < (ent xs i).e) (p : (i :: o).Perm left) : may xs o i = may xs left i := by
  have h : may xs left i = may xs (i :: o) i := by
    unfold may
    rw [Bool.eq_iff_iff, List.all_eq_true, List.all_eq_true]
    exact ⟨fun h x hx => h x (p.mem_iff.1 hx), fun h x hx => h x (p.mem_iff.2 hx)⟩
  rw [h]
  unfold may
  rw [List.all_cons]
  have : ¬ (ent xs i).e < (ent xs i).b := by have := be i; omega
  have h2 : (!decide ((ent xs i).e < (ent xs i).b)) = true := by rw [decide_eq_false this]; rfl
  rw [h2, Bool.true_and]
/-- the first order by search is the first good one of all orders -/
theorem order_find {xs : List Ent} (be : ∀ i, (ent xs i).b < (ent xs i).e) : ∀ {n : Nat} {left : List Nat} {l : List Int}, left.Nodup → left.length = n → ∀ m, n ≤ m → orderF xs m left l = (permsF n left).find? (good xs l)
  | 0, left, l, _, hl, m, _ => by
    have e : left = [] := List.length_eq_zero_iff.1 hl
    subst e
    cases m <;> rfl
  | n + 1, left, l, nd, hl, m, hm => by
    obtain ⟨m, rfl⟩ : ∃ k, m = k + 1 := ⟨m - 1, by omega⟩
    have ne : left ≠ [] := fun q => by rw [q] at hl; simp at hl
    unfold orderF permsF
    rw [if_neg ne, List.find?_flatMap]
    refine findSome_congr fun x hx => ?_
    have l1 := len_filter nd hx
    rw [order_find (n := n) be (nd.filter _) (by omega) m (by omega), List.find?_map]
    have e : ∀ o ∈ permsF n (left.filter fun o => !decide (o = x)), ((good xs l) ∘ (x :: ·)) o = ((may xs left x && fits (ent xs x) (decide ((ent xs x).y ∈ l))) && good xs (aft l (ent xs x)) o) := fun o ho => by
      have p := perms_perm (nd.filter _) (by omega) ho
      have mp := may_perm be ((p.cons x).trans (perm_filter nd hx))
      have eq : good xs l (x :: o) = (may xs o x && fits (ent xs x) (decide ((ent xs x).y ∈ l)) && good xs (aft l (ent xs x)) o) := rfl
      rw [mp] at eq
      exact eq
    rw [find_congr e]
    cases c : may xs left x && fits (ent xs x) (decide ((ent xs x).y ∈ l)) with
    | true =>
      rw [if_pos rfl]
      simp only [Bool.true_and]
    | false =>
      rw [if_neg (by simp)]
      have : ∀ L : List (List Nat), L.find? (fun o => false && good xs (aft l (ent xs x)) o) = none := fun L => List.find?_eq_none.2 fun a _ => by simp
      rw [this]
      rfl
/-- only what is a member counts -/
theorem aft_mem {l : List Int} {x : Ent} {z : Int} : z ∈ aft l x ↔ if z = x.y then rowB x (decide (x.y ∈ l)) = true else z ∈ l := by
  unfold aft
  rw [List.mem_append, List.mem_filter]
  by_cases h : z = x.y
  · subst h
    cases hc : rowB x (decide (x.y ∈ l)) <;> simp
  · cases hc : rowB x (decide (x.y ∈ l)) <;> simp [h]
/-- the law's own keeping of what is there -/
def aftL (l : List Int) (x : Ent) : List Int := if x.k = ("put" : Str) ∧ x.y ∉ l then l ++ [x.y] else if x.k = ("strike" : Str) then l.filter fun z => !decide (z = x.y) else l
theorem aftL_mem {l : List Int} {x : Ent} {z : Int} : z ∈ aftL l x ↔ z ∈ aft l x := by
  rw [aft_mem]
  have ps : ("put" : Str) ≠ ("strike" : Str) := by decide
  unfold aftL rowB
  by_cases h1 : x.k = ("put" : Str)
  · have h2 : ¬ x.k = ("strike" : Str) := by rw [h1]; decide
    by_cases h3 : x.y ∈ l
    · rw [if_neg (by simp [h3]), if_neg h2]
      by_cases h : z = x.y <;> simp [h, h1, h2, h3, ps]
    · rw [if_pos ⟨h1, h3⟩, List.mem_append, List.mem_singleton]
      by_cases h : z = x.y <;> simp [h, h1, h2, h3, ps]
  · rw [if_neg (by simp [h1])]
    by_cases h2 : x.k = ("strike" : Str)
    · rw [if_pos h2, List.mem_filter]
      by_cases h : z = x.y <;> simp [h, h1, h2]
    · rw [if_neg h2]
      by_cases h : z = x.y <;> simp [h, h1, h2]
/-- a serial run of entries one behind another -/
def runE : List Int → List Ent → Option (List Int)
  | l, [] => some l
  | l, x :: r => if fits x (decide (x.y ∈ l)) = true then runE (aft l x) r else none
theorem run_snoc : ∀ {xs : List Ent} {l l' : List Int} {x : Ent}, runE l xs = some l' → fits x (decide (x.y ∈ l')) = true → runE l (xs ++ [x]) = some (aft l' x)
  | [], l, l', x, h, f => by
    cases h
    show (if fits x (decide (x.y ∈ l)) = true then runE (aft l x) [] else none) = _
    rw [if_pos f]
    rfl
  | a :: r, l, l', x, h, f => by
    unfold runE at h
    show (if fits a (decide (a.y ∈ l)) = true then runE (aft l a) (r ++ [x]) else none) = _
    split at h
    · rename_i c
      rw [if_pos c]
      exact run_snoc h f
    · cases h
/-- entries whose times reach around the points of a serial run are explained by the order that they stand in -/
theorem good_run {xs : List Ent} : ∀ {m k : Nat} {l l' : List Int}, k + m = xs.length → runE l (xs.drop k) = some l' → (∀ i j, i < j → j < xs.length → (ent xs i).b ≤ (ent xs j).e) → good xs l (List.range' k m) = true
  | 0, _, _, _, _, _, _ => rfl
  | m + 1, k, l, l', hm, h, t => by
    have lt : k < xs.length := by omega
    rw [List.drop_eq_getElem_cons lt] at h
    have ex : ent xs k = xs[k] := by unfold ent; rw [List.getD_eq_getElem?_getD, List.getElem?_eq_getElem lt]; rfl
    unfold runE at h
    split at h
    · rename_i c
      rw [List.range'_succ]
      unfold good
      rw [ex, c, good_run (by omega) h t]
      have : may xs (List.range' (k + 1) m) k = true := by
        unfold may
        rw [List.all_eq_true]
        intro o ho
        obtain ⟨i, hi, rfl⟩ := List.mem_range'.1 ho
        have := t k (k + 1 + 1 * i) (by omega) (by omega)
        simp only [Bool.not_eq_true', decide_eq_false_iff_not]
        omega
      rw [this]
      rfl
    · cases h
end Hs
end Z
namespace Z
open PySem PySem.Spec PyProof.Rows L2 Evl
theorem forL_xs {α : Type} {still : Mem → Prop} {g : MG} {tb : MS} {D : En} {n : Nat} (f : α → Da) (xs : List α) {ρ : Sl} {M : Mem} (P : List α → List α → Sl → Mem → Prop) (h0 : P [] xs ρ M)
    (hs : ∀ p x r ρ M, xs = p ++ x :: r → P p (x :: r) ρ M → ∀ C : Sl → Mem → Prop, (∀ ρ' M' ρ3 M3, Wk n ρ' M' ρ3 M3 → still M3 → P (p ++ [x]) r ρ3 M3 → C ρ' M') → g (f x) ρ M fun ρ1 M1 => tb { nx := C, rt := D.rt, bk := D.nx, ct := C } ρ1 M1)
    (he : ∀ ρ M, P xs [] ρ M → D.nx ρ M) : forL still g tb D n (xs.map f) ρ M := by
  have go : ∀ (r p : List α) (ρ : Sl) (M : Mem), xs = p ++ r → P p r ρ M → forL still g tb D n (r.map f) ρ M := by
    intro r
    induction r with
    | nil =>
      intro p ρ M e h
      rw [List.append_nil] at e
      subst e
      exact he ρ M h
    | cons x r ih =>
      intro p ρ M e h
      rw [List.map_cons]
      unfold forL
      exact hs p x r ρ M e h _ fun ρ' M' ρ3 M3 w s p' => ⟨ρ3, M3, w, s, ih (p ++ [x]) ρ3 M3 (by rw [List.append_assoc]; exact e) p'⟩
  exact go xs [] ρ M rfl h0
/-- a comprehension over a mapped list that changes nothing -/
theorem lcL_xs {α : Type} {still : Mem → Prop} {g : MG} {tt : MT} {te : ME} {vs : List Nat} {ρ : Sl} {M : Mem} {Q : TK} (f : α → Da) (xs : List α) (p : α → Bool) (h : α → Da) (sl : α → Sl)
    (hg : ∀ x ∈ xs, ∀ R : Sl → Mem → Prop, R (sl x) M → g (f x) (wipeD ρ vs) M R)
    (ht : ∀ x ∈ xs, ∀ R : Bool → Mem → Prop, R (p x) M → tt (sl x) M R) (hf : ∀ x ∈ xs, p x = true → ∀ R : TK, R (h x) M → te (sl x) M R) (hS : still M) (q : Q (.lst ((xs.filter p).map h)) M) :
    lcL still g tt te vs ρ (xs.map f) [] M Q := by
  have go : ∀ (r : List α) (acc : List Da), (∀ x ∈ r, x ∈ xs) → (Q (.lst (acc ++ (r.filter p).map h)) M) → lcL still g tt te vs ρ (r.map f) acc M Q := by
    intro r
    induction r with
    | nil => intro acc _ q; rw [List.filter_nil, List.map_nil, List.append_nil] at q; exact q
    | cons x r ih =>
      intro acc hm q
      have hx := hm x (List.mem_cons_self ..)
      have hr : ∀ y ∈ r, y ∈ xs := fun y hy => hm y (List.mem_cons_of_mem _ hy)
      rw [List.map_cons]
      unfold lcL
      refine hg x hx _ (ht x hx _ ?_)
      cases c : p x with
      | true =>
        refine iteT (hf x hx c _ ⟨hS, ih _ hr ?_⟩)
        rw [List.filter_cons, if_pos c, List.map_cons] at q
        rw [List.append_assoc]
        exact q
      | false =>
        refine iteF ⟨hS, ih _ hr ?_⟩
        rw [List.filter_cons, if_neg (by rw [c]; simp)] at q
        exact q
  exact go xs [] (fun _ h => h) q
end Z
namespace Z
open PySem PySem.Spec PyProof.Rows L2 Evl
theorem leave_cl {Q : TK} {M S : Mem} {d : Da} (cM : cloL M.length M = true) (cd : cloD M.length d = true) (q : Q d M) : leave M.length Q d (M ++ S) := ⟨_, M, .inr ⟨by simp, by simp, cM, frz_clo cd⟩, q⟩
theorem get3b {α : Type} (R : List α) (x y z : α) : (R ++ [x, y, z])[R.length + 1]? = some y := by simp
theorem get3c {α : Type} (R : List α) (x y z : α) : (R ++ [x, y, z])[R.length + 2]? = some z := by simp
theorem set3b {α : Type} (R : List α) (x y z w : α) : (R ++ [x, y, z]).set (R.length + 1) w = R ++ [x, w, z] := by simp
theorem set3c {α : Type} (R : List α) (x y z w : α) : (R ++ [x, y, z]).set (R.length + 2) w = R ++ [x, y, w] := by simp
theorem pop_get {α : Type} (xs : List α) (y : α) : (xs ++ [y])[(xs ++ [y]).length - 1]? = some y := by simp
theorem look_app {M S : Mem} {d : Da} (c : cloD M.length d = true) : look (M ++ S) d = look M d := by
  cases d with
  | cell n =>
    have l : n < M.length := by
      unfold cloD at c
      exact of_decide_eq_true c
    rw [look_cell, look_cell, List.getElem?_append_left l]
  | _ => rfl
theorem slClo_nil {n : Nat} : slClo n [] [] := ⟨rfl, fun i d h => by simp at h⟩
theorem slClo_none {n : Nat} {a : Option Da} {ρ ρ' : Sl} (h : slClo n ρ ρ') : slClo n (a :: ρ) (none :: ρ') := ⟨by simp [h.1], fun i d e => by
  cases i with
  | zero => simp at e
  | succ i => simpa using h.2 i d (by simpa using e)⟩
theorem slClo_keep {n : Nat} {d : Da} {ρ ρ' : Sl} (c : cloD n d = true) (h : slClo n ρ ρ') : slClo n (some d :: ρ) (some d :: ρ') := ⟨by simp [h.1], fun i e q => by
  cases i with
  | zero =>
    simp at q
    subst q
    exact ⟨rfl, c⟩
  | succ i => simpa using h.2 i e (by simpa using q)⟩
theorem Wk.cut {M S : Mem} {ρ ρ' : Sl} (cM : cloL M.length M = true) (h : slClo M.length ρ ρ') : Wk M.length ρ (M ++ S) ρ' M := .inr ⟨by simp, by simp, cM, h⟩
end Z
namespace Z
open PySem PySem.Spec PyProof.Rows L2 Evl
end Z
namespace Z
open PySem PySem.Spec PyProof.Rows L2 Evl
theorem get2a {α : Type} (R : List α) (x y : α) : (R ++ [x, y])[R.length]? = some x := by simp
theorem get2b {α : Type} (R : List α) (x y : α) : (R ++ [x, y])[R.length + 1]? = some y := by simp
theorem set2a {α : Type} (R : List α) (x y z : α) : (R ++ [x, y]).set R.length z = R ++ [z, y] := by simp
theorem set2b {α : Type} (R : List α) (x y z : α) : (R ++ [x, y]).set (R.length + 1) z = R ++ [x, z] := by simp
end Z
open Z in
local macro_rules | `(tactic| walk_at "m") => `(tactic| try simp only [Z.mSeq, Z.mIfS, Z.mRet, Z.mRetN, Z.mNext, Z.mDrop, Z.mAsg, Z.hName, Z.mVar, Z.mC, Z.mOp, Z.mOpR, Z.mOpL, Z.mNeg, Z.mNotV, Z.mAndV, Z.mOrV, Z.mChain, Z.mIf, Z.mB, Z.mNot, Z.mAnd, Z.mOr, Z.mYes, Z.mNil, Z.mCons, Z.mTup, Z.mLst, Z.mDNew,
  Z.mDisp, Z.mPairs, Z.keyD, Z.mSl, Z.mNoPart, Z.mPart, Z.mCB, Z.mBM, Z.mBM0, Z.mCall, Z.mCallS, Z.mCallP, Z.mCallPS, Z.mCell, Z.mPar, Z.mPar3, Z.mAny, Z.mEnum, Z.mStar, Z.nCount, Z.nIndex, Z.mRng1, Z.mRng2, Z.mLc, Z.wipeD, Z.mFor, Z.hTup, Z.hCons, Z.hNil, Z.hStar, Z.hSub, Z.mXf, Z.mFld, Z.mFldS, Z.mMeth, Z.mMethS, Z.mMake, Z.mMakeS, Z.nLenO, Z.nEqO, Z.nInO, Z.nNinO, Z.nIsiO, Z.nEqK, Z.mDc, Z.mLc2, Z.mEnumA, Z.mForK, Z.keysD, Z.mLenSet, Z.nSum, Z.nAbs, Z.mLstRg1, Z.mLstRg2, Z.mStarA, Z.get2a, Z.get2b, Z.set2a, Z.set2b, Z.get3b, Z.get3c, Z.set3b, Z.set3c, Z.pop_get, Z.mForN, Z.mSortSet, Z.keysI, Z.nDictP, Z.unbD, Z.bndD, Z.lookup_one, Z.mRaise, Z.mTry,
  Z.nAdd, Z.nSub, Z.nMul, Z.nDiv, Z.nMod, Z.nPow, Z.nEq, Z.nNe, Z.nLt, Z.nLe, Z.nGt, Z.nGe, Z.nIs, Z.nIsnt, Z.nIn, Z.nNin, Z.nInR, Z.nIx, Z.nSl, Z.nIsi, Z.nLen, Z.nMax, Z.nMin, Z.nAll, Z.nAny, Z.nList, Z.nTupC, Z.nInt, Z.nStr, Z.nJoin, Z.nAppend, Z.nExtend, Z.nInsert, Z.nPop, Z.nGet, Z.nInK, Z.nNinK, Z.nIxK, Z.nSet,
  Z.pd, Z.pdL, Z.plD, Z.plL, Z.dpD, Z.dpL, Z.eqD_non_non, Z.eqD_non_bl, Z.eqD_non_int, Z.eqD_non_str, Z.eqD_non_tup, Z.eqD_non_lst, Z.eqD_non_dct, Z.eqD_non_obj, Z.eqD_bl_non, Z.eqD_bl_bl, Z.eqD_bl_int, Z.eqD_bl_str, Z.eqD_bl_tup, Z.eqD_bl_lst, Z.eqD_bl_dct, Z.eqD_bl_obj, Z.eqD_int_non, Z.eqD_int_bl, Z.eqD_int_int, Z.eqD_int_str, Z.eqD_int_tup, Z.eqD_int_lst, Z.eqD_int_dct, Z.eqD_int_obj, Z.eqD_str_non, Z.eqD_str_bl, Z.eqD_str_int, Z.eqD_str_str, Z.eqD_str_tup, Z.eqD_str_lst, Z.eqD_str_dct, Z.eqD_str_obj, Z.eqD_tup_non, Z.eqD_tup_bl, Z.eqD_tup_int, Z.eqD_tup_str, Z.eqD_tup_tup, Z.eqD_tup_lst, Z.eqD_tup_dct, Z.eqD_tup_obj, Z.eqD_lst_non, Z.eqD_lst_bl, Z.eqD_lst_int, Z.eqD_lst_str, Z.eqD_lst_tup, Z.eqD_lst_lst, Z.eqD_lst_dct, Z.eqD_lst_obj, Z.eqD_dct_non, Z.eqD_dct_bl, Z.eqD_dct_int, Z.eqD_dct_str, Z.eqD_dct_tup, Z.eqD_dct_lst, Z.eqD_dct_dct, Z.eqD_dct_obj, Z.eqD_obj_non, Z.eqD_obj_bl, Z.eqD_obj_int, Z.eqD_obj_str, Z.eqD_obj_tup, Z.eqD_obj_lst, Z.eqD_obj_dct, Z.eqD_obj_obj, Z.eqL_nn, Z.eqL_nc, Z.eqL_cn, Z.eqL_cc, decide_true, decide_false, Nat.max_self, Nat.zero_max, Nat.max_zero, decide_eq_true_eq, Bool.or_false, Bool.and_true, Bool.true_and, Bool.and_false, Bool.false_and, Z.tyB, Z.tyTs, List.mem_cons, List.not_mem_nil, or_false, false_or, or_true, true_or, Bool.or_true, Bool.true_or, Bool.false_or, Bool.not_eq_true', decide_eq_false_iff_not, String.reduceBEq, String.reduceEq, beq_self_eq_true, Z.natc_0, Z.natc_1, Z.natc_2, Z.natc_3, Z.natc_4, Z.natc_5, Z.natc_6, Z.natc_7, Z.natc_8, Z.natc_9, Z.natc_10, Z.natc_11, Z.natc_12, Z.natc_13, Z.natc_14, Z.natc_15, Z.natc_16, List.map_cons, List.map_nil, Z.chS, Z.get_last, Z.set_last, List.getD_eq_getElem?_getD, Option.getD_some, Option.getD_none, Z.ixN_0, Z.ixN_1, Z.ixN_2, Z.atI_0, Z.atI_1, Z.atI_2, Z.atI_3, Z.atI_4, Z.atI_m1, Z.look_non, Z.look_bl, Z.look_int, Z.look_str, Z.look_tup, Z.look_lst, Z.look_dct, Z.look_obj, Z.look_ty, Z.look_gl, Z.look_exv, Z.lookE_non, Z.lookE_bl, Z.lookE_int, Z.lookE_str, Z.lookE_tup, Z.lookE_lst, Z.lookE_dct, Z.lookE_obj, Z.lookE_ty, Z.lookE_gl, Z.lookE_exv, Z.look_cell, Z.lookE_cell, Z.look_kl, Z.look_kt, Z.tyDa_non, Z.tyDa_bl, Z.tyDa_int, Z.tyDa_str, Z.tyDa_tup, Z.tyDa_lst, Z.tyDa_dct, Z.tyDa_kt, Z.tyDa_cell, Z.nonD_non, Z.nonD_bl, Z.nonD_int, Z.nonD_str, Z.nonD_tup, Z.nonD_lst, Z.nonD_dct, Z.nonD_obj, Z.nonD_ty, Z.nonD_gl, Z.nonD_exv, Z.seqD, Z.itD, Z.cellL, Z.okM_list, Z.okM_str, Z.okM_dict, Z.okS_str, Z.okLs, Z.okDc, Z.perm,
  List.getElem?_cons_zero, List.getElem?_cons_succ, List.set_cons_zero, List.set_cons_succ, List.getD_cons_zero, List.getD_cons_succ, List.length_cons, List.length_nil, List.cons_append, List.nil_append, List.append_nil, List.filterMap_cons, List.filterMap_nil,
  if_true, if_false, Bool.false_eq_true, and_true, true_and, Nat.reduceAdd, Nat.reduceLeDiff, Int.reduceEq, Int.reduceLT, Int.reduceLE, Int.reduceAdd, Int.reduceSub, Int.reduceMul, Int.reduceNeg, Int.reduceMod, Int.reduceDiv, Nat.reduceEqDiff, Nat.reduceSub, not_true_eq_false, not_false_eq_true, Option.some.injEq, reduceCtorEq, List.cons.injEq, exists_eq_left, exists_eq_left', Bool.not_true, Bool.not_false])
open Z in
local macro_rules | `(tactic| walk_at "m1") => `(tactic| simp only [Z.dfn, Z.startD, List.map_cons, List.map_nil, List.length_cons, List.length_nil, Nat.reduceAdd, Nat.reduceSub, List.replicate_succ, List.replicate_zero, List.cons_append, List.nil_append, List.append_nil, true_and, and_true])
open Z in
local macro_rules | `(tactic| walk_at "m0") => `(tactic| (walk_at "m1"; refine fun _ _ => ?_))
open Z in
local macro_rules | `(tactic| walk_at "in") => `(tactic| simp only [Z.anyEq, List.any_cons, List.any_nil, Z.eqD, Z.eqL, Bool.or_false, Bool.and_true, Bool.true_and, Bool.and_false, Bool.false_and, Bool.or_eq_true, Bool.and_eq_true, decide_eq_true_eq, Bool.or_eq_false_iff, decide_eq_false_iff_not, not_or])
open Z in
local macro_rules | `(tactic| walk_at "g") => `(tactic| simp only [Z.hTup, Z.hTL, Z.hCons, Z.hNil, Z.hName, Z.look_tup, Z.look_lst, List.set_cons_zero, List.set_cons_succ, List.length_cons, List.length_nil, Nat.reduceAdd, true_and, and_true])
namespace Z
open PySem PySem.Spec PyProof.Rows L2 Evl
open Hs
def toD : To → Da
  | .d => .str "done"
  | .r => .str "refused"
  | .n i => .int i
def entD (x : Ent) : Da := .tup [.int x.b, .int x.e, .tup [.str x.k, .int x.y], toD x.t]
def EntOk (x : Ent) : Prop := x.b < x.e ∧ ((x.k = ("put" : Str) ∧ (x.t = .d ∨ x.t = .r)) ∨ ((x.k = ("strike" : Str) ∨ x.k = ("read" : Str)) ∧ ∃ i, x.t = .n i))
def intB : Da → Bool
  | .int _ => true
  | _ => false
section
variable {M : Mem} {Q : TK} {E : XD} {D : En} {d : Da} {x : Ent} {t : Bool} {xs : List Ent} {l : List Int} {left : List Nat} {i : Nat}
theorem is_integer_ok (h : pdd d = true) (q : Q (.bl (intB d)) M) : f_is_integer [d] M Q E := by
  unfold f_is_integer m_is_integer
  walk_at "m0"
  cases d with
  | ty _ => cases h
  | gl _ => cases h
  | obj _ _ => cases h
  | kl _ => cases h
  | kt _ => cases h
  | cell _ => cases h
  | exv _ _ _ _ => cases h
  | _ =>
    walk_at "m"
    exact leave_same q
theorem toD_pl (t : To) : plD (toD t) = true ∧ dpD (toD t) = 0 := by cases t <;> exact ⟨rfl, rfl⟩
theorem is_entry_ok (ok : EntOk x) (q : Q (.bl true) M) : f_is_entry [entD x] M Q E := by
  obtain ⟨b, e, k, y, t⟩ := x
  obtain ⟨h0, h⟩ := ok
  unfold f_is_entry m_is_entry
  walk_at "m0"
  unfold entD
  walk_at "m"
  refine is_integer_ok rfl ?_
  walk_at "m"
  refine is_integer_ok rfl ?_
  walk_at "m"
  refine ite2 (fun c => by cases c) (fun _ => ?_)
  refine ite2 (fun c => by have h0 : b < e := h0; omega) (fun _ => ?_)
  rcases h with ⟨hk, ht⟩ | ⟨hk, i, ht⟩
  · have hk : k = ("put" : Str) := hk
    subst hk
    refine ⟨by decide, ite2 (fun c => by cases c) (fun _ => is_integer_ok rfl ?_)⟩
    walk_at "m"
    rw [lookE_pl (toD_pl t).1]
    refine ite2 (fun c => by cases c) (fun _ => ⟨by rw [(toD_pl t).1, (toD_pl t).2]; decide, leave_same ?_⟩)
    rcases ht with ht | ht
    · have ht : t = .d := ht
      subst ht
      exact q
    · have ht : t = .r := ht
      subst ht
      exact q
  · have ht : t = .n i := ht
    subst ht
    have kp : ¬ k = ("put" : Str) := by
      rcases hk with hk | hk
      · have hk : k = _ := hk
        rw [hk]; decide
      · have hk : k = _ := hk
        rw [hk]; decide
    have ka : anyEq (.str k) tab_ASKED = true := by
      rcases hk with hk | hk
      · have hk : k = _ := hk
        rw [hk]; decide
      · have hk : k = _ := hk
        rw [hk]; decide
    refine ⟨by decide, ite2 (fun c => by rw [ka] at c; cases c) (fun _ => is_integer_ok rfl ?_)⟩
    walk_at "m"
    exact ite2 (fun c => by cases c) (fun _ => ite2 (fun c => absurd c kp) (fun _ => is_integer_ok rfl (leave_same q)))
theorem fits_now_ok (ok : EntOk x) (q : Q (.bl (fits x t)) M) : f_fits_now [entD x, .bl t] M Q E := by
  obtain ⟨b, e, k, y, u⟩ := x
  unfold f_fits_now m_fits_now
  walk_at "m0"
  unfold entD
  walk_at "m"
  rw [lookE_pl (toD_pl u).1]
  refine ite2 (fun c => ⟨by rw [(toD_pl u).1, (toD_pl u).2]; decide, leave_same ?_⟩) (fun c => ⟨by rw [(toD_pl u).1, (toD_pl u).2]; decide, leave_same ?_⟩)
  · refine q_bd q ?_
    unfold fits
    rw [if_pos c]
    have e1 : eqD (toD u) (.str "refused") = decide (u = .r) := by
      cases u with
      | d => decide
      | r => decide
      | n i => exact (decide_eq_false (by simp)).symm
    rw [e1]
    show decide (_ = t) = (decide (u = .r) == t)
    generalize decide (u = To.r) = c
    cases c <;> cases t <;> rfl
  · refine q_bd q ?_
    unfold fits
    rw [if_neg c]
    cases u with
    | d => rfl
    | r => rfl
    | n i =>
      show decide (i = _) = decide (To.n i = _)
      simp only [To.n.injEq]
theorem row_after_ok (q : Q (.bl (rowB x t)) M) : f_row_after [entD x, .bl t] M Q E := by
  obtain ⟨b, e, k, y, u⟩ := x
  unfold f_row_after m_row_after
  walk_at "m0"
  unfold entD
  walk_at "m"
  refine ite2 (fun c => leave_same (q_bd q ?_)) (fun c => ite2 (fun c2 => leave_same (q_bd q ?_)) (fun c2 => leave_same (q_bd q ?_)))
  · unfold rowB
    have c : k = _ := c
    simp [c]
  · unfold rowB
    simp [c, c2]
  · unfold rowB
    have c2 : t = false := by cases t <;> first | rfl | exact absurd rfl c2
    simp [c, c2]
theorem at_ent (h : i < xs.length) : atI (xs.map entD) (i : Int) = some (entD (ent xs i)) := by
  rw [atI_nat', List.getElem?_map, List.getElem?_eq_getElem h, ent, List.getD_eq_getElem?_getD, List.getElem?_eq_getElem h]
  rfl
theorem may_come_ok (h6 : left.length ≤ 1000000) (hl : ∀ o ∈ left, o < xs.length) (hi : i < xs.length) (q : Q (.bl (may xs left i)) M) : f_may_come [.lst (xs.map entD), .lst (left.map fun o : Nat => Da.int o), .int i] M Q E := by
  unfold f_may_come m_may_come
  walk_at "m0"
  walk_at "m"
  refine ⟨by rw [List.length_map]; exact h6, ?_⟩
  refine lcL_xs (fun o : Nat => Da.int o) left (fun _ => true) (fun o => .bl (decide ((ent xs o).e < (ent xs i).b))) (fun o : Nat => [some (.lst (xs.map entD)), some (.lst (left.map fun o : Nat => Da.int o)), some (.int i), some (.int o)]) (fun o ho R r => r) (fun o ho R r => r) (fun o ho _ R r => ?_) trivial ?_
  · walk_at "m"
    rw [at_ent (hl o ho), at_ent hi]
    unfold entD
    walk_at "m"
    exact r
  rw [List.filter_eq_self.2 (fun _ _ => rfl)]
  walk_at "m"
  have eb : (left.map fun o => Da.bl (decide ((ent xs o).e < (ent xs i).b))) = (left.map fun o => decide ((ent xs o).e < (ent xs i).b)).map Da.bl := by
    rw [List.map_map]
    rfl
  rw [eb, blsD_map]
  refine leave_same (q_bd q ?_)
  unfold may
  rw [List.all_eq_not_any_not, List.any_map]
  simp [Function.comp_def]
end
end Z
namespace Z
open PySem PySem.Spec PyProof.Rows L2 Evl
open Hs
abbrev intsL (l : List Int) : Da := .lst (l.map Da.int)
abbrev natsL (l : List Nat) : Da := .lst (l.map fun o : Nat => Da.int o)
def histD (ks : List Int) (xs : List Ent) : Da := .tup [intsL ks, .lst (xs.map entD)]
def timesL (xs : List Ent) : List Int := xs.flatMap fun x => [x.b, x.e]
structure HistOk (ks : List Int) (xs : List Ent) : Prop where
  k : ks.Nodup
  kl : ks.length ≤ 100
  e : ∀ x ∈ xs, EntOk x
  l : xs.length ≤ 8
  t : (timesL xs).Nodup
def optL : Option (List Nat) → Da
  | none => .non
  | some o => natsL o
section
variable {M : Mem} {Q : TK} {E : XD} {D : En} {d : Da} {x : Ent} {t : Bool} {xs : List Ent} {ks l : List Int} {left : List Nat} {i : Nat}
theorem once_nodup {ns : List Int} (h : ns.Nodup) : onceI ns = ns := by
  unfold onceI
  rw [RZ.firstMet_nodup h ns.length (Nat.le_refl _), List.take_length]
theorem intsD_map (l : List Int) : intsD (l.map Da.int) = some l := by
  induction l with
  | nil => rfl
  | cons a l ih => rw [List.map_cons, intsD, ih]; rfl
theorem dpL_ints (l : List Int) : dpL (l.map Da.int) = 0 := dpL_map (fun _ => rfl) l
theorem plL_ints (l : List Int) : plL (l.map Da.int) = true := plL_map (fun _ => rfl) l
theorem entD_pl (x : Ent) : plD (entD x) = true ∧ dpD (entD x) ≤ 2 := by
  obtain ⟨b, e, k, y, t⟩ := x
  cases t <;> exact ⟨rfl, Nat.le_refl 2⟩
theorem ents_pl (xs : List Ent) : plL (xs.map entD) = true ∧ dpL (xs.map entD) ≤ 2 :=
  ⟨plL_map (fun x => (entD_pl x).1) xs, dpL_le.2 fun d hd => by obtain ⟨x, _, rfl⟩ := List.mem_map.1 hd; exact (entD_pl x).2⟩
theorem bls_true {α : Type} (xs : List α) : blsD (xs.map fun _ => Da.bl true) = some (xs.map fun _ => true) := by
  have e : (xs.map fun _ => Da.bl true) = (xs.map fun _ => true).map Da.bl := by
    rw [List.map_map]
    rfl
  rw [e, blsD_map]
theorem all_true {α : Type} (xs : List α) : (xs.map fun _ => true).all id = true := by
  rw [List.all_eq_true]
  intro b hb
  obtain ⟨_, _, rfl⟩ := List.mem_map.1 hb
  rfl
theorem filt_true {α : Type} (xs : List α) : xs.filter (fun _ => true) = xs := List.filter_eq_self.mpr fun _ _ => rfl
def outT : Da → List Da
  | .tup (a :: b :: _) => [a, b]
  | _ => []
theorem outT_times (xs : List Ent) : (xs.map entD).flatMap outT = (timesL xs).map Da.int := by
  unfold timesL
  induction xs with
  | nil => rfl
  | cons x xs ih => rw [List.map_cons, List.flatMap_cons, ih, List.flatMap_cons, List.map_append]; rfl
theorem times_len (xs : List Ent) : (timesL xs).length = 2 * xs.length := by
  unfold timesL
  induction xs with
  | nil => rfl
  | cons x xs ih => rw [List.flatMap_cons, List.length_append, ih, List.length_cons]; simp; omega
theorem is_history_ok (h : HistOk ks xs) (q : Q (.bl true) M) : f_is_history [histD ks xs] M Q E := by
  unfold f_is_history m_is_history
  walk_at "m0"
  unfold histD intsL b_is_history_1 b_is_history_2 b_is_history_3
  walk_at "m"
  have kl := h.kl
  have xl := h.l
  refine ⟨by rw [List.length_map]; omega, ?_⟩
  refine lcL_xs Da.int ks (fun _ => true) (fun _ => .bl true) (fun z => [some (.tup [.lst (ks.map Da.int), .lst (xs.map entD)]), some (.lst (ks.map Da.int)), some (.lst (xs.map entD)), none, some (.int z), none, none]) (fun z hz R r => r) (fun z hz R r => r) (fun z hz _ R r => ?_) trivial ?_
  · exact is_integer_ok (E := XD0) rfl r
  rw [filt_true]
  walk_at "m"
  rw [bls_true]
  simp only [all_true, Bool.true_eq_false, if_false]
  refine ⟨ks, intsD_map ks, by omega, ?_⟩
  rw [once_nodup h.k, List.length_map, if_neg (by simp)]
  unfold b_is_history_4 b_is_history_5 b_is_history_6
  walk_at "m"
  refine ite2 (fun c => by rw [List.length_map] at c; omega) (fun _ => ⟨by rw [List.length_map]; omega, ?_⟩)
  refine lcL_xs entD xs (fun _ => true) (fun _ => .bl true) (fun z => [some (.tup [.lst (ks.map Da.int), .lst (xs.map entD)]), some (.lst (ks.map Da.int)), some (.lst (xs.map entD)), none, none, some (entD z), none]) (fun z hz R r => r) (fun z hz R r => r) (fun z hz _ R r => ?_) trivial ?_
  · exact is_entry_ok (E := XD0) (h.e z hz) r
  rw [filt_true]
  walk_at "m"
  rw [bls_true]
  simp only [all_true, Bool.true_eq_false, if_false]
  refine lcL2_pureG (fun d => [some (.tup [.lst (ks.map Da.int), .lst (xs.map entD)]), some (.lst (ks.map Da.int)), some (.lst (xs.map entD)), none, none, some d, none]) outT (by rw [outT_times, List.length_map, times_len]; omega) (fun d hd R r => r) (fun d hd R r => r) (fun d hd acc C la hC => ?_) trivial ?_
  · obtain ⟨x, hx, rfl⟩ := List.mem_map.1 hd
    have e2 : (entD x) = .tup [.int x.b, .int x.e, .tup [.str x.k, .int x.y], toD x.t] := rfl
    walk_at "m"
    rw [e2]
    walk_at "m"
    rw [show cutL [Da.int x.b, Da.int x.e, Da.tup [Da.str x.k, Da.int x.y], toD x.t] none (some 2) = [Da.int x.b, Da.int x.e] from rfl]
    unfold lcIn
    walk_at "m"
    refine ⟨by omega, ?_⟩
    unfold lcIn
    walk_at "m"
    refine ⟨by rw [List.length_append]; simp; omega, ?_⟩
    unfold lcIn
    rw [List.append_assoc]
    exact hC
  walk_at "m"
  rw [outT_times, intsD_map]
  refine ⟨_, rfl, by rw [times_len]; omega, ?_⟩
  walk_at "m"
  rw [once_nodup h.t, List.length_map]
  refine leave_same (q_bd q (decide_eq_true rfl))
theorem need_history_ok {W : XD} (h : HistOk ks xs) (q : Q .non M) : f_need_history [histD ks xs] M Q W := by
  unfold f_need_history m_need_history
  walk_at "m0"
  walk_at "m"
  refine is_history_ok h ?_
  walk_at "m"
  exact leave_same q
theorem nats_pl (o : List Nat) : plL (o.map fun z : Nat => Da.int z) = true ∧ dpL (o.map fun z : Nat => Da.int z) = 0 := ⟨plL_map (fun _ => rfl) o, dpL_map (fun _ => rfl) o⟩
theorem natsL_clo (n : Nat) (o : List Nat) : cloD n (natsL o) = true := by
  unfold natsL cloD
  exact plL_clo n (nats_pl o).1
theorem intsL_clo (n : Nat) (o : List Int) : cloD n (intsL o) = true := by
  unfold intsL cloD
  exact plL_clo n (plL_ints o)
theorem anyI (z : Int) (l : List Int) : anyEq (.int z) (l.map Da.int) = decide (z ∈ l) := by
  unfold anyEq
  rw [List.any_map, Bool.eq_iff_iff, List.any_eq_true, decide_eq_true_eq]
  constructor
  · rintro ⟨a, ha, e⟩
    have e : a = z := of_decide_eq_true e
    exact e ▸ ha
  · exact fun h => ⟨z, h, decide_eq_true rfl⟩
theorem be_of (hx : ∀ x ∈ xs, EntOk x) (i : Nat) : (ent xs i).b < (ent xs i).e := by
  unfold ent
  rw [List.getD_eq_getElem?_getD]
  cases h : xs[i]? with
  | none => decide
  | some x => exact (hx x (List.mem_of_getElem? h)).1
theorem ent_look (x : Ent) (M : Mem) : look M (entD x) = .tup [.int x.b, .int x.e, .tup [.str x.k, .int x.y], toD x.t] := rfl
theorem order_from_ok (hx : ∀ x ∈ xs, EntOk x) (hl : xs.length ≤ 100) : ∀ (n : Nat) {left : List Nat} {l : List Int} {th : Da} {M : Mem} {Q : TK} {E : XD}, left.length < n → left.Nodup → (∀ o ∈ left, o < xs.length) → l.length + left.length ≤ 1000 → look M th = intsL l → Q (optL (orderF xs n left l)) M →
    f_order_from n [.lst (xs.map entD), natsL left, th] M Q E
  | 0, _, _, _, _, _, _, h, _, _, _, _, _ => absurd h (Nat.not_lt_zero _)
  | n + 1, left, l, th, M, Q, E, h1, h2, h3, h4, h5, q => by
    unfold f_order_from m_order_from natsL
    walk_at "m1"
    intro cM cD
    walk_at "m"
    have ct : cloD M.length th = true := cloL_all.1 cD _ (by simp)
    refine ite2 (fun c => ?_) (fun c => ?_)
    · have e : left = [] := by
        rw [List.length_map] at c
        exact List.length_eq_zero_iff.1 (by omega)
      subst e
      have eo : orderF xs (n + 1) [] l = some [] := by unfold orderF; rw [if_pos rfl]
      rw [eo] at q
      exact leave_same q
    have ne : left ≠ [] := fun z => c (by rw [z]; rfl)
    have eo : orderF xs (n + 1) left l = left.findSome? fun i => if (may xs left i && fits (ent xs i) (decide ((ent xs i).y ∈ l))) = true then (orderF xs n (left.filter fun o => !decide (o = i)) (aft l (ent xs i))).map (i :: ·) else none := by
      show (if left = [] then some [] else _) = _
      rw [if_neg ne]
    rw [eo] at q
    unfold b_order_from_1
    refine seq_hide fun N hN => ?_
    walk_at "m"
    refine forL_xs (fun o : Nat => Da.int o) left (fun p r ρ M' => M = M' ∧ (∀ o ∈ p, (if (may xs left o && fits (ent xs o) (decide ((ent xs o).y ∈ l))) = true then (orderF xs n (left.filter fun z => !decide (z = o)) (aft l (ent xs o))).map (o :: ·) else none) = none) ∧
      ∃ s3 s4 s5 s6 s7, ρ = [some (.lst (xs.map entD)), some (.lst (left.map fun o : Nat => Da.int o)), some th, s3, s4, s5, s6, s7]) ⟨rfl, (fun o ho => by cases ho), _, _, _, _, _, rfl⟩ ?_ ?_
    · rintro p o r _ _ e ⟨rfl, I, s3, s4, s5, s6, s7, rfl⟩ C hC
      have ho : o ∈ left := by rw [e]; simp
      have lo := h3 o ho
      have ox : EntOk (ent xs o) := by
        refine hx _ ?_
        unfold ent
        rw [List.getD_eq_getElem?_getD, List.getElem?_eq_getElem lo]
        exact List.getElem_mem lo
      unfold l_order_from_1
      walk_at "m"
      rw [at_ent lo]
      walk_at "m"
      simp only [ent_look]
      walk_at "m"
      unfold b_order_from_L1_1
      refine if_hide fun T U hT hU => ?_
      walk_at "m"
      refine may_come_ok (by omega) h3 lo ?_
      walk_at "m"
      have skip : (may xs left o && fits (ent xs o) (decide ((ent xs o).y ∈ l))) = false → U M := fun z => hU _ (next_run (hC _ _ _ _ .same (by trivial) ⟨rfl, (fun o' ho' => by
        rcases List.mem_append.1 ho' with h | h
        · exact I o' h
        · rw [List.mem_singleton.1 h, z]; rfl), _, _, _, _, _, rfl⟩))
      refine ite2 (fun c1 => ?_) (fun c1 => skip (by rw [Bool.not_eq_true] at c1; rw [c1]; rfl))
      rw [at_ent lo, h5]
      unfold intsL
      walk_at "m"
      refine ⟨⟨plL_ints l, by rw [dpL_ints]; omega⟩, fits_now_ok ox ?_⟩
      rw [anyI]
      walk_at "m"
      refine ite2 (fun c2 => hT _ ?_) (fun c2 => skip (by rw [Bool.not_eq_true] at c2; rw [c2, Bool.and_false]))
      refine seq_hide fun N2 hN2 => ?_
      walk_at "m"
      rw [h5]
      unfold intsL
      walk_at "m"
      refine ⟨by rw [List.length_map]; omega, ?_⟩
      refine lcL_xs Da.int l (fun z => !decide (z = (ent xs o).y)) Da.int (fun z => [some (.lst (xs.map entD)), some (.lst (left.map fun o : Nat => Da.int o)), some th, some (.int o), some (.int (ent xs o).y), s5, s6, some (.int z)]) (fun z hz R r => r) (fun z hz R r => ?_) (fun z hz _ R r => ?_) (by rw [h5] <;> rfl) ?_
      · walk_at "m"
        exact r
      · exact r
      walk_at "m"
      refine hN2 _ _ ?_
      refine cut_hide fun N3 hN3 => ?_
      have go : ∀ s5 s6 s7 : Option Da, N3 [some (.lst (xs.map entD)), some (.lst (left.map fun o : Nat => Da.int o)), some th, some (.int o), some (.int (ent xs o).y), some (.cell M.length), s6, s7] (M ++ [intsL (aft l (ent xs o))]) := fun s5 s6 s7 => hN3 _ _ (by
        walk_at "m"
        refine ⟨by rw [List.length_map]; omega, ?_⟩
        refine lcL_xs (fun z : Nat => Da.int z) left (fun z => !decide (z = o)) (fun z : Nat => Da.int z) (fun z : Nat => [some (.lst (xs.map entD)), some (.lst (left.map fun o : Nat => Da.int o)), some th, some (.int o), some (.int (ent xs o).y), some (.cell M.length), s6, some (.int z)]) (fun z hz R r => r) (fun z hz R r => ?_) (fun z hz _ R r => ?_) trivial ?_
        · walk_at "m"
          have ed : decide ((z : Int) = (o : Int)) = decide (z = o) := decide_eq_decide.2 (by omega)
          rw [ed]
          exact r
        · exact r
        walk_at "m"
        have l1 := len_filter h2 ho
        have l2 : (aft l (ent xs o)).length ≤ l.length + 1 := by
          unfold aft
          rw [List.length_append]
          have := List.length_filter_le (fun z => !decide (z = (ent xs o).y)) l
          split <;> simp <;> omega
        refine order_from_ok hx hl n (l := aft l (ent xs o)) (by omega) (h2.filter _) (fun z hz => h3 z (List.mem_filter.1 hz).1) (by omega) look_lastM ?_
        cases er : orderF xs n (left.filter fun z => !decide (z = o)) (aft l (ent xs o)) with
        | none =>
          unfold optL
          walk_at "m"
          refine hC _ _ [some (.lst (xs.map entD)), some (.lst (left.map fun o : Nat => Da.int o)), some th, none, none, none, none, none] M (Wk.cut cM ?_) (by trivial) ⟨rfl, (fun o' ho' => ?_), _, _, _, _, _, rfl⟩
          · exact slClo_keep (cloL_all.1 cD _ (by simp)) (slClo_keep (cloL_all.1 cD _ (by simp)) (slClo_keep ct (slClo_none (slClo_none (slClo_none (slClo_none (slClo_none slClo_nil)))))))
          · rcases List.mem_append.1 ho' with h | h
            · exact I o' h
            · rw [List.mem_singleton.1 h, er]
              split <;> rfl
        | some o' =>
          unfold optL
          unfold natsL
          walk_at "m"
          have ol : o'.length ≤ 1000 := by
            have el : (left.filter fun z => !decide (z = o)).length ≤ n := by omega
            rw [order_find (n := (left.filter fun z => !decide (z = o)).length) (be_of hx) (h2.filter _) rfl n el] at er
            have := (perms_perm (h2.filter _) rfl (List.mem_of_find?_eq_some er)).length_eq
            omega
          refine ⟨by rw [List.length_map]; omega, leave_cl cM (natsL_clo _ (o :: o')) ?_⟩
          have es : (left.findSome? fun i => if (may xs left i && fits (ent xs i) (decide ((ent xs i).y ∈ l))) = true then (orderF xs n (left.filter fun o => !decide (o = i)) (aft l (ent xs i))).map (i :: ·) else none) = some (o :: o') := by
            rw [e, List.findSome?_append, List.findSome?_eq_none_iff.2 (by rw [← e]; exact I), Option.none_or, List.findSome?_cons, ← e, c1, c2, er]
            rfl
          rw [es] at q
          exact q)
      walk_at "m"
      rw [at_ent lo, look_app ct, h5]
      unfold intsL
      walk_at "m"
      refine ⟨⟨plL_ints l, by rw [dpL_ints]; omega⟩, row_after_ok ?_⟩
      rw [anyI]
      walk_at "m"
      have ea : aft l (ent xs o) = (l.filter fun z => !decide (z = (ent xs o).y)) ++ if rowB (ent xs o) (decide ((ent xs o).y ∈ l)) then [(ent xs o).y] else [] := rfl
      cases cr : rowB (ent xs o) (decide ((ent xs o).y ∈ l)) with
      | true =>
        rw [cr] at ea
        simp only [if_true] at ea ⊢
        walk_at "m"
        have g := go s5 s6 s7
        rw [ea, intsL, List.map_append] at g
        exact ⟨⟨_, rfl⟩, by rw [List.length_map, sizeLine_eq]; have := List.length_filter_le (fun z => !decide (z = (ent xs o).y)) l; omega, g⟩
      | false =>
        rw [cr] at ea
        simp only [Bool.false_eq_true, if_false] at ea ⊢
        have g := go s5 s6 s7
        rw [ea, intsL, List.append_nil] at g
        exact g
    · rintro _ _ ⟨rfl, I, s3, s4, s5, s6, s7, rfl⟩
      refine hN _ _ ?_
      unfold b_order_from_2
      walk_at "m"
      have e : (left.findSome? fun i => if (may xs left i && fits (ent xs i) (decide ((ent xs i).y ∈ l))) = true then (orderF xs n (left.filter fun o => !decide (o = i)) (aft l (ent xs i))).map (i :: ·) else none) = none := List.findSome?_eq_none_iff.2 I
      rw [e] at q
      exact leave_same q
theorem rngD_nats (n : Nat) : rngD 0 n = (List.range n).map fun o : Nat => Da.int o := by
  unfold rngD
  refine List.map_congr_left fun i _ => ?_
  rw [Int.zero_add]
theorem serial_order_ok {W : XD} (h : HistOk ks xs) (q : Q (optL (orderF xs 9 (List.range xs.length) ks)) M) : f_serial_order [histD ks xs] M Q W := by
  unfold f_serial_order m_serial_order
  walk_at "m1"
  intro cM cD
  walk_at "m"
  refine need_history_ok h ?_
  unfold histD intsL
  walk_at "m"
  have xl := h.l
  have kl := h.kl
  refine ⟨_, rfl, RgOk.of_le (by omega) (by rw [List.length_map]; omega) (by omega) (by omega), ?_⟩
  rw [List.length_map]
  have e : rngD 0 ((xs.length : Nat) : Int).toNat = (List.range xs.length).map fun o : Nat => Da.int o := by
    rw [Int.toNat_natCast]
    exact rngD_nats _
  rw [e]
  exact order_from_ok h.e (by omega) 9 (l := ks) (by rw [List.length_range]; omega) List.nodup_range (fun o ho => List.mem_range.1 ho) (by rw [List.length_range]; omega) rfl (leave_same q)
end
end Z
namespace Z
open PySem PySem.Spec PyProof.Rows L2 Evl
open Hs
section
variable {M : Mem} {Q : TK} {E : XD} {D : En} {d : Da} {x : Ent} {t : Bool} {xs : List Ent} {ks l zs : List Int} {left os : List Nat} {i : Nat}
theorem eqL_ints (xs ys : List Int) : eqL (xs.map Da.int) (ys.map Da.int) = decide (xs = ys) := by
  induction xs generalizing ys with
  | nil => cases ys <;> rfl
  | cons x xs ih =>
    cases ys with
    | nil => rfl
    | cons y ys =>
      show (decide (x = y) && eqL (xs.map Da.int) (ys.map Da.int)) = _
      rw [ih]
      by_cases h : x = y <;> simp [h]
theorem sort_ints (q : ∀ ys : List Int, ys.Perm zs → ys.Pairwise (· ≤ ·) → Q (.lst (ys.map Da.int)) M) : nSortB [.lst (zs.map Da.int)] M Q := by
  cases zs with
  | nil =>
    refine ⟨by decide, fun ys p _ => ?_⟩
    rw [List.Perm.eq_nil p]
    exact q [] (List.Perm.refl _) .nil
  | cons z zs =>
    have e1 : strsD ((z :: zs).map Da.int) = none := rfl
    unfold nSortB
    simp only [look_lst, e1, intsD_map]
    exact q
theorem pair_ints : ∀ {xs ys : List Int}, xs.Pairwise (· ≤ ·) → ys.Pairwise (· ≤ ·) → xs.Perm ys → xs = ys
  | [], ys, _, _, p => (List.Perm.nil_eq p)
  | x :: xs, [], _, _, p => absurd p.length_eq (by simp)
  | x :: xs, y :: ys, hx, hy, p => by
    have h1 := List.pairwise_cons.1 hx
    have h2 := List.pairwise_cons.1 hy
    have e : x = y := by
      have a : y ≤ x := by
        rcases List.mem_cons.1 (p.mem_iff.1 (List.mem_cons_self ..)) with h | h
        · omega
        · exact h2.1 x h
      have b : x ≤ y := by
        rcases List.mem_cons.1 (p.mem_iff.2 (List.mem_cons_self ..)) with h | h
        · omega
        · exact h1.1 y h
      omega
    subst e
    rw [pair_ints h1.2 h2.2 ((List.perm_cons x).1 p)]
def rngI (n : Nat) : List Int := (List.range n).map fun o : Nat => (o : Int)
theorem rngI_asc (n : Nat) : (rngI n).Pairwise (· ≤ ·) := by
  unfold rngI
  rw [List.pairwise_map]
  exact List.Pairwise.imp (fun h => by omega) List.pairwise_lt_range
theorem rngD_I (n : Nat) : rngD 0 ((n : Nat) : Int).toNat = (rngI n).map Da.int := by
  rw [Int.toNat_natCast, rngD_nats]
  unfold rngI
  rw [List.map_map]
  rfl
abbrev ex9 (ks : List Int) (xs : List Ent) (o : Da) (s4 s5 s6 s7 s8 : Option Da) : Sl := [some (.tup [.lst (ks.map Da.int), .lst (xs.map entD)]), some o, some (.lst (ks.map Da.int)), some (.lst (xs.map entD)), s4, s5, s6, s7, s8]
theorem ex_3 {W : WD} (hl : xs.length ≤ 100) (zl : zs.length ≤ 100) (n : ¬ zs.Perm (rngI xs.length) → D.rt (.bl false) M) (y : zs.Perm (rngI xs.length) → b_explains_history_4 W D (ex9 ks xs (.lst (zs.map Da.int)) none none none none none) M) :
    b_explains_history_3 W D (ex9 ks xs (.lst (zs.map Da.int)) none none none none none) M := by
  unfold b_explains_history_3
  refine seq_hide fun N hN => ?_
  walk_at "m"
  refine sort_ints fun ys p a => ?_
  walk_at "m"
  refine ⟨_, rfl, RgOk.of_le (by omega) (by rw [List.length_map]; omega) (by omega) (by omega), ?_⟩
  rw [List.length_map, rngD_I]
  refine ⟨⟨plL_ints _, by rw [dpL_ints]; omega⟩, ⟨plL_ints _, by rw [dpL_ints]; omega⟩, ite2 (fun c => ?_) (fun c => hN _ _ (y ?_))⟩
  · rw [eqL_ints, decide_eq_false_iff_not] at c
    exact n fun z => c (pair_ints a (rngI_asc _) (p.trans z))
  · rw [eqL_ints, decide_eq_false_iff_not, Classical.not_not] at c
    rw [← c]
    exact p.symm
theorem ex_2 {W : WD} (hl : xs.length ≤ 100) (zl : zs.length ≤ 100) (n : ¬ zs.Perm (rngI xs.length) → D.rt (.bl false) M) (y : zs.Perm (rngI xs.length) → b_explains_history_4 W D (ex9 ks xs (.lst (zs.map Da.int)) none none none none none) M) :
    b_explains_history_2 W D (ex9 ks xs (.lst (zs.map Da.int)) none none none none none) M := by
  unfold b_explains_history_2
  refine seq_hide fun N hN => ?_
  walk_at "m"
  refine ⟨by rw [List.length_map]; omega, ?_⟩
  refine lcL_xs Da.int zs (fun _ => true) (fun _ => .bl true) (fun z => ex9 ks xs (.lst (zs.map Da.int)) none none (some (.int z)) none none) (fun z hz R r => r) (fun z hz R r => r) (fun z hz _ R r => ?_) trivial ?_
  · exact is_integer_ok (E := XD0) rfl r
  rw [filt_true]
  walk_at "m"
  rw [bls_true]
  simp only [all_true, Bool.true_eq_false, if_false]
  exact hN _ _ (ex_3 hl zl n y)
theorem good_cons {o : Nat} {r : List Nat} (be : ∀ i, (ent xs i).b < (ent xs i).e) : good xs l (o :: r) = (may xs (o :: r) o && fits (ent xs o) (decide ((ent xs o).y ∈ l)) && good xs (aft l (ent xs o)) r) := by
  have e : good xs l (o :: r) = (may xs r o && fits (ent xs o) (decide ((ent xs o).y ∈ l)) && good xs (aft l (ent xs o)) r) := rfl
  rw [e, may_perm be (List.Perm.refl _)]
theorem nats_ints (os : List Nat) : (os.map fun o : Nat => (o : Int)).map Da.int = os.map fun o : Nat => Da.int o := by
  rw [List.map_map]
  rfl
theorem ex_4 {W : WD} (hx : ∀ x ∈ xs, EntOk x) (hl : xs.length ≤ 100) (kl : ks.length ≤ 800) (p : os.Perm (List.range xs.length)) (q : D.rt (.bl (good xs ks os)) M) :
    b_explains_history_4 W D (ex9 ks xs (natsL os) none none none none none) M := by
  have lo : os.length = xs.length := by rw [p.length_eq, List.length_range]
  have be := be_of hx
  unfold b_explains_history_4
  refine seq_hide fun N hN => ?_
  walk_at "m"
  refine hN _ _ ?_
  unfold b_explains_history_5
  refine seq_hide fun N2 hN2 => ?_
  unfold natsL
  walk_at "m"
  refine forL_ind (fun k ρ M' => M = M' ∧ ∃ (l : List Int) (s5 s6 s7 s8 : Option Da), l.length ≤ ks.length + k ∧ good xs ks os = good xs l (os.drop k) ∧ ρ = ex9 ks xs (natsL os) (some (intsL l)) s5 s6 s7 s8) ⟨rfl, ks, _, _, _, _, by omega, rfl, rfl⟩ ?_ ?_
  · rintro k d ρ M' hd ⟨rfl, l, s5, s6, s7, s8, ll, eg, rfl⟩ C hC
    obtain ⟨z, hz, rfl⟩ := enuD_get hd
    rw [List.getElem?_map] at hz
    obtain ⟨o, ho, rfl⟩ := Option.map_eq_some_iff.1 hz
    have hk : k < os.length := (List.getElem?_eq_some_iff.1 ho).1
    have om : o ∈ os := List.mem_of_getElem? ho
    have lt : o < xs.length := List.mem_range.1 (p.mem_iff.1 om)
    have ed : os.drop k = o :: os.drop (k + 1) := by
      rw [List.drop_eq_getElem_cons hk]
      have := (List.getElem?_eq_some_iff.1 ho).2
      rw [this]
    have ox : EntOk (ent xs o) := by
      refine hx _ ?_
      unfold ent
      rw [List.getD_eq_getElem?_getD, List.getElem?_eq_getElem lt]
      exact List.getElem_mem lt
    rw [ed, good_cons be] at eg
    walk_at "m"
    unfold l_explains_history_1
    walk_at "m"
    rw [at_ent lt]
    walk_at "m"
    simp only [ent_look]
    walk_at "m"
    unfold b_explains_history_L1_1
    refine seq_hide fun N3 hN3 => ?_
    walk_at "m"
    have ec : cutL (os.map fun o : Nat => Da.int o) (some (k : Int)) none = (o :: os.drop (k + 1)).map fun o : Nat => Da.int o := by rw [cutL_dropD, ← List.map_drop, ed]
    rw [ec]
    have lo2 : (o :: os.drop (k + 1)).length ≤ 1000000 := by rw [← ed, List.length_drop]; omega
    have lm : ∀ z ∈ o :: os.drop (k + 1), z < xs.length := fun z hz => by
      rw [← ed] at hz
      exact List.mem_range.1 (p.mem_iff.1 (List.mem_of_mem_drop hz))
    refine may_come_ok lo2 lm lt ?_
    walk_at "m"
    refine ite2 (fun c => ?_) (fun c1 => ?_)
    · rw [c, Bool.false_and, Bool.false_and] at eg
      rw [eg] at q
      exact q
    rw [at_ent lt]
    walk_at "m"
    refine ⟨⟨plL_ints l, by rw [dpL_ints]; omega⟩, fits_now_ok ox ?_⟩
    rw [anyI]
    walk_at "m"
    refine ite2 (fun c => ?_) (fun c2 => hN3 _ _ ?_)
    · rw [c, Bool.and_false, Bool.false_and] at eg
      rw [eg] at q
      exact q
    rw [Bool.not_eq_false] at c1 c2
    rw [c1, c2, Bool.true_and, Bool.true_and] at eg
    unfold b_explains_history_L1_2
    walk_at "m"
    refine ⟨by rw [List.length_map]; omega, ?_⟩
    refine lcL_xs Da.int l (fun z => !decide (z = (ent xs o).y)) Da.int (fun z => ex9 ks xs (natsL os) (some (intsL l)) (some (.int k)) (some (.int o)) (some (.int (ent xs o).y)) (some (.int z))) (fun z hz R r => r) (fun z hz R r => ?_) (fun z hz _ R r => ?_) trivial ?_
    · walk_at "m"
      exact r
    · exact r
    walk_at "m"
    rw [at_ent lt]
    walk_at "m"
    refine ⟨⟨plL_ints l, by rw [dpL_ints]; omega⟩, row_after_ok ?_⟩
    rw [anyI]
    walk_at "m"
    have ea : aft l (ent xs o) = (l.filter fun z => !decide (z = (ent xs o).y)) ++ if rowB (ent xs o) (decide ((ent xs o).y ∈ l)) then [(ent xs o).y] else [] := rfl
    have lf := List.length_filter_le (fun z => !decide (z = (ent xs o).y)) l
    have la : (aft l (ent xs o)).length ≤ l.length + 1 := by
      rw [ea, List.length_append]
      split <;> simp <;> omega
    have fin : C (ex9 ks xs (natsL os) (some (intsL (aft l (ent xs o)))) (some (.int k)) (some (.int o)) (some (.int (ent xs o).y)) s8) M := hC _ _ _ _ .same (by trivial) ⟨rfl, _, _, _, _, _, by omega, eg, rfl⟩
    cases cr : rowB (ent xs o) (decide ((ent xs o).y ∈ l)) with
    | true =>
      rw [cr] at ea
      simp only [if_true] at ea ⊢
      walk_at "m"
      rw [ea, intsL, List.map_append] at fin
      exact ⟨by rw [List.length_map, sizeLine_eq]; omega, fin⟩
    | false =>
      rw [cr] at ea
      simp only [Bool.false_eq_true, if_false] at ea ⊢
      walk_at "m"
      rw [ea, intsL, List.append_nil] at fin
      exact ⟨by rw [List.length_map, sizeLine_eq]; omega, fin⟩
  · rintro ρ M' ⟨rfl, l, s5, s6, s7, s8, ll, eg, rfl⟩
    rw [enuD_len, List.length_map, List.drop_length] at eg
    refine hN2 _ _ ?_
    unfold b_explains_history_6
    walk_at "m"
    rw [eg] at q
    exact q
theorem ex_1 {o : Da} {W : XD} (h : HistOk ks xs) (k : ∀ W : WD, b_explains_history_2 W { nx := fun _ M' => leave M.length Q .non M', rt := leave M.length Q } (ex9 ks xs o none none none none none) M) : f_explains_history [histD ks xs, o] M Q W := by
  unfold f_explains_history m_explains_history
  walk_at "m1"
  intro cM cD
  walk_at "m"
  refine need_history_ok h ?_
  unfold histD b_explains_history_1
  walk_at "m"
  exact k _
theorem explains_nats {W : XD} (h : HistOk ks xs) (p : os.Perm (List.range xs.length)) (q : Q (.bl (good xs ks os)) M) : f_explains_history [histD ks xs, natsL os] M Q W := by
  have kl := h.kl
  have xl := h.l
  have pl := p.length_eq
  rw [List.length_range] at pl
  refine ex_1 h fun W => ?_
  have e := nats_ints os
  unfold natsL
  rw [← e]
  refine ex_2 (by omega) (by rw [List.length_map]; omega) (fun n => absurd (p.map _) n) (fun _ => ?_)
  rw [e]
  exact ex_4 h.e (by omega) (by omega) p (leave_same q)
end
end Z
namespace Z
open PySem PySem.Spec PyProof.Rows L2 Evl
open Hs
section
variable {M : Mem} {Q : TK} {E : XD} {D : En} {d : Da} {x : Ent} {t : Bool} {xs : List Ent} {ks l zs : List Int} {left os : List Nat} {i : Nat}
theorem same_int {n : Nat} {a b : Int} (q : Q (.bl (decide (a = b))) M) : f_law_same (n + 1) [.int a, .int b] M Q E := by
  unfold f_law_same m_law_same
  walk_at "m1"
  intro cM cD
  walk_at "m"
  have e : decide (a - b = 0) = decide (a = b) := decide_eq_decide.2 (by omega)
  rw [e]
  exact leave_same q
theorem filter_ne {α : Type} [DecidableEq α] : ∀ {a b : List α}, a.length = b.length → ((((List.range b.length).filter fun k => !decide (a[k]? = b[k]?)).isEmpty : Bool) = decide (a = b)) := by
  intro a b hl
  rw [Bool.eq_iff_iff, decide_eq_true_eq, List.isEmpty_iff, List.filter_eq_nil_iff]
  constructor
  · intro h
    refine List.ext_getElem? fun k => ?_
    by_cases hk : k < b.length
    · have := h k (List.mem_range.2 hk)
      simpa using this
    · rw [List.getElem?_eq_none (by omega), List.getElem?_eq_none (by omega)]
  · rintro rfl k _
    simp
def okC : Nat → Da → Bool
  | 0, _ => false
  | n + 1, d => match d with
    | .lst ds => decide (ds.length ≤ 1000) && ds.all (okC n)
    | .tup ds => decide (ds.length ≤ 1000) && ds.all (okC n)
    | .non => true
    | .bl _ => true
    | .int _ => true
    | .str _ => true
    | _ => false
theorem copy_ok : ∀ (n : Nat) {d : Da} {M : Mem} {Q : TK} {E : XD}, okC n d = true → Q d M → f_law_copy n [d] M Q E
  | 0, _, _, _, _, h, _ => by cases h
  | n + 1, d, M, Q, E, h, q => by
    unfold f_law_copy m_law_copy
    walk_at "m1"
    intro cM cD
    have cd : cloD M.length d = true := cloL_all.1 cD _ (by simp)
    unfold okC at h
    cases d with
    | ty _ => cases h
    | gl _ => cases h
    | obj _ _ => cases h
    | kl _ => cases h
    | kt _ => cases h
    | cell _ => cases h
    | exv _ _ _ _ => cases h
    | dct _ => cases h
    | lst ds =>
      rw [Bool.and_eq_true, decide_eq_true_eq] at h
      walk_at "m"
      refine ⟨by omega, ?_⟩
      have e : ds = ds.map id := (List.map_id ds).symm
      rw [e]
      refine lcL_xs id ds (fun _ => true) id (fun z => [some (.lst (ds.map id)), none, none, some z]) (fun z hz R r => r) (fun z hz R r => r) (fun z hz _ R r => ?_) trivial ?_
      · exact copy_ok n (E := XD0) (List.all_eq_true.1 h.2 z hz) r
      rw [filt_true, List.map_id]
      exact leave_same q
    | tup ds =>
      rw [Bool.and_eq_true, decide_eq_true_eq] at h
      walk_at "m"
      refine ⟨by omega, ?_⟩
      have e : ds = ds.map id := (List.map_id ds).symm
      rw [e]
      refine lcL_xs id ds (fun _ => true) id (fun z => [some (.tup (ds.map id)), none, none, some z]) (fun z hz R r => r) (fun z hz R r => r) (fun z hz _ R r => ?_) trivial ?_
      · exact copy_ok n (E := XD0) (List.all_eq_true.1 h.2 z hz) r
      rw [filt_true, List.map_id]
      walk_at "m"
      exact leave_same q
    | _ =>
      walk_at "m"
      refine cut_hide fun N hN => ?_
      walk_at "m"
      refine hN _ _ ?_
      walk_at "m"
      exact leave_cl cM cd q
end
end Z
namespace Z
open PySem PySem.Spec PyProof.Rows L2 Evl
def BoxQ (n : Nat) (d : Da) : Prop := ∃ (a b c : Int) (g : Bool), d = .lst [.int a, .bl g, .int b, .int c] ∧ 0 ≤ b ∧ b < 2147483648 ∧ 0 ≤ c ∧ c ≤ n
theorem BoxQ.clo {n m : Nat} {b : Da} (h : BoxQ n b) : cloD m b = true := by
  obtain ⟨a, b, c, g, rfl, _⟩ := h
  rfl
theorem BoxQ.mono {n m : Nat} {b : Da} (h : BoxQ n b) (l : n ≤ m) : BoxQ m b := by
  obtain ⟨a, b, c, g, e, h1, h2, h3, h4⟩ := h
  exact ⟨a, b, c, g, e, h1, h2, h3, by omega⟩
theorem leave_boxQ {Q : TK} {d d' : Da} {b b' : Da} {R S : Mem} {n : Nat} (B : BoxQ n b') (cM : cloL (R.length + 1) (b :: R) = true) (hf : frz (R.length + 1) 4 (b' :: (R ++ S)) d = some d') (q : Q d' (b' :: R)) : leave (R.length + 1) Q d (b' :: (R ++ S)) := by
  refine ⟨d', b' :: R, .inr ⟨by simp, by simp, ?_, hf⟩, q⟩
  unfold cloL at cM ⊢
  rw [Bool.and_eq_true] at cM
  rw [B.clo, cM.2]
  rfl
theorem cellQ_ok {ns : List Int} {k : Int} {M : Mem} {Q : TK} {E : XD} (h0 : 0 ≤ k) (h1 : k < 1000) (q : ∀ n : Int, Q (.int n) M) : f_law_cell [.kl (ns.map Da.int), .int k] M Q E := by
  unfold f_law_cell m_law_cell
  walk_at "m0"
  walk_at "m"
  rw [List.length_map]
  refine ite2 (fun c => ?_) (fun c => ?_)
  · obtain ⟨d, hd, e⟩ := atI_mem (xs := ns.map Da.int) h0 (by rw [List.length_map]; exact c)
    obtain ⟨n, _, rfl⟩ := List.mem_map.1 hd
    rw [e]
    exact leave_same (q n)
  · rw [show cutL (ns.map Da.int) none (some 1) = (ns.take 1).map Da.int by rw [show (1 : Int) = ((1 : Nat) : Int) from rfl, cutL_takeD, List.map_take], intsD_map]
    exact ⟨wide_mul (a := 14) (b := 10) (by decide) (by omega) (by decide) (by decide) (by decide), _, rfl, leave_same (q _)⟩
theorem boxQ_ok {n : Int} {M : Mem} {Q : TK} {E : XD} (q : ∀ b, BoxQ 0 b → Q (.cell M.length) (M ++ [b])) : f_law_box [.int n] M Q E := by
  unfold f_law_box m_law_box
  walk_at "m0"
  walk_at "m"
  exact ⟨⟨by decide, by decide, by decide⟩, leave_same (q _ ⟨_, _, _, _, rfl, Int.emod_nonneg _ (by decide), Int.lt_trans (Int.emod_lt_of_pos _ (by decide)) (by decide), Int.le_refl _, Int.le_refl _⟩)⟩
theorem takeQ_ok {m : Int} {n : Nat} {b : Da} {R : Mem} {Q : TK} {E : XD} (B : BoxQ n b) (hn : n < 4294967296) (hm : 0 < m) (hl : m.natAbs.log2 < 9000)
    (k : ∀ (d : Int) (b' : Da), BoxQ (n + 1) b' → 0 ≤ d → d < m → Q (.int d) (b' :: R)) : f_law_take [.cell 0, .int m] (b :: R) Q E := by
  obtain ⟨a, b, c, g, rfl, hb0, hb1, hc0, hc1⟩ := B
  unfold f_law_take m_law_take
  walk_at "m0"
  walk_at "m"
  have i0 : ixN 4 0 = some 0 := rfl
  have i3 : ixN 4 3 = some 3 := rfl
  simp only [i0, i3]
  walk_at "m"
  refine ite2 (fun _ => ite2 (fun ca => ?_) (fun _ => ?_)) (fun _ => ?_)
  · exact ⟨hm, ⟨hm, hl⟩, leave_same (k _ _ ⟨_, _, _, _, rfl, hb0, hb1, hc0, by omega⟩ (Int.emod_nonneg _ (by omega)) (Int.emod_lt_of_pos _ hm))⟩
  all_goals
    have q0 : 0 ≤ (b + 15503303 * (c + 1) + 179476197) ^ (5 : Int).toNat % 2147483647 := Int.emod_nonneg _ (by decide)
    have q1 : (b + 15503303 * (c + 1) + 179476197) ^ (5 : Int).toNat % 2147483647 < 2147483647 := Int.emod_lt_of_pos _ (by decide)
    refine ⟨wide_mul (a := 24) (b := 34) (by decide) (by omega) (by decide) (by decide) (by decide), ⟨by decide, by decide, by omega⟩, ?_⟩
    generalize (b + 15503303 * (c + 1) + 179476197) ^ (5 : Int).toNat % 2147483647 = u at q0 q1 ⊢
    exact ⟨wide_mul (a := 31) (b := 16) (by omega) (by decide) (by decide) (by decide) (by decide), wide_mul (a := 14) (b := 34) (by decide) (by omega) (by decide) (by decide) (by decide), ⟨by decide, by decide, by omega⟩, ⟨by decide, by decide⟩, hm, leave_same (k _ _ ⟨_, _, _, _, rfl, hb0, hb1, by omega, by omega⟩ (Int.emod_nonneg _ (by omega)) (Int.emod_lt_of_pos _ hm))⟩
end Z
namespace Z
open PySem PySem.Spec PyProof.Rows L2 Evl
open Hs
section
variable {M R S : Mem} {Q : TK} {E : XD} {D : En} {d b : Da} {n m : Nat} {x : Ent} {t : Bool} {xs : List Ent} {ks l zs : List Int} {ds : List Da}
theorem mixedQ_ok (B : BoxQ n b) (hn : n ≤ 1000000) (hp : plL ds = true) (hd : dpL ds ≤ 40) (hl : ds.length ≤ 500) (k : ∀ (b' : Da) (es : List Da), BoxQ (n + ds.length) b' → es.Perm ds → Q (.cell (R.length + 2)) (b' :: (R ++ [.lst [], .lst es]))) :
    f_law_mixed [.cell 0, .lst ds] (b :: R) Q E := by
  unfold f_law_mixed m_law_mixed
  walk_at "m1"
  intro cM cD
  refine seq_hide fun N hN => ?_
  walk_at "m"
  refine hN _ _ ?_
  refine seq_hide fun N2 hN2 => ?_
  refine ⟨ds.length + 1, ?_⟩
  refine whl_ind (fun k ρ M' => ∃ (b' : Da) (left found : List Da), ρ = [some (.cell 0), some (.lst ds), some (.cell (R.length + 1)), some (.cell (R.length + 2))] ∧ M' = b' :: (R ++ [.lst left, .lst found]) ∧ left.length = k ∧ (found ++ left).Perm ds ∧ BoxQ (n + found.length) b') ?_ ?_ _ _ _ ⟨b, ds, [], ?_⟩
  · rintro ρ M' N3 ⟨b', left, found, rfl, rfl, e, pm, B'⟩
    have e : left = [] := List.length_eq_zero_iff.1 e
    subst e
    walk_at "m"
    refine hN2 _ _ ?_
    walk_at "m"
    rw [List.append_nil] at pm
    have fl := pm.length_eq
    exact leave_same (k b' found (by rw [← fl]; exact B') pm)
  · rintro j ρ M' N3 ⟨b', left, found, rfl, rfl, e, pm, B'⟩ hN3
    have pl := pm.length_eq
    rw [List.length_append] at pl
    have pL : plL left = true ∧ dpL left ≤ 40 := ⟨plL_all.2 fun d hd => plL_all.1 hp d (pm.mem_iff.1 (List.mem_append_right _ hd)), dpL_le.2 fun d h => dpL_le.1 hd d (pm.mem_iff.1 (List.mem_append_right _ h))⟩
    walk_at "m"
    refine ⟨⟨pL.1, by omega⟩, ite2 (fun c => ⟨⟨_, rfl⟩, ⟨_, rfl⟩, ?_⟩) (fun c => ?_)⟩
    · refine takeQ_ok (R := R ++ [.lst left, .lst found]) B' ?_ ?_ ?_ (fun i b2 B2 h0 h1 => ?_)
      · omega
      · omega
      · exact log_nat (by omega)
      walk_at "m"
      have hk : i.toNat < left.length := by omega
      refine ⟨by omega, by omega, i.toNat, left[i.toNat], seqI h0 h1, List.getElem?_eq_getElem hk, ?_⟩
      walk_at "m"
      refine ⟨by rw [sizeLine_eq]; omega, _, _, .same, hN3 _ _ ⟨b2, left.eraseIdx i.toNat, found ++ [left[i.toNat]], rfl, rfl, ?_, ?_, ?_⟩⟩
      · rw [List.length_eraseIdx, if_pos hk]; omega
      · rw [List.append_assoc]
        exact ((List.perm_append_left_iff found).2 (perm_erase hk)).trans pm
      · rw [List.length_append]
        exact B2.mono (by simp; omega)
    · exfalso
      apply c
      rw [eqL_nil]
      cases left with
      | nil => simp at e
      | cons _ _ => rfl
  · refine ⟨by simp, by simp, rfl, by simp, B.mono (by simp)⟩
end
end Z
namespace Z
open PySem PySem.Spec PyProof.Rows L2 Evl
open Hs
/-- numbers whose text is told -/
def SmE (x : Ent) : Prop := x.b.natAbs < 10000 ∧ x.e.natAbs < 10000 ∧ x.y.natAbs < 10000 ∧ ∀ i, x.t = .n i → i.natAbs < 10000
section
variable {M R S : Mem} {Q : TK} {E : XD} {D : En} {d b : Da} {n m : Nat} {x : Ent} {t : Bool} {xs : List Ent} {ks l zs tm : List Int} {ds : List Da}
theorem split2 {α : Type} {l : List α} (h : 2 ≤ l.length) : ∃ r u v, l = r ++ [u] ++ [v] := by
  have h1 : l ≠ [] := fun q => by rw [q] at h; simp at h
  have e1 := List.dropLast_concat_getLast h1
  have h2 : l.dropLast ≠ [] := fun q => by
    have := congrArg List.length q
    rw [List.length_dropLast] at this
    simp at this
    omega
  have e2 := List.dropLast_concat_getLast h2
  exact ⟨l.dropLast.dropLast, l.dropLast.getLast h2, l.getLast h1, by rw [e2, e1]⟩
def toI : Da → Int
  | .int i => i
  | _ => 0
theorem perm_ints {es : List Da} (p : es.Perm (zs.map Da.int)) : ∃ ys : List Int, es = ys.map Da.int ∧ ys.Perm zs := by
  refine ⟨es.map toI, ?_, ?_⟩
  · rw [List.map_map]
    refine (List.map_id es).symm.trans (List.map_congr_left fun d hd => ?_)
    obtain ⟨z, _, rfl⟩ := List.mem_map.1 (p.mem_iff.1 hd)
    rfl
  · have := p.map toI
    rw [List.map_map] at this
    have e : (toI ∘ Da.int) = id := rfl
    rw [e, List.map_id] at this
    exact this
theorem rng_nodup (n : Nat) : ((List.range n).map fun (k : Nat) => (-3 : Int) + (k : Int)).Nodup := by
  rw [List.Nodup, List.pairwise_map]
  exact List.Pairwise.imp (fun h => by omega) List.pairwise_lt_range
theorem times_snoc (xs : List Ent) (x : Ent) : timesL (xs ++ [x]) = timesL xs ++ [x.b, x.e] := by
  unfold timesL
  rw [List.flatMap_append]
  rfl
theorem two_sorted {ys : List Int} {u v : Int} (p : ys.Perm [v, u]) (a : ys.Pairwise (· ≤ ·)) (ne : u ≠ v) : ∃ x y, ys = [x, y] ∧ x < y ∧ [x, y].Perm [u, v] := by
  have l := p.length_eq
  match ys, l with
  | [x, y], _ =>
    have h := (List.pairwise_cons.1 a).1 y (List.mem_cons_self ..)
    have q : [x, y].Perm [u, v] := p.trans (List.Perm.swap ..)
    refine ⟨x, y, rfl, ?_, q⟩
    have nd : [x, y].Nodup := q.nodup_iff.2 (by simp [ne])
    have : x ≠ y := by
      intro e
      rw [e] at nd
      simp at nd
    omega
theorem at_map {α : Type} (f : α → Da) (xs : List α) {i : Int} (h0 : 0 ≤ i) (h1 : i < (xs.length : Int)) : ∃ v ∈ xs, atI (xs.map f) i = some (f v) := by
  obtain ⟨d, hd, e⟩ := atI_mem (xs := xs.map f) h0 (by rw [List.length_map]; exact h1)
  obtain ⟨v, hv, rfl⟩ := List.mem_map.1 hd
  exact ⟨v, hv, e⟩
abbrev en10 (m : Nat) (j : Nat) (s4 s5 s6 s7 s8 s9 : Option Da) : Sl := [some (.cell 0), some (.int m), some (.cell (j + 2)), some (.cell (j + 3)), s4, s5, s6, s7, s8, s9]
theorem entries_ok (B : BoxQ n b) (hn : n ≤ 500000) (hm : m ≤ 7) (k : ∀ (b' : Da) (xs : List Ent), BoxQ (n + 1000) b' → xs.length = m → (∀ x ∈ xs, EntOk x ∧ SmE x) → (timesL xs).Nodup → Q (.lst (xs.map entD)) (b' :: R)) : f_law_entries [.cell 0, .int m] (b :: R) Q E := by
  unfold f_law_entries m_law_entries
  walk_at "m1"
  intro cM cD
  refine seq_hide fun N hN => ?_
  walk_at "m"
  refine ⟨wide_mul (a := 3) (b := 4) (by decide) (by omega) (by decide) (by decide) (by decide), -3, 2 * (m : Int) + 3, rfl, rfl, ⟨by omega, by omega, by omega, by omega, by omega⟩, ?_⟩
  have el : rngD (-3) (2 * (m : Int) + 3 - -3).toNat = ((List.range (2 * m + 6)).map fun (k : Nat) => (-3 : Int) + (k : Int)).map Da.int := by
    have : (2 * (m : Int) + 3 - -3).toNat = 2 * m + 6 := by omega
    rw [this, List.map_map]
    rfl
  rw [el]
  refine mixedQ_ok B (by omega) (plL_ints _) (by rw [dpL_ints]; omega) (by rw [List.length_map, List.length_map, List.length_range]; omega) (fun b1 es B1 pm => ?_)
  obtain ⟨tm, rfl, pt⟩ := perm_ints pm
  have lt := pt.length_eq
  rw [List.length_map, List.length_range] at lt
  have nt : tm.Nodup := (pt.nodup_iff).2 (rng_nodup _)
  have bt : ∀ z ∈ tm, z.natAbs < 1000 := fun z hz => by
    obtain ⟨k, hk, rfl⟩ := List.mem_map.1 (pt.mem_iff.1 hz)
    have := List.mem_range.1 hk
    omega
  rw [List.length_map, List.length_map, List.length_range] at B1
  refine hN _ _ ?_
  unfold b_law_entries_1
  refine seq_hide fun N2 hN2 => ?_
  walk_at "m"
  refine ⟨by omega, by omega, ?_⟩
  refine forL_ind (fun j ρ M' => ∃ (b' : Da) (tm : List Int) (xs : List Ent) (s4 s5 s6 s7 s8 s9 : Option Da), ρ = en10 m R.length s4 s5 s6 s7 s8 s9 ∧ M' = b' :: (R ++ [.lst [], .lst (tm.map Da.int), .lst (xs.map entD)]) ∧ xs.length = j ∧ tm.length = 2 * m + 6 - 2 * j ∧ (∀ x ∈ xs, EntOk x ∧ SmE x) ∧ (timesL xs ++ tm).Nodup ∧ (∀ z ∈ tm, z.natAbs < 1000) ∧ BoxQ (n + (2 * m + 6) + 3 * j) b')
    ⟨b1, tm, [], none, none, none, none, none, none, ?_⟩ ?_ ?_
  · refine ⟨?_, ?_, rfl, by omega, (fun x hx => by cases hx), nt, bt, B1.mono (by omega)⟩
    · simp
    · simp
  · rintro j d ρ M' hd ⟨b', tm, xs, s4, s5, s6, s7, s8, s9, rfl, rfl, ex, et, hx, nd, bt, B'⟩ C hC
    have hj : j < m := by
      have := (rngD_at hd).1
      omega
    obtain ⟨r, u, v, rfl⟩ := split2 (l := tm) (by omega)
    walk_at "m"
    unfold l_law_entries_1
    refine seq_hide fun N3 hN3 => ?_
    walk_at "m"
    have em : (r ++ [u] ++ [v]).map Da.int = r.map Da.int ++ [Da.int u] ++ [Da.int v] := by rw [List.map_append, List.map_append]; rfl
    rw [em]
    simp only [pop_get, List.dropLast_concat]
    refine ⟨⟨_, rfl⟩, ⟨_, rfl⟩, ?_⟩
    have nuv : u ≠ v := by
      have h1 := (List.nodup_append.1 nd).2.1
      intro e
      rw [e, List.append_assoc] at h1
      have h2 := (List.nodup_append.1 h1).2.1
      simp at h2
    refine sort_ints (zs := [v, u]) fun ys p a => ?_
    obtain ⟨x1, x2, rfl, lt12, p12⟩ := two_sorted p a nuv
    walk_at "m"
    walk_at "g"
    refine hN3 _ _ ?_
    unfold b_law_entries_L1_1
    refine seq_hide fun N4 hN4 => ?_
    walk_at "m"
    refine takeQ_ok (m := 5) (R := R ++ [.lst [], .lst (r.map Da.int), .lst (xs.map entD)]) B' ?_ (by decide) (by decide) (fun i b2 B2 h0 h1 => ?_)
    · omega
    obtain ⟨kd, hkd, ek⟩ := at_map Da.str (["put", "put", "strike", "read", "read"] : List Str) h0 (by exact h1)
    walk_at "m"
    have e5 : ([.str "put", .str "put", .str "strike", .str "read", .str "read"] : List Da) = (["put", "put", "strike", "read", "read"] : List Str).map Da.str := rfl
    rw [e5, ek]
    walk_at "m"
    refine takeQ_ok (m := 4) (R := R ++ [.lst [], .lst (r.map Da.int), .lst (xs.map entD)]) B2 ?_ (by decide) (by decide) (fun i b3 B3 h0 h1 => ?_)
    · omega
    obtain ⟨y, hy, ey⟩ := at_map Da.int ([1, 1, 2, 30] : List Int) h0 (by exact h1)
    walk_at "m"
    have e4 : ([.int 1, .int 1, .int 2, .int 30] : List Da) = ([1, 1, 2, 30] : List Int).map Da.int := rfl
    rw [e4, ey]
    walk_at "m"
    refine hN4 _ _ ?_
    unfold b_law_entries_L1_2
    refine seq_hide fun N5 hN5 => ?_
    walk_at "m"
    have bu : ∀ z ∈ [x1, x2], z.natAbs < 1000 := fun z hz => by
      have hz := p12.mem_iff.1 hz
      refine bt z ?_
      rcases List.mem_cons.1 hz with h | h
      · simp [h]
      · rw [List.mem_singleton.1 h]; simp
    have yb : y.natAbs < 10000 := by
      simp at hy
      omega
    have fin : ∀ (t : To) (b4 : Da), BoxQ (n + (2 * m + 6) + 3 * j + 3) b4 → ((kd = ("put" : Str) ∧ (t = .d ∨ t = .r)) ∨ ((kd = ("strike" : Str) ∨ kd = ("read" : Str)) ∧ ∃ i : Int, t = .n i)) → (∀ i : Int, t = .n i → i.natAbs < 10000) →
        N5 (en10 m R.length (some d) (some (.int x1)) (some (.int x2)) (some (.str kd)) (some (.int y)) (some (toD t))) (b4 :: (R ++ [.lst [], .lst (r.map Da.int), .lst (xs.map entD)])) := fun t b4 B4 ht hs => hN5 _ _ (by
      unfold b_law_entries_L1_3
      walk_at "m"
      refine ⟨⟨_, rfl⟩, by rw [List.length_map, sizeLine_eq]; omega, hC _ _ _ _ .same (by trivial) ⟨b4, r, xs ++ [⟨x1, x2, kd, y, t⟩], some d, some (.int x1), some (.int x2), some (.str kd), some (.int y), some (toD t), rfl, ?_, ?_, ?_, ?_, ?_, ?_, B4.mono (by omega)⟩⟩
      · rw [List.map_append]
        rfl
      · rw [List.length_append, ex]
        rfl
      · rw [List.length_append, List.length_append] at et
        simp at et
        omega
      · intro z hz
        rcases List.mem_append.1 hz with h | h
        · exact hx z h
        · rw [List.mem_singleton.1 h]
          have := bu x1 (by simp)
          have := bu x2 (by simp)
          exact ⟨⟨lt12, ht⟩, by show x1.natAbs < 10000; omega, by show x2.natAbs < 10000; omega, yb, hs⟩
      · have pp : (timesL xs ++ (r ++ [u] ++ [v])).Perm (timesL (xs ++ [⟨x1, x2, kd, y, t⟩]) ++ r) := by
          rw [times_snoc, List.append_assoc, List.append_assoc]
          refine (List.perm_append_left_iff _).2 ?_
          exact List.perm_append_comm.trans ((List.perm_append_right_iff r).2 p12.symm)
        exact pp.nodup_iff.1 nd
      · exact fun z hz => bt z (by simp [hz]))
    have kinds : kd = ("put" : Str) ∨ kd = ("strike" : Str) ∨ kd = ("read" : Str) := by
      simp at hkd
      exact hkd
    refine ite2 (fun c => ?_) (fun c => ?_)
    · refine takeQ_ok (m := 2) (R := R ++ [.lst [], .lst (r.map Da.int), .lst (xs.map entD)]) B3 ?_ (by decide) (by decide) (fun i b4 B4 h0 h1 => ?_)
      · omega
      obtain ⟨t, ht, et2⟩ := at_map toD ([.d, .r] : List To) h0 (by exact h1)
      walk_at "m"
      have e2 : ([.str "done", .str "refused"] : List Da) = ([.d, .r] : List To).map toD := rfl
      rw [e2, et2]
      walk_at "m"
      simp at ht
      exact fin t b4 B4 (.inl ⟨c, ht⟩) fun i e => by rcases ht with h | h <;> rw [h] at e <;> cases e
    · refine takeQ_ok (m := 2) (R := R ++ [.lst [], .lst (r.map Da.int), .lst (xs.map entD)]) B3 ?_ (by decide) (by decide) (fun i b4 B4 h0 h1 => ?_)
      · omega
      walk_at "m"
      exact fin (.n i) b4 B4 (.inr ⟨kinds.resolve_left c, i, rfl⟩) fun j e => by
        cases e
        omega
  · rintro ρ M' ⟨b', tm, xs, s4, s5, s6, s7, s8, s9, rfl, rfl, ex, et, hx, nd, bt, B'⟩
    rw [rngD_len, Int.toNat_natCast] at ex B'
    refine hN2 _ _ ?_
    unfold b_law_entries_2
    walk_at "m"
    refine leave_boxQ (S := [.lst [], .lst (tm.map Da.int), .lst (xs.map entD)]) B' cM (d' := .lst (xs.map entD)) (frz_cell (by simp) (by omega) (plL_clo _ (ents_pl xs).1)) (k b' xs (B'.mono (by omega)) ex hx (List.nodup_append.1 nd).1)
end
end Z
namespace Z
open PySem PySem.Spec PyProof.Rows L2 Evl
open Hs
section
variable {M R S : Mem} {Q : TK} {E : XD} {D : En} {d b : Da} {n m : Nat} {x : Ent} {t : Bool} {xs : List Ent} {ks l zs tm : List Int} {ds : List Da}
structure KsOk (ks : List Int) : Prop where
  nd : ks.Nodup
  l : ks.length ≤ 3
  s : ∀ z ∈ ks, z.natAbs < 1000
/-- the keys drawn: for i the slot of the name -/
theorem keys_ok {ρ : Sl} {i : Nat} {still : Mem → Prop} {C : TK} (hs : ∀ M, still M) (h0 : ∀ z : Int, ((wipeD ρ [i]).set i (some (.int z)))[0]? = some (some (.cell 0))) (hi : ∀ z : Int, ((wipeD ρ [i]).set i (some (.int z)))[i]? = some (some (.int z))) (B : BoxQ n b) (hn : n ≤ 1000000)
    (k : ∀ (b' : Da) (ks : List Int), BoxQ (n + 3) b' → KsOk ks → C (intsL ks) (b' :: R)) :
    lcL still (hName i) (mB (mOp nEq (mCall f_law_take (mCons (mVar 0) (mCons (mC (.int 2)) mNil))) (mC (.int 0)))) (mVar i) [i] ρ [.int 1, .int 2, .int 30] [] (b :: R) C := by
  have step : ∀ (z : Int) (r acc : List Int) (n : Nat) (b : Da), BoxQ n b → n ≤ 2000000 → (∀ (b' : Da) (acc' : List Int), BoxQ (n + 1) b' → acc' = acc ∨ acc' = acc ++ [z] → lcL still (hName i) (mB (mOp nEq (mCall f_law_take (mCons (mVar 0) (mCons (mC (.int 2)) mNil))) (mC (.int 0)))) (mVar i) [i] ρ (r.map Da.int) (acc'.map Da.int) (b' :: R) C) →
      lcL still (hName i) (mB (mOp nEq (mCall f_law_take (mCons (mVar 0) (mCons (mC (.int 2)) mNil))) (mC (.int 0)))) (mVar i) [i] ρ ((z :: r).map Da.int) (acc.map Da.int) (b :: R) C := by
    intro z r acc n b B hn k
    rw [List.map_cons]
    unfold lcL
    have e0 := h0 z
    have ei := hi z
    unfold hName
    generalize (wipeD ρ [i]).set i (some (Da.int z)) = σ at e0 ei
    walk_at "m"
    simp only [e0, ei]
    walk_at "m"
    refine takeQ_ok (m := 2) B ?_ (by decide) (by decide) (fun i b' B' h0 h1 => ?_)
    · omega
    walk_at "m"
    refine ite2 (fun c => ⟨hs _, ?_⟩) (fun c => ⟨hs _, ?_⟩)
    · have k' := k b' (acc ++ [z]) B' (.inr rfl)
      rw [List.map_append] at k'
      exact k'
    · exact k b' acc B' (.inl rfl)
  refine step 1 [2, 30] [] n b B (by omega) fun b1 a1 B1 h1 => step 2 [30] a1 (n + 1) b1 B1 (by omega) fun b2 a2 B2 h2 => step 30 [] a2 (n + 1 + 1) b2 B2 (by omega) fun b3 a3 B3 h3 => ?_
  refine k b3 a3 B3 ?_
  rcases h1 with rfl | rfl <;> rcases h2 with rfl | rfl <;> rcases h3 with rfl | rfl <;> exact ⟨by decide, by decide, by decide⟩
theorem good_all {xs : List Ent} {ks l : List Int} (h : runE ks xs = some l) (t : ∀ i j, i < j → j < xs.length → (ent xs i).b ≤ (ent xs j).e) : good xs ks (List.range xs.length) = true := by
  rw [List.range_eq_range']
  exact good_run (k := 0) (by omega) (by rw [List.drop_zero]; exact h) t
theorem ent_snoc {xs : List Ent} {x : Ent} {i : Nat} (h : i < xs.length) : ent (xs ++ [x]) i = ent xs i := by
  unfold ent
  rw [List.getD_eq_getElem?_getD, List.getD_eq_getElem?_getD, List.getElem?_append_left h]
theorem ent_last {xs : List Ent} {x : Ent} : ent (xs ++ [x]) xs.length = x := by
  unfold ent
  rw [List.getD_eq_getElem?_getD]
  simp
/-- times that reach around the points of a serial run -/
def Reach (xs : List Ent) : Prop := ∀ i, i < xs.length → (ent xs i).b ≤ 20 * (i : Int) ∧ 20 * (i : Int) ≤ (ent xs i).e
theorem Reach.ord {xs : List Ent} (h : Reach xs) (i j : Nat) (l : i < j) (lj : j < xs.length) : (ent xs i).b ≤ (ent xs j).e := by
  have h1 := h i (by omega)
  have h2 := h j lj
  omega
theorem Reach.snoc {xs : List Ent} {x : Ent} (h : Reach xs) (hx : x.b ≤ 20 * (xs.length : Int) ∧ 20 * (xs.length : Int) ≤ x.e) : Reach (xs ++ [x]) := fun i hi => by
  rw [List.length_append] at hi
  by_cases c : i < xs.length
  · rw [ent_snoc c]
    exact h i c
  · have : i = xs.length := by simp at hi; omega
    rw [this, ent_last]
    exact hx
abbrev ho11 (m : Nat) (ks : List Int) (j : Nat) (s3 : Option Da) (s5 s6 s7 s8 s9 s10 : Option Da) : Sl := [some (.cell 0), some (.int m), some (intsL ks), s3, some (.cell (j + 2)), s5, s6, s7, s8, s9, s10]
/-- the memory of an honest history's loop -/
structure HoM (R : Mem) (n : Nat) (xs : List Ent) (l : List Int) (M : Mem) (s3 : Option Da) : Prop where
  ex : ∃ (b : Da) (S : Mem) (i : Nat), M = b :: (R ++ S) ∧ BoxQ n b ∧ S[1]? = some (.lst (xs.map entD)) ∧ i ≠ 1 ∧ s3 = some (.cell (R.length + 1 + i)) ∧ S[i]? = some (intsL l)
theorem look_s {b : Da} {R S : Mem} {i : Nat} {d : Da} (h : S[i]? = some d) : look (b :: (R ++ S)) (.cell (R.length + 1 + i)) = d := by
  rw [look_cell]
  have : R.length + 1 + i = (R.length + i) + 1 := by omega
  rw [this, List.getElem?_cons_succ, List.getElem?_append_right (by omega)]
  have : R.length + i - R.length = i := by omega
  rw [this, h]
  rfl
theorem at_s {b : Da} {R S : Mem} {i : Nat} {d : Da} (h : S[i]? = some d) : (b :: (R ++ S))[R.length + 1 + i]? = some d := by
  have : R.length + 1 + i = (R.length + i) + 1 := by omega
  rw [this, List.getElem?_cons_succ, List.getElem?_append_right (by omega)]
  have : R.length + i - R.length = i := by omega
  rw [this, h]
theorem at_1 {R S : Mem} {d : Da} (h : S[1]? = some d) : (R ++ S)[R.length + 1]? = some d := by
  rw [List.getElem?_append_right (by omega)]
  have : R.length + 1 - R.length = 1 := by omega
  rw [this, h]
theorem set_s {b v : Da} {R S : Mem} {i : Nat} : (b :: (R ++ S)).set (R.length + 1 + i) v = b :: (R ++ S.set i v) := by
  have : R.length + 1 + i = (R.length + i) + 1 := by omega
  rw [this, List.set_cons_succ, List.set_append_right _ _ (by omega)]
  have : R.length + i - R.length = i := by omega
  rw [this]
theorem set_1 {v : Da} {R S : Mem} : (R ++ S).set (R.length + 1) v = R ++ S.set 1 v := by
  rw [List.set_append_right _ _ (by omega)]
  have : R.length + 1 - R.length = 1 := by omega
  rw [this]
theorem aftL_len (l : List Int) (x : Ent) : (aftL l x).length ≤ l.length + 1 := by
  unfold aftL
  have := List.length_filter_le (fun w => !decide (w = x.y)) l
  split
  · rw [List.length_append]; simp
  · split <;> omega
theorem honest_ok (B : BoxQ n b) (hn : n ≤ 500000) (hm : m ≤ 7) (k : ∀ (b' : Da) (ks : List Int) (xs : List Ent), BoxQ (n + 1000) b' → KsOk ks → xs.length = m → (∀ x ∈ xs, EntOk x ∧ SmE x) → good xs ks (List.range xs.length) = true → Q (histD ks xs) (b' :: R)) :
    f_law_honest [.cell 0, .int m] (b :: R) Q E := by
  unfold f_law_honest m_law_honest
  walk_at "m1"
  intro cM cD
  refine seq_hide fun N hN => ?_
  refine ⟨by decide, ⟨by decide, ?_⟩⟩
  refine keys_ok (fun _ => rfl) (fun z => rfl) (fun z => rfl) B (by omega) fun b1 ks B1 hk => ?_
  have kl := hk.l
  refine hN _ _ ?_
  unfold b_law_honest_1
  refine seq_hide fun N1 hN1 => ?_
  walk_at "m"
  refine hN1 _ _ ?_
  unfold b_law_honest_2
  refine seq_hide fun N2 hN2 => ?_
  walk_at "m"
  refine ⟨by omega, by omega, ?_⟩
  refine forL_ind (fun j ρ M' => ∃ (xs : List Ent) (l : List Int) (s3 s6 s7 s8 s9 s10 : Option Da), ρ = ho11 m ks R.length s3 (some (.int j)) s6 s7 s8 s9 s10 ∧ HoM R (n + 3 + 4 * j) xs l M' s3 ∧ l.length ≤ ks.length + j ∧ xs.length = j ∧ (∀ x ∈ xs, EntOk x ∧ SmE x) ∧ (∃ l', runE ks xs = some l' ∧ ∀ z, z ∈ l' ↔ z ∈ l) ∧ Reach xs)
    ⟨[], ks, some (.cell (R.length + 1)), none, none, none, none, none, ?_⟩ ?_ ?_
  · refine ⟨?_, ⟨b1, [intsL ks, .lst []], 0, ?_, B1, rfl, by omega, rfl, rfl⟩, by omega, rfl, (fun x hx => by cases hx), ⟨ks, rfl, fun z => Iff.rfl⟩, fun i hi => by simp at hi⟩
    · simp
    · simp
  · rintro j d ρ M' hd ⟨xs, l, s3, s6, s7, s8, s9, s10, rfl, ⟨b', S, i, rfl, B', h1, h2, rfl, h4⟩, ll, ex, hx, ⟨l', hr, hl'⟩, rc⟩ C hC
    obtain ⟨hj, rfl⟩ := rngD_at hd
    rw [Int.zero_add]
    have hj : j < m := by simpa using hj
    walk_at "m"
    unfold l_law_honest_1
    refine seq_hide fun N3 hN3 => ?_
    walk_at "m"
    refine takeQ_ok (m := 5) (R := R ++ S) B' ?_ (by decide) (by decide) (fun i5 b2 B2 h50 h51 => ?_)
    · omega
    obtain ⟨kd, hkd, ek⟩ := at_map Da.str (["put", "put", "strike", "read", "read"] : List Str) h50 (by exact h51)
    walk_at "m"
    have e5 : ([.str "put", .str "put", .str "strike", .str "read", .str "read"] : List Da) = (["put", "put", "strike", "read", "read"] : List Str).map Da.str := rfl
    rw [e5, ek]
    walk_at "m"
    refine takeQ_ok (m := 4) (R := R ++ S) B2 ?_ (by decide) (by decide) (fun i4 b3 B3 h40 h41 => ?_)
    · omega
    obtain ⟨y, hy, ey⟩ := at_map Da.int ([1, 1, 2, 30] : List Int) h40 (by exact h41)
    walk_at "m"
    have e4 : ([.int 1, .int 1, .int 2, .int 30] : List Da) = ([1, 1, 2, 30] : List Int).map Da.int := rfl
    rw [e4, ey]
    walk_at "m"
    refine hN3 _ _ ?_
    have kinds : kd = ("put" : Str) ∨ kd = ("strike" : Str) ∨ kd = ("read" : Str) := by
      simp at hkd
      exact hkd
    have yb : y.natAbs < 10000 := by
      simp at hy
      omega
    have lk := look_s (b := b3) (R := R) h4
    have mid : ∀ (t : To) (S' : Mem) (i' : Nat) (s10 : Option Da), S'[1]? = some (.lst (xs.map entD)) → i' ≠ 1 → S'[i']? = some (intsL (aftL l ⟨0, 0, kd, y, t⟩)) → fits ⟨0, 0, kd, y, t⟩ (decide (y ∈ l)) = true → ((kd = ("put" : Str) ∧ (t = .d ∨ t = .r)) ∨ ((kd = ("strike" : Str) ∨ kd = ("read" : Str)) ∧ ∃ i : Int, t = .n i)) → (∀ i : Int, t = .n i → i.natAbs < 10000) →
        b_law_honest_L1_5 { nx := C, rt := leave (R.length + 1) Q, bk := N2, ct := C } (ho11 m ks R.length (some (.cell (R.length + 1 + i'))) (some (.int j)) (some (.int j)) (some (.str kd)) (some (.int y)) (some (toD t)) s10) (b3 :: (R ++ S')) := fun t S' i' s10 g1 g2 g4 hf ht hs => by
      unfold b_law_honest_L1_5
      refine seq_hide fun N5 hN5 => ?_
      walk_at "m"
      rw [at_1 g1]
      refine ⟨⟨_, rfl⟩, wide_mul (a := 5) (b := 4) (by decide) (by omega) (by decide) (by decide) (by decide), ?_⟩
      refine takeQ_ok (m := 3) (R := R ++ S') B3 ?_ (by decide) (by decide) (fun i6 b4 B4 h60 h61 => ?_)
      · omega
      obtain ⟨c1, hc1, ec1⟩ := at_map Da.int ([1, 25, 45] : List Int) h60 (by exact h61)
      walk_at "m"
      have e6 : ([.int 1, .int 25, .int 45] : List Da) = ([1, 25, 45] : List Int).map Da.int := rfl
      rw [e6, ec1]
      have c1b : 0 < c1 ∧ c1 < 50 := by
        simp at hc1
        omega
      walk_at "m"
      refine ⟨wide_mul (a := 6) (b := 2) (by omega) (by decide) (by decide) (by decide) (by decide), wide_mul (a := 5) (b := 4) (by decide) (by omega) (by decide) (by decide) (by decide), ?_⟩
      refine takeQ_ok (m := 3) (R := R ++ S') B4 ?_ (by decide) (by decide) (fun i7 b5 B5 h70 h71 => ?_)
      · omega
      obtain ⟨c2, hc2, ec2⟩ := at_map Da.int ([1, 21, 47] : List Int) h70 (by exact h71)
      walk_at "m"
      have e7 : ([.int 1, .int 21, .int 47] : List Da) = ([1, 21, 47] : List Int).map Da.int := rfl
      rw [e7, ec2]
      have c2b : 0 < c2 ∧ c2 < 50 := by
        simp at hc2
        omega
      walk_at "m"
      refine ⟨wide_mul (a := 6) (b := 2) (by omega) (by decide) (by decide) (by decide) (by decide), ?_⟩
      rw [at_1 g1]
      walk_at "m"
      rw [set_1]
      refine ⟨by rw [List.length_map, sizeLine_eq]; omega, hN5 _ _ ?_⟩
      unfold b_law_honest_L1_6
      walk_at "m"
      have hx1 : S'.length > 1 := (List.getElem?_eq_some_iff.1 g1).1
      have hf' : fits ⟨20 * j - c1 * 2 - j, 20 * j + c2 * 2 + j, kd, y, t⟩ (decide (y ∈ l')) = true := by
        have e : decide (y ∈ l') = decide (y ∈ l) := by simp only [hl']
        rw [e]
        exact hf
      refine hC _ _ _ _ .same (by trivial) ⟨xs ++ [⟨20 * j - c1 * 2 - j, 20 * j + c2 * 2 + j, kd, y, t⟩], aftL l ⟨0, 0, kd, y, t⟩, some (.cell (R.length + 1 + i')), some (.int j), some (.str kd), some (.int y), some (toD t), s10, ?_, ⟨b5, _, i', rfl, B5.mono (by omega), ?_, g2, rfl, ?_⟩, ?_, ?_, ?_, ⟨_, run_snoc hr hf', fun z => ?_⟩, ?_⟩
      · have : (j : Int) + 1 = ((j + 1 : Nat) : Int) := by omega
        rw [this]
      · rw [List.getElem?_set_self hx1, List.map_append]
        rfl
      · rw [List.getElem?_set_ne (by omega)]
        exact g4
      · have := aftL_len l ⟨0, 0, kd, y, t⟩
        omega
      · rw [List.length_append, ex]
        rfl
      · intro z hz
        rcases List.mem_append.1 hz with h | h
        · exact hx z h
        · rw [List.mem_singleton.1 h]
          refine ⟨⟨?_, ht⟩, ?_, ?_, yb, hs⟩
          · show (20 : Int) * j - c1 * 2 - j < 20 * j + c2 * 2 + j
            omega
          · show ((20 : Int) * j - c1 * 2 - j).natAbs < 10000
            omega
          · show ((20 : Int) * j + c2 * 2 + j).natAbs < 10000
            omega
      · have e1 : z ∈ aftL l ⟨0, 0, kd, y, t⟩ ↔ z ∈ aft l ⟨0, 0, kd, y, t⟩ := aftL_mem
        rw [e1, aft_mem, aft_mem]
        have e : decide (y ∈ l') = decide (y ∈ l) := by simp only [hl']
        show (if z = y then rowB ⟨20 * j - c1 * 2 - j, 20 * j + c2 * 2 + j, kd, y, t⟩ (decide (y ∈ l')) = true else z ∈ l') ↔ (if z = y then rowB ⟨0, 0, kd, y, t⟩ (decide (y ∈ l)) = true else z ∈ l)
        rw [e, hl' z]
        exact Iff.rfl
      · refine rc.snoc ?_
        rw [ex]
        exact ⟨by show (20 : Int) * j - c1 * 2 - j ≤ 20 * j; omega, by show (20 : Int) * j ≤ 20 * j + c2 * 2 + j; omega⟩
    unfold b_law_honest_L1_1
    refine seq_hide fun N4 hN4 => ?_
    walk_at "m"
    rw [at_s h4]
    walk_at "m"
    refine ⟨⟨plL_ints l, by rw [dpL_ints]; omega⟩, hN4 _ _ ?_⟩
    simp only [anyI]
    have ps : ("put" : Str) ≠ ("strike" : Str) := by decide
    have pr : ("put" : Str) ≠ ("read" : Str) := by decide
    have td1 : eqD (toD .r) (.str "done") = false := by decide
    have td2 : eqD (toD .d) (.str "done") = true := by decide
    have g3 : ∀ t : To, fits ⟨0, 0, kd, y, t⟩ (decide (y ∈ l)) = true → ((kd = ("put" : Str) ∧ (t = .d ∨ t = .r)) ∨ ((kd = ("strike" : Str) ∨ kd = ("read" : Str)) ∧ ∃ i : Int, t = .n i)) → (∀ i : Int, t = .n i → i.natAbs < 10000) →
        b_law_honest_L1_3 { nx := C, rt := leave (R.length + 1) Q, bk := N2, ct := C } (ho11 m ks R.length (some (.cell (R.length + 1 + i))) (some (.int j)) (some (.int j)) (some (.str kd)) (some (.int y)) (some (toD t)) s10) (b3 :: (R ++ S)) := fun t hf ht hs => by
      have md := mid t
      have pt := toD_pl t
      unfold aftL at md
      unfold b_law_honest_L1_3
      refine cut_hide fun N7 hN7 => ?_
      walk_at "m"
      refine ite2 (fun ks' => ?_) (fun ks' => hN7 _ _ ?_)
      · rw [at_s h4]
        walk_at "m"
        have np : ¬ kd = ("put" : Str) := fun h => ps (h.symm.trans ks')
        refine ⟨by rw [List.length_map]; omega, ?_⟩
        refine lcL_xs Da.int l (fun z => !decide (z = y)) Da.int (fun z => ho11 m ks R.length (some (.cell (R.length + 1 + i))) (some (.int j)) (some (.int j)) (some (.str kd)) (some (.int y)) (some (toD t)) (some (.int z))) (fun z hz R r => r) (fun z hz R r => ?_) (fun z hz _ R r => ?_) ?_ ?_
        · walk_at "m"
          exact r
        · exact r
        · walk_at "m"
          rw [at_s h4]
          rfl
        walk_at "m"
        refine hN7 _ _ ?_
        unfold b_law_honest_L1_4
        refine cut_hide fun N8 hN8 => ?_
        walk_at "m"
        refine ite2 (fun c => absurd c np) (fun _ => hN8 _ _ ?_)
        have ls : 1 < S.length := (List.getElem?_eq_some_iff.1 h1).1
        have g := md (S ++ [intsL (l.filter fun z => !decide (z = y))]) S.length s10 (by rw [List.getElem?_append_left ls]; exact h1) (by omega) (by rw [if_neg (fun h => np h.1), if_pos ks']; simp) hf ht hs
        have e1 : (R ++ S).length + 1 = R.length + 1 + S.length := by rw [List.length_append]; omega
        rw [e1, List.append_assoc]
        exact g
      · unfold b_law_honest_L1_4
        refine cut_hide fun N8 hN8 => ?_
        walk_at "m"
        refine ite2 (fun kp => ?_) (fun kp => hN8 _ _ ?_)
        · rw [lookE_pl pt.1]
          refine ⟨⟨pt.1, by rw [pt.2]; omega⟩, ite2 (fun ct => ?_) (fun ct => hN8 _ _ ?_)⟩
          · have td : t = .d := by
              rcases ht with ⟨_, h⟩ | ⟨h, _⟩
              · rcases h with h | h
                · exact h
                · rw [h, td1] at ct
                  cases ct
              · rcases h with h | h <;> rw [kp] at h
                · exact absurd h ps
                · exact absurd h pr
            have nm : y ∉ l := by
              rw [td] at hf
              unfold fits at hf
              rw [if_pos kp] at hf
              intro hy
              simp [hy] at hf
            rw [at_s h4]
            walk_at "m"
            rw [set_s]
            have ls : i < S.length := (List.getElem?_eq_some_iff.1 h4).1
            have g := md (S.set i (.lst (l.map Da.int ++ [.int y]))) i s10 (by rw [List.getElem?_set_ne (by omega)]; exact h1) h2 (by rw [if_pos ⟨kp, nm⟩, List.getElem?_set_self ls, intsL, List.map_append]; rfl) hf ht hs
            exact ⟨⟨_, rfl⟩, by rw [List.length_map, sizeLine_eq]; omega, hN8 _ _ g⟩
          · have tr : t = .r := by
              rcases ht with ⟨_, h⟩ | ⟨h, _⟩
              · rcases h with h | h
                · rw [h, td2] at ct
                  exact absurd rfl ct
                · exact h
              · rcases h with h | h <;> rw [kp] at h
                · exact absurd h ps
                · exact absurd h pr
            have im : y ∈ l := by
              rw [tr] at hf
              unfold fits at hf
              rw [if_pos kp] at hf
              by_cases hy : y ∈ l
              · exact hy
              · simp [hy] at hf
            exact md S i s10 h1 h2 (by rw [if_neg (fun h => h.2 im), if_neg ks']; exact h4) hf ht hs
        · exact md S i s10 h1 h2 (by rw [if_neg (fun h => kp h.1), if_neg ks']; exact h4) hf ht hs
    unfold b_law_honest_L1_2
    refine cut_hide fun N6 hN6 => ?_
    walk_at "m"
    refine ite2 (fun kp => ?_) (fun kp => hN6 _ _ ?_)
    · rw [at_s h4]
      walk_at "m"
      refine ⟨⟨plL_ints l, by rw [dpL_ints]; omega⟩, ite2 (fun c => hN6 _ _ ?_) (fun c => hN6 _ _ ?_)⟩
      · rw [anyI] at c
        refine g3 .r ?_ (.inl ⟨kp, .inr rfl⟩) (fun i e => by cases e)
        unfold fits
        rw [if_pos kp, c]
        simp
      · rw [anyI, Bool.not_eq_true] at c
        refine g3 .d ?_ (.inl ⟨kp, .inl rfl⟩) (fun i e => by cases e)
        unfold fits
        rw [if_pos kp, c]
        simp
    · have g := g3 (.n (if y ∈ l then 1 else 0)) (by unfold fits; rw [if_neg kp]; simp) (.inr ⟨kinds.resolve_left kp, _, rfl⟩) (fun i e => by
        cases e
        split <;> decide)
      exact g
  · rintro ρ M' ⟨xs, l, s3, s6, s7, s8, s9, s10, rfl, ⟨b', S, i, rfl, B', h1, h2, h3, h4⟩, ll, ex, hx, ⟨l', hr, _⟩, rc⟩
    rw [rngD_len, Int.toNat_natCast] at ex B'
    refine hN2 _ _ ?_
    unfold b_law_honest_3
    walk_at "m"
    refine leave_boxQ B' cM (d' := histD ks xs) ?_ (k b' ks xs (B'.mono (by omega)) hk ex hx (good_all hr rc.ord))
    have c1 : cloD (R.length + 1) (.tup [intsL ks, .cell (R.length + 2)]) = false := by
      unfold cloD cloL cloL cloL
      rw [show cloD (R.length + 1) (.cell (R.length + 2)) = false by unfold cloD; exact decide_eq_false (by omega)]
      simp
    have c2 : frz (R.length + 1) 3 (b' :: (R ++ S)) (intsL ks) = some (intsL ks) := frz_clo (intsL_clo _ _)
    have c3 : frz (R.length + 1) 3 (b' :: (R ++ S)) (.cell (R.length + 2)) = some (.lst (xs.map entD)) := by
      refine frz_cell ?_ (by omega) (plL_clo _ (ents_pl xs).1)
      have e : R.length + 2 = (R.length + 1) + 1 := rfl
      rw [e, List.getElem?_cons_succ, List.getElem?_append_right (by omega)]
      have : R.length + 1 - R.length = 1 := by omega
      rw [this, h1]
    unfold frz
    rw [if_neg (by rw [c1]; simp)]
    show Option.map Da.tup (mapO (frz (R.length + 1) 3 (b' :: (R ++ S))) [intsL ks, .cell (R.length + 2)]) = _
    unfold mapO mapO mapO
    rw [c2, c3]
    rfl
end
end Z
namespace Z
open PySem PySem.Spec PyProof.Rows L2 Evl
namespace Hs
def mayE (L : List Ent) (x : Ent) : Bool := L.all fun z => !decide (z.e < x.b)
def goodE : List Int → List Ent → Bool
  | _, [] => true
  | l, x :: r => mayE r x && fits x (decide (x.y ∈ l)) && goodE (aft l x) r
theorem may_map {xs : List Ent} {r : List Nat} {i : Nat} : may xs r i = mayE (r.map (ent xs)) (ent xs i) := by
  unfold may mayE
  rw [List.all_map]
  rfl
theorem good_map {xs : List Ent} : ∀ {o : List Nat} {l : List Int}, good xs l o = goodE l (o.map (ent xs))
  | [], _ => rfl
  | i :: r, l => by
    rw [List.map_cons]
    show (may xs r i && fits (ent xs i) (decide ((ent xs i).y ∈ l)) && good xs (aft l (ent xs i)) r) = (mayE (r.map (ent xs)) (ent xs i) && fits (ent xs i) (decide ((ent xs i).y ∈ l)) && goodE (aft l (ent xs i)) (r.map (ent xs)))
    rw [may_map, good_map]
/-- entries of one key: only whether this key is there counts -/
theorem goodE_on {k : Int} : ∀ {q : List Ent} {l l' : List Int}, (∀ x ∈ q, x.y = k) → (k ∈ l ↔ k ∈ l') → goodE l q = goodE l' q
  | [], _, _, _, _ => rfl
  | x :: r, l, l', hk, h => by
    have ek := hk x (List.mem_cons_self ..)
    have e : decide (x.y ∈ l) = decide (x.y ∈ l') := by rw [ek]; simp only [h]
    have e2 : k ∈ aft l x ↔ k ∈ aft l' x := by
      rw [aft_mem, aft_mem, e, if_pos ek.symm, if_pos ek.symm]
    unfold goodE
    rw [e, goodE_on (q := r) (fun z hz => hk z (List.mem_cons_of_mem _ hz)) e2]
def ofK (k : Int) (L : List Ent) : List Ent := L.filter fun x => decide (x.y = k)
theorem ofK_key {k : Int} {L : List Ent} : ∀ x ∈ ofK k L, x.y = k := fun x hx => by simpa using (List.mem_filter.1 hx).2
/-- what explains the whole explains each key -/
theorem goodE_key (k : Int) : ∀ {q : List Ent} {l : List Int}, goodE l q = true → goodE l (ofK k q) = true
  | [], _, _ => rfl
  | x :: r, l, h => by
    unfold goodE at h
    rw [Bool.and_eq_true, Bool.and_eq_true] at h
    obtain ⟨⟨h1, h2⟩, h3⟩ := h
    have ih := goodE_key k h3
    by_cases c : x.y = k
    · have e : ofK k (x :: r) = x :: ofK k r := by unfold ofK; rw [List.filter_cons, if_pos (by simp [c])]
      have : mayE (ofK k r) x = true := by
        unfold mayE ofK at *
        rw [List.all_eq_true] at h1 ⊢
        exact fun z hz => h1 z (List.mem_filter.1 hz).1
      rw [e]
      unfold goodE
      rw [h2, ih, this]
      rfl
    · have e : ofK k (x :: r) = ofK k r := by unfold ofK; rw [List.filter_cons, if_neg (by simp [c])]
      rw [e, goodE_on (k := k) (l' := aft l x) ofK_key (by rw [aft_mem, if_neg (fun e => c e.symm)])]
      exact ih
def Has (l : List Int) (L : List Ent) : Prop := ∃ q : List Ent, q.Perm L ∧ goodE l q = true
theorem Has.key {l : List Int} {L : List Ent} (h : Has l L) (k : Int) : Has l (ofK k L) := by
  obtain ⟨q, p, g⟩ := h
  exact ⟨ofK k q, p.filter _, goodE_key k g⟩
theorem Has.perm {l l' : List Int} {L L' : List Ent} {k : Int} (h : Has l (ofK k L)) (pl : ∀ z, z ∈ l ↔ z ∈ l') (p : L.Perm L') : Has l' (ofK k L') := by
  obtain ⟨q, pq, g⟩ := h
  have hk : ∀ x ∈ q, x.y = k := fun x hx => ofK_key x (pq.mem_iff.1 hx)
  exact ⟨q, pq.trans (p.filter _), by rw [← goodE_on hk (pl k)]; exact g⟩
theorem perm_lift {α β : Type} (f : α → β) : ∀ {q : List β} {L : List α}, q.Perm (L.map f) → ∃ o : List α, o.Perm L ∧ q = o.map f
  | [], L, p => by
    have e := List.Perm.nil_eq p
    cases L with
    | nil => exact ⟨[], .refl _, rfl⟩
    | cons a L => cases e
  | x :: t, L, p => by
    obtain ⟨a, ha, rfl⟩ := List.mem_map.1 (p.mem_iff.1 (List.mem_cons_self ..))
    obtain ⟨l1, l2, rfl⟩ := List.append_of_mem ha
    have p2 : (f a :: t).Perm (f a :: (l1 ++ l2).map f) := p.trans (by rw [List.map_append, List.map_cons, List.map_append]; exact List.perm_middle)
    obtain ⟨o, po, rfl⟩ := perm_lift f ((List.perm_cons _).1 p2)
    exact ⟨a :: o, (po.cons a).trans List.perm_middle.symm, rfl⟩
theorem perms_all : ∀ {n : Nat} {L o : List Nat}, L.Nodup → L.length = n → o.Perm L → o ∈ permsF n L
  | 0, L, o, _, hl, p => by
    have e := List.length_eq_zero_iff.1 hl
    subst e
    rw [List.Perm.eq_nil p]
    exact List.mem_singleton.2 rfl
  | n + 1, L, [], _, hl, p => by
    have := p.length_eq
    simp at this
    omega
  | n + 1, L, x :: t, nd, hl, p => by
    have hx : x ∈ L := p.mem_iff.1 (List.mem_cons_self ..)
    refine List.mem_flatMap.2 ⟨x, hx, List.mem_map.2 ⟨t, ?_, rfl⟩⟩
    have l1 := len_filter nd hx
    exact perms_all (nd.filter _) (by omega) ((List.perm_cons x).1 (p.trans (perm_filter nd hx).symm))
section
variable {xs : List Ent} {l ks W : List Int} {left o : List Nat} {m n : Nat} {k : Int} {f : Int → List Nat}
theorem order_none (be : ∀ i, (ent xs i).b < (ent xs i).e) (nd : left.Nodup) (hm : left.length ≤ m) : orderF xs m left l = none ↔ ¬ Has l (left.map (ent xs)) := by
  rw [order_find be nd rfl m hm, List.find?_eq_none]
  constructor
  · rintro h ⟨q, p, g⟩
    obtain ⟨o, po, rfl⟩ := perm_lift _ p
    exact h o (perms_all nd rfl po) (by rw [good_map]; exact g)
  · intro h o ho g
    exact h ⟨o.map (ent xs), (perms_perm nd rfl ho).map _, by rw [← good_map]; exact g⟩
theorem order_some (be : ∀ i, (ent xs i).b < (ent xs i).e) (nd : left.Nodup) (hm : left.length ≤ m) (h : orderF xs m left l = some o) : o.Perm left ∧ good xs l o = true := by
  rw [order_find be nd rfl m hm] at h
  exact ⟨perms_perm nd rfl (List.mem_of_find?_eq_some h), List.find?_some h⟩
theorem ents_range (xs : List Ent) : (List.range xs.length).map (ent xs) = xs := by
  refine List.ext_getElem? fun i => ?_
  rw [List.getElem?_map]
  by_cases h : i < xs.length
  · rw [List.getElem?_range h, Option.map_some, ent, List.getD_eq_getElem?_getD, List.getElem?_eq_getElem h]
    rfl
  · rw [List.getElem?_eq_none (by rw [List.length_range]; omega), List.getElem?_eq_none (by omega)]
    rfl
def nums (xs : List Ent) (k : Int) : List Nat := (List.range xs.length).filter fun i => decide ((ent xs i).y = k)
theorem nums_map (xs : List Ent) (k : Int) : (nums xs k).map (ent xs) = ofK k xs := by
  conv => rhs; rw [← ents_range xs]
  unfold ofK nums
  rw [List.filter_map]
  rfl
theorem nums_nd : (nums xs k).Nodup := List.nodup_range.filter _
theorem nums_len : (nums xs k).length ≤ xs.length := by
  have := List.length_filter_le (fun i => decide ((ent xs i).y = k)) (List.range xs.length)
  rw [List.length_range] at this
  exact this
theorem nums_lt {i : Nat} (h : i ∈ nums xs k) : i < xs.length ∧ (ent xs i).y = k := by
  have := List.mem_filter.1 h
  exact ⟨List.mem_range.1 this.1, by simpa using this.2⟩
/-- a key whose entries alone have no order -/
def badB (ks : List Int) (xs : List Ent) (k : Int) : Bool := (orderF xs 9 (nums xs k) ks).isNone
theorem bad_iff (be : ∀ i, (ent xs i).b < (ent xs i).e) (hl : xs.length ≤ 8) : badB ks xs k = true ↔ ¬ Has ks (ofK k xs) := by
  unfold badB
  rw [Option.isNone_iff_eq_none, order_none be nums_nd (by have := nums_len (xs := xs) (k := k); omega), nums_map]
theorem alone_iff (be : ∀ i, (ent (ofK k xs) i).b < (ent (ofK k xs) i).e) (hl : (ofK k xs).length ≤ 8) : orderF (ofK k xs) 9 (List.range (ofK k xs).length) ks = none ↔ ¬ Has ks (ofK k xs) := by
  rw [order_none be List.nodup_range (by rw [List.length_range]; omega), ents_range]
theorem bad_perm {xs' : List Ent} {ks' : List Int} (be : ∀ i, (ent xs i).b < (ent xs i).e) (be' : ∀ i, (ent xs' i).b < (ent xs' i).e) (hl : xs.length ≤ 8) (p : xs'.Perm xs) (pk : ∀ z, z ∈ ks' ↔ z ∈ ks) : badB ks' xs' k = badB ks xs k := by
  rw [Bool.eq_iff_iff, bad_iff be hl, bad_iff be' (by rw [p.length_eq]; exact hl)]
  exact ⟨fun h g => h (g.perm (fun z => (pk z).symm) p.symm), fun h g => h (g.perm pk p)⟩
def insU (z : Int) : List Int → List Int
  | [] => [z]
  | a :: r => if z < a then z :: a :: r else if z = a then a :: r else a :: insU z r
def wanted (xs : List Ent) : List Int := xs.foldr (fun x l => insU x.y l) []
theorem insU_mem {z j : Int} : ∀ {r : List Int}, j ∈ insU z r ↔ j = z ∨ j ∈ r
  | [] => by simp [insU]
  | a :: r => by
    unfold insU
    by_cases h1 : z < a
    · rw [if_pos h1, List.mem_cons]
    · rw [if_neg h1]
      by_cases h2 : z = a
      · rw [if_pos h2, h2, List.mem_cons]
        constructor
        · exact .inr
        · rintro (h | h)
          · exact .inl h
          · exact h
      · rw [if_neg h2, List.mem_cons, insU_mem, List.mem_cons]
        constructor
        · rintro (h | h | h)
          · exact .inr (.inl h)
          · exact .inl h
          · exact .inr (.inr h)
        · rintro (h | h | h)
          · exact .inr (.inl h)
          · exact .inl h
          · exact .inr (.inr h)
theorem insU_asc {z : Int} : ∀ {r : List Int}, r.Pairwise (· < ·) → (insU z r).Pairwise (· < ·)
  | [], _ => by simp [insU]
  | a :: r, h => by
    have h' := List.pairwise_cons.1 h
    unfold insU
    by_cases h1 : z < a
    · rw [if_pos h1]
      refine List.pairwise_cons.2 ⟨fun b hb => ?_, h⟩
      rcases List.mem_cons.1 hb with e | e
      · omega
      · have := h'.1 b e
        omega
    · rw [if_neg h1]
      by_cases h2 : z = a
      · rw [if_pos h2]
        exact h
      · rw [if_neg h2]
        refine List.pairwise_cons.2 ⟨fun b hb => ?_, insU_asc h'.2⟩
        rcases insU_mem.1 hb with e | e
        · omega
        · exact h'.1 b e
theorem wanted_asc : ∀ (xs : List Ent), (wanted xs).Pairwise (· < ·)
  | [] => .nil
  | x :: xs => insU_asc (wanted_asc xs)
theorem wanted_mem {j : Int} : ∀ {xs : List Ent}, j ∈ wanted xs ↔ j ∈ xs.map (·.y)
  | [] => Iff.rfl
  | x :: xs => by
    have e : wanted (x :: xs) = insU x.y (wanted xs) := rfl
    rw [e, insU_mem, wanted_mem, List.map_cons, List.mem_cons]
theorem asc_ext : ∀ {a b : List Int}, a.Pairwise (· < ·) → b.Pairwise (· < ·) → (∀ z, z ∈ a ↔ z ∈ b) → a = b
  | [], [], _, _, _ => rfl
  | [], y :: b, _, _, h => by have := (h y).2 (List.mem_cons_self ..); cases this
  | x :: a, [], _, _, h => by have := (h x).1 (List.mem_cons_self ..); cases this
  | x :: a, y :: b, ha, hb, h => by
    have h1 := List.pairwise_cons.1 ha
    have h2 := List.pairwise_cons.1 hb
    have e : x = y := by
      rcases List.mem_cons.1 ((h x).1 (List.mem_cons_self ..)) with c | c
      · exact c
      · rcases List.mem_cons.1 ((h y).2 (List.mem_cons_self ..)) with d | d
        · exact d.symm
        · have := h2.1 x c
          have := h1.1 y d
          omega
    subst e
    rw [asc_ext h1.2 h2.2 fun z => ?_]
    constructor
    · intro hz
      rcases List.mem_cons.1 ((h z).1 (List.mem_cons_of_mem _ hz)) with c | c
      · have := h1.1 z hz; omega
      · exact c
    · intro hz
      rcases List.mem_cons.1 ((h z).2 (List.mem_cons_of_mem _ hz)) with c | c
      · have := h2.1 z hz; omega
      · exact c
theorem wanted_perm {xs' : List Ent} (p : xs'.Perm xs) : wanted xs' = wanted xs := asc_ext (wanted_asc _) (wanted_asc _) fun z => by rw [wanted_mem, wanted_mem, (p.map _).mem_iff]
theorem wanted_len : ∀ (xs : List Ent), (wanted xs).length ≤ xs.length
  | [] => Nat.le_refl _
  | x :: xs => by
    have ins : ∀ (z : Int) (r : List Int), (insU z r).length ≤ r.length + 1 := fun z r => by
      induction r with
      | nil => exact Nat.le_refl _
      | cons a r ih =>
        unfold insU
        split
        · exact Nat.le_refl _
        · split
          · exact Nat.le_succ _
          · simp only [List.length_cons]; omega
    have := wanted_len xs
    have := ins x.y (wanted xs)
    show (insU x.y (wanted xs)).length ≤ _
    rw [List.length_cons]
    omega
/-- the bad keys -/
def dueL (ks : List Int) (xs : List Ent) : List Int := (wanted xs).filter (badB ks xs)
structure Mg (xs : List Ent) (W l : List Int) (left : List Nat) (f : Int → List Nat) : Prop where
  nd : left.Nodup
  key : ∀ k ∈ W, ∀ i ∈ f k, (ent xs i).y = k ∧ i ∈ left
  all : ∀ i ∈ left, (ent xs i).y ∈ W ∧ i ∈ f (ent xs i).y
  ok : ∀ k ∈ W, good xs l (f k) = true
  fd : ∀ k ∈ W, (f k).Nodup
theorem min_end (xs : List Ent) : ∀ {left : List Nat}, left ≠ [] → ∃ a ∈ left, ∀ b ∈ left, (ent xs a).e ≤ (ent xs b).e
  | [], h => absurd rfl h
  | [a], _ => ⟨a, List.mem_cons_self .., fun b hb => by rw [List.mem_singleton.1 hb]; exact Int.le_refl _⟩
  | a :: b :: r, _ => by
    obtain ⟨c, hc, h⟩ := min_end xs (left := b :: r) (by simp)
    by_cases q : (ent xs a).e ≤ (ent xs c).e
    · refine ⟨a, List.mem_cons_self .., fun d hd => ?_⟩
      rcases List.mem_cons.1 hd with e | hd
      · rw [e]; exact Int.le_refl _
      · have := h d hd
        omega
    · refine ⟨c, List.mem_cons_of_mem _ hc, fun d hd => ?_⟩
      rcases List.mem_cons.1 hd with e | hd
      · rw [e]; omega
      · exact h d hd
theorem Mg.head (be : ∀ i, (ent xs i).b < (ent xs i).e) (g : Mg xs W l left f) (ne : left ≠ []) : ∃ k ∈ W, ∃ n r, f k = n :: r ∧ may xs left n = true := by
  obtain ⟨a, ha, hm⟩ := min_end xs ne
  obtain ⟨kw, af⟩ := g.all a ha
  refine ⟨_, kw, ?_⟩
  have go := g.ok _ kw
  cases e : f (ent xs a).y with
  | nil => rw [e] at af; cases af
  | cons n r =>
    refine ⟨n, r, rfl, ?_⟩
    rw [e] at go af
    have go' : (may xs r n && fits (ent xs n) (decide ((ent xs n).y ∈ l)) && good xs (aft l (ent xs n)) r) = true := go
    rw [Bool.and_eq_true, Bool.and_eq_true] at go'
    have h1 : (ent xs n).b ≤ (ent xs a).e := by
      rcases List.mem_cons.1 af with h | h
      · have := be n
        rw [h]
        omega
      · have := List.all_eq_true.1 go'.1.1 a h
        simp at this
        omega
    unfold may
    rw [List.all_eq_true]
    intro o ho
    have := hm o ho
    simp
    omega
theorem filt_ne {L : List Nat} (h : n ∉ L) : (L.filter fun o => !decide (o = n)) = L := List.filter_eq_self.2 fun o ho => by
  have : o ≠ n := fun q => h (q ▸ ho)
  simp [this]
theorem Mg.step {r : List Nat} (g : Mg xs W l left f) (hk : k ∈ W) (e : f k = n :: r) :
    fits (ent xs n) (decide ((ent xs n).y ∈ l)) = true ∧ n ∈ left ∧ Mg xs W (aft l (ent xs n)) (left.filter fun o => !decide (o = n)) (fun j => (f j).filter fun o => !decide (o = n)) := by
  have nk := g.key k hk n (by rw [e]; exact List.mem_cons_self ..)
  have go := g.ok _ hk
  rw [e] at go
  have go' : (may xs r n && fits (ent xs n) (decide ((ent xs n).y ∈ l)) && good xs (aft l (ent xs n)) r) = true := go
  rw [Bool.and_eq_true, Bool.and_eq_true] at go'
  refine ⟨go'.1.2, nk.2, ⟨g.nd.filter _, fun j hj i hi => ?_, fun i hi => ?_, fun j hj => ?_, fun j hj => (g.fd j hj).filter _⟩⟩
  · have h := List.mem_filter.1 hi
    have z := g.key j hj i h.1
    exact ⟨z.1, List.mem_filter.2 ⟨z.2, h.2⟩⟩
  · have h := List.mem_filter.1 hi
    have z := g.all i h.1
    exact ⟨z.1, List.mem_filter.2 ⟨z.2, h.2⟩⟩
  · by_cases c : j = k
    · subst c
      have nd := g.fd j hj
      rw [e, List.nodup_cons] at nd
      have ef : ((f j).filter fun o => !decide (o = n)) = r := by
        rw [e, List.filter_cons, if_neg (by simp)]
        exact filt_ne nd.1
      show good xs (aft l (ent xs n)) ((f j).filter fun o => !decide (o = n)) = true
      rw [ef]
      exact go'.2
    · have nf : n ∉ f j := fun h => c ((g.key j hj n h).1.symm.trans nk.1)
      show good xs (aft l (ent xs n)) ((f j).filter fun o => !decide (o = n)) = true
      rw [filt_ne nf, good_map, goodE_on (k := j) (l' := l) (fun x hx => ?_) ?_, ← good_map]
      · exact g.ok j hj
      · rw [aft_mem, if_neg]
        rw [nk.1]
        exact c
      · obtain ⟨i, hi, rfl⟩ := List.mem_map.1 hx
        exact (g.key j hj i hi).1
theorem good_head {t : List Nat} (hm : may xs left n = true) (hf : fits (ent xs n) (decide ((ent xs n).y ∈ l)) = true) (p : t.Perm (left.filter fun o => !decide (o = n))) (h : good xs (aft l (ent xs n)) t = true) : good xs l (n :: t) = true := by
  have e : good xs l (n :: t) = (may xs t n && fits (ent xs n) (decide ((ent xs n).y ∈ l)) && good xs (aft l (ent xs n)) t) := rfl
  have : may xs t n = true := by
    unfold may at hm ⊢
    rw [List.all_eq_true] at hm ⊢
    exact fun o ho => hm o (List.mem_filter.1 (p.mem_iff.1 ho)).1
  rw [e, hf, h, this]
  rfl
theorem Mg.run (be : ∀ i, (ent xs i).b < (ent xs i).e) : ∀ (n : Nat) {l : List Int} {left : List Nat} {f : Int → List Nat}, left.length = n → Mg xs W l left f → ∃ o, o.Perm left ∧ good xs l o = true
  | 0, l, left, f, hn, g => by
    have e := List.length_eq_zero_iff.1 hn
    subst e
    exact ⟨[], .refl _, rfl⟩
  | j + 1, l, left, f, hn, g => by
    obtain ⟨k, hk, n, r, e, hm⟩ := g.head be (fun q => by rw [q] at hn; simp at hn)
    obtain ⟨hf, nl, g2⟩ := g.step hk e
    have l1 := len_filter g.nd nl
    obtain ⟨t, pt, gt⟩ := Mg.run be j (by omega) g2
    exact ⟨n :: t, (pt.cons n).trans (perm_filter g.nd nl), good_head hm hf pt gt⟩
theorem Mg.init (be : ∀ i, (ent xs i).b < (ent xs i).e) (hl : xs.length ≤ 8) (h : ∀ k ∈ wanted xs, orderF xs 9 (nums xs k) ks = some (f k)) : Mg xs (wanted xs) ks (List.range xs.length) f := by
  have so : ∀ k ∈ wanted xs, (f k).Perm (nums xs k) ∧ good xs ks (f k) = true := fun k hk => order_some be nums_nd (by have := nums_len (xs := xs) (k := k); omega) (h k hk)
  refine ⟨List.nodup_range, fun k hk i hi => ?_, fun i hi => ?_, fun k hk => (so k hk).2, fun k hk => (so k hk).1.nodup_iff.2 nums_nd⟩
  · have := nums_lt ((so k hk).1.mem_iff.1 hi)
    exact ⟨this.2, List.mem_range.2 this.1⟩
  · have lt := List.mem_range.1 hi
    have kw : (ent xs i).y ∈ wanted xs := wanted_mem.2 (List.mem_map.2 ⟨ent xs i, by
      unfold ent
      rw [List.getD_eq_getElem?_getD, List.getElem?_eq_getElem lt]
      exact List.getElem_mem lt, rfl⟩)
    exact ⟨kw, (so _ kw).1.mem_iff.2 (List.mem_filter.2 ⟨hi, by simp⟩)⟩
/-- the whole has an order exactly if each key has -/
theorem whole_iff (be : ∀ i, (ent xs i).b < (ent xs i).e) (hl : xs.length ≤ 8) : orderF xs 9 (List.range xs.length) ks = none ↔ dueL ks xs ≠ [] := by
  rw [order_none be List.nodup_range (by rw [List.length_range]; omega), ents_range]
  constructor
  · intro h e
    refine h ?_
    have nb : ∀ k ∈ wanted xs, orderF xs 9 (nums xs k) ks = some ((orderF xs 9 (nums xs k) ks).getD []) := fun k hk => by
      have := List.filter_eq_nil_iff.1 e k hk
      unfold badB at this
      cases c : orderF xs 9 (nums xs k) ks with
      | none => rw [c] at this; exact absurd rfl this
      | some o => rfl
    obtain ⟨o, po, go⟩ := Mg.run be xs.length (by rw [List.length_range]) (Mg.init be hl nb)
    exact ⟨o.map (ent xs), by have := po.map (ent xs); rw [ents_range] at this; exact this, by rw [← good_map]; exact go⟩
  · intro h g
    refine h (List.filter_eq_nil_iff.2 fun k hk hb => ?_)
    exact (bad_iff be hl).1 hb (g.key k)
def hasB (xs : List Ent) : Nat → List Nat → Bool → Bool
  | 0, left, _ => left.isEmpty
  | n + 1, left, t => left.isEmpty || left.any fun i => may xs left i && fits (ent xs i) t && hasB xs n (left.filter fun o => !decide (o = i)) (rowB (ent xs i) t)
theorem any_congr {α : Type} {p q : α → Bool} : ∀ {L : List α}, (∀ a ∈ L, p a = q a) → L.any p = L.any q
  | [], _ => rfl
  | a :: L, h => by
    rw [List.any_cons, List.any_cons, h a (List.mem_cons_self ..), any_congr fun b hb => h b (List.mem_cons_of_mem _ hb)]
theorem some_any {α β : Type} (g : α → Option β) : ∀ L : List α, (L.findSome? g).isSome = L.any fun a => (g a).isSome
  | [] => rfl
  | a :: L => by
    rw [List.findSome?_cons, List.any_cons, ← some_any g L]
    cases g a <;> rfl
theorem hasB_order : ∀ {n : Nat} {left : List Nat} {l : List Int}, (∀ i ∈ left, (ent xs i).y = k) → hasB xs n left (decide (k ∈ l)) = (orderF xs n left l).isSome
  | 0, left, l, _ => by
    unfold hasB orderF
    cases left <;> rfl
  | n + 1, [], l, _ => rfl
  | n + 1, a :: left, l, h => by
    unfold hasB orderF
    rw [if_neg (by simp), some_any]
    show (false || _) = _
    rw [Bool.false_or]
    refine any_congr fun i hi => ?_
    have ek := h i hi
    have e1 : rowB (ent xs i) (decide (k ∈ l)) = decide (k ∈ aft l (ent xs i)) := by
      rw [Bool.eq_iff_iff, decide_eq_true_eq, aft_mem, if_pos ek.symm, ek]
    rw [e1, hasB_order (n := n) (fun j hj => h j (List.mem_filter.1 hj).1), ek]
    cases may xs (a :: left) i && fits (ent xs i) (decide (k ∈ l)) with
    | true => rw [if_pos rfl, Bool.true_and, Option.isSome_map]
    | false => rw [if_neg (by simp), Bool.false_and]; rfl
theorem bad_has (be : ∀ i, (ent xs i).b < (ent xs i).e) (be2 : ∀ i, (ent (ofK k xs) i).b < (ent (ofK k xs) i).e) (hl : xs.length ≤ 8) : hasB (ofK k xs) 9 (List.range (ofK k xs).length) (decide (k ∈ ks)) = !badB ks xs k := by
  have l2 : (ofK k xs).length ≤ 8 := Nat.le_trans (List.length_filter_le _ _) hl
  have e : ∀ i ∈ List.range (ofK k xs).length, (ent (ofK k xs) i).y = k := fun i hi => by
    have lt := List.mem_range.1 hi
    refine ofK_key (L := xs) _ ?_
    unfold ent
    rw [List.getD_eq_getElem?_getD, List.getElem?_eq_getElem lt]
    exact List.getElem_mem lt
  rw [hasB_order e]
  have h1 := alone_iff (ks := ks) be2 l2
  have h2 := bad_iff (ks := ks) (k := k) be hl
  cases c : orderF (ofK k xs) 9 (List.range (ofK k xs).length) ks with
  | none =>
    rw [h2.2 (h1.1 c)]
    rfl
  | some o =>
    cases d : badB ks xs k with
    | true =>
      have := h1.2 (h2.1 d)
      rw [c] at this
      cases this
    | false => rfl
end
end Hs
end Z
namespace Z
open PySem PySem.Spec PyProof.Rows L2 Evl
open Hs
section
variable {M : Mem} {Q : TK} {E : XD} {D : En} {d : Da} {x : Ent} {t : Bool} {xs : List Ent} {ks l zs W : List Int} {left os : List Nat} {i n : Nat} {k : Int} {f : Int → List Nat}
theorem enuD_ents (xs : List Ent) : enuD (xs.map entD) = (List.range xs.length).map fun i : Nat => Da.tup [.int i, entD (ent xs i)] := by
  refine List.ext_getElem? fun i => ?_
  by_cases h : i < xs.length
  · have e : (xs.map entD)[i]? = some (entD (ent xs i)) := by
      rw [List.getElem?_map, List.getElem?_eq_getElem h, ent, List.getD_eq_getElem?_getD, List.getElem?_eq_getElem h]
      rfl
    rw [enuD_at e, List.getElem?_map, List.getElem?_range h]
    rfl
  · rw [List.getElem?_eq_none (by rw [enuD_len, List.length_map]; omega), List.getElem?_eq_none (by rw [List.length_map, List.length_range]; omega)]
theorem numbers_of_ok (hl : xs.length ≤ 100) (q : Q (natsL (nums xs k)) M) : f_numbers_of [.lst (xs.map entD), .int k] M Q E := by
  unfold f_numbers_of m_numbers_of
  walk_at "m0"
  walk_at "m"
  rw [enuD_ents]
  refine ⟨by rw [List.length_map, List.length_range]; omega, ?_⟩
  refine lcL_xs (fun i : Nat => Da.tup [.int i, entD (ent xs i)]) (List.range xs.length) (fun i => decide ((ent xs i).y = k)) (fun i : Nat => .int i) (fun i : Nat => [some (.lst (xs.map entD)), some (.int k), some (.int i), some (entD (ent xs i))]) (fun i hi R r => ?_) (fun i hi R r => ?_) (fun i hi _ R r => ?_) ?_ ?_
  · walk_at "m"
    exact r
  · walk_at "m"
    simp only [ent_look]
    walk_at "m"
    exact r
  · exact r
  · trivial
  exact leave_same q
theorem may_come_c {lf : Da} (h6 : left.length ≤ 1000000) (hl : ∀ o ∈ left, o < xs.length) (hi : i < xs.length) (h5 : look M lf = natsL left) (q : Q (.bl (may xs left i)) M) : f_may_come [.lst (xs.map entD), lf, .int i] M Q E := by
  unfold f_may_come m_may_come
  walk_at "m0"
  walk_at "m"
  rw [h5]
  unfold natsL
  walk_at "m"
  refine ⟨by rw [List.length_map]; exact h6, ?_⟩
  refine lcL_xs (fun o : Nat => Da.int o) left (fun _ => true) (fun o => .bl (decide ((ent xs o).e < (ent xs i).b))) (fun o : Nat => [some (.lst (xs.map entD)), some lf, some (.int i), some (.int o)]) (fun o ho R r => r) (fun o ho R r => r) (fun o ho _ R r => ?_) (by rw [h5] <;> rfl) ?_
  · walk_at "m"
    rw [at_ent (hl o ho), at_ent hi]
    unfold entD
    walk_at "m"
    exact r
  rw [List.filter_eq_self.2 (fun _ _ => rfl)]
  walk_at "m"
  have eb : (left.map fun o => Da.bl (decide ((ent xs o).e < (ent xs i).b))) = (left.map fun o => decide ((ent xs o).e < (ent xs i).b)).map Da.bl := by
    rw [List.map_map]
    rfl
  rw [eb, blsD_map]
  refine leave_same (q_bd q ?_)
  unfold may
  rw [List.all_eq_not_any_not, List.any_map]
  simp [Function.comp_def]
/-- the keys, as the code gathers them -/
theorem keys_walk {g : MG} {te : ME} {vs : List Nat} {ρ : Sl} {still : Mem → Prop} (sl : Ent → Sl) (hs : still M) (hg : ∀ x ∈ xs, ∀ R : Sl → Mem → Prop, R (sl x) M → g (entD x) (wipeD ρ vs) M R) (hf : ∀ x ∈ xs, ∀ R : TK, R (.int x.y) M → te (sl x) M R)
    (q : Q (intsL (xs.map (·.y))) M) : lcL still g mYes te vs ρ (xs.map entD) [] M Q := by
  refine lcL_xs entD xs (fun _ => true) (fun x => .int x.y) sl hg (fun x hx R r => r) (fun x hx _ R r => hf x hx R r) hs ?_
  rw [filt_true]
  have e : (xs.map fun x => Da.int x.y) = (xs.map (·.y)).map Da.int := by rw [List.map_map]; rfl
  rw [e]
  exact q
theorem nums_ok {left : List Nat} (hx : ∀ x ∈ xs, EntOk x) (hl : xs.length ≤ 8) (kl : ks.length ≤ 100) (q : Q (optL (orderF xs 9 (nums xs k) ks)) M) : f_order_from 9 [.lst (xs.map entD), natsL (nums xs k), intsL ks] M Q E := by
  have nl := nums_len (xs := xs) (k := k)
  exact order_from_ok hx (by omega) 9 (by omega) nums_nd (fun o ho => (nums_lt ho).1) (by omega) rfl q
theorem bad_keys_ok {W : XD} (h : HistOk ks xs) (q : Q (intsL (dueL ks xs)) M) : f_bad_keys [histD ks xs] M Q W := by
  have xl := h.l
  have kl := h.kl
  have wl := wanted_len xs
  unfold f_bad_keys m_bad_keys
  walk_at "m1"
  intro cM cD
  walk_at "m"
  refine need_history_ok h ?_
  unfold histD
  walk_at "m"
  refine ⟨by rw [List.length_map]; omega, ?_⟩
  refine keys_walk (fun x => [some (.tup [intsL ks, .lst (xs.map entD)]), some (intsL ks), some (.lst (xs.map entD)), none, some (entD x), none]) trivial (fun x hx R r => r) (fun x hx R r => ?_) ?_
  · walk_at "m"
    simp only [ent_look]
    walk_at "m"
    exact r
  unfold intsL
  walk_at "m"
  refine ⟨_, intsD_map _, by rw [List.length_map]; omega, fun ys a mm => ?_⟩
  have ew : ys = wanted xs := asc_ext a (wanted_asc xs) fun z => by rw [mm, wanted_mem]
  subst ew
  walk_at "m"
  refine ⟨by rw [List.length_map]; omega, ?_⟩
  refine lcL_xs Da.int (wanted xs) (badB ks xs) Da.int (fun z => [some (.tup [intsL ks, .lst (xs.map entD)]), some (intsL ks), some (.lst (xs.map entD)), some (intsL (wanted xs)), none, some (.int z)]) (fun z hz R r => r) (fun z hz R r => ?_) (fun z hz _ R r => r) trivial ?_
  · walk_at "m"
    refine numbers_of_ok (by omega) ?_
    walk_at "m"
    refine nums_ok (left := []) h.e xl kl ?_
    unfold badB at r
    cases e : orderF xs 9 (nums xs z) ks with
    | none =>
      rw [e] at r
      unfold optL
      walk_at "m"
      exact r
    | some o =>
      rw [e] at r
      unfold optL
      walk_at "m"
      exact r
  exact leave_same q
end
end Z
namespace Z
open PySem PySem.Spec PyProof.Rows L2 Evl
open Hs
section
variable {M : Mem} {Q : TK} {E : XD} {D : En} {d : Da} {x : Ent} {t : Bool} {xs : List Ent} {ks l zs W : List Int} {left os : List Nat} {i n : Nat} {k : Int} {f : Int → List Nat}
theorem rm_at : ∀ {left : List Nat}, left.Nodup → n ∈ left → ∃ j, (left.map fun o : Nat => (o : Int))[j]? = some (n : Int) ∧ (∀ m : Nat, m < j → (left.map fun o : Nat => (o : Int))[m]? ≠ some (n : Int)) ∧ (left.map fun o : Nat => (o : Int)).eraseIdx j = (left.filter fun o => !decide (o = n)).map fun o : Nat => (o : Int)
  | [], _, h => by cases h
  | a :: L, nd, h => by
    rw [List.nodup_cons] at nd
    by_cases c : a = n
    · subst c
      refine ⟨0, rfl, fun m hm => absurd hm (Nat.not_lt_zero _), ?_⟩
      rw [List.filter_cons, if_neg (by simp), filt_ne nd.1]
      rfl
    · obtain ⟨j, h1, h2, h3⟩ := rm_at nd.2 ((List.mem_cons.1 h).resolve_left fun e => c e.symm)
      refine ⟨j + 1, h1, fun m hm => ?_, ?_⟩
      · cases m with
        | zero =>
          intro e
          have e : ((a : Nat) : Int) = (n : Int) := Option.some.inj e
          exact c (by omega)
        | succ m => exact h2 m (by omega)
      · rw [List.filter_cons, if_pos (by simp [c]), List.map_cons, List.map_cons, List.eraseIdx_cons_succ, h3]
abbrev mo11 (ks : List Int) (xs : List Ent) (od : Da) (j : Nat) (rows : Da) (s6 s7 s8 s9 s10 : Option Da) : Sl := [some (histD ks xs), some od, some (.lst (xs.map entD)), some (.cell j), some rows, some (.cell (j + 1)), s6, s7, s8, s9, s10]
abbrev rowsD (W : List Int) (f : Int → List Nat) : Da := .lst (W.map fun k => natsL (f k))
abbrev hdD (f : Int → List Nat) (k : Int) : Da := .int ((f k).headD 0 : Nat)
theorem mg_turn {S : En} {od : Da} {found : List Nat} {s6 s7 s8 s9 s10 : Option Da} (hx : ∀ x ∈ xs, EntOk x) (hl : xs.length ≤ 8) (wl : W.length ≤ 100) (g : Mg xs W l left f) (fl : ∀ k ∈ W, (f k).length ≤ 100) (ll : left.length ≤ 8) (fd : found.length ≤ 8) (lt : ∀ o ∈ left, o < xs.length) (ne : left ≠ [])
    (k : ∀ n k0 r s6 s7 s8 s9 s10, k0 ∈ W → f k0 = n :: r → may xs left n = true → S.nx (mo11 ks xs od M.length (rowsD W fun j => (f j).filter fun o => !decide (o = n)) s6 s7 s8 s9 s10) (M ++ [natsL (left.filter fun o => !decide (o = n)), natsL (found ++ [n])])) :
    (mSeq (mAsg (mLc (mAny (mVar 4)) (hName 8) (mB (mOp nGt (mCB nLen (mCons (mVar 8) mNil)) (mC (.int 0)))) (mOp nIx (mVar 8) (mC (.int 0))) [8]) (hName 6))
    (mSeq (mAsg (mOp nIx (mLc (mAny (mVar 6)) (hName 9) (mB (mCall f_may_come (mCons (mVar 2) (mCons (mVar 3) (mCons (mVar 9) mNil))))) (mVar 9) [9]) (mC (.int 0))) (hName 7))
    (mSeq (mDrop (mBM "list" nAppend (mVar 5) (mCons (mVar 7) mNil)))
    (mSeq (mDrop (mBM "list" nRemove (mVar 3) (mCons (mVar 7) mNil)))
    (mAsg (mLc (mAny (mVar 4)) (hName 8) mYes (mLc (mAny (mVar 8)) (hName 10) (mB (mOp nNe (mVar 10) (mVar 7))) (mVar 10) [10]) [8]) (hName 4)))))) S (mo11 ks xs od M.length (rowsD W f) s6 s7 s8 s9 s10) (M ++ [natsL left, natsL found]) := by
  refine seq_hide fun N hN => ?_
  walk_at "m"
  refine ⟨by rw [List.length_map]; omega, ?_⟩
  refine lcL_xs (fun k => natsL (f k)) W (fun k => decide (0 < (f k).length)) (hdD f) (fun k => mo11 ks xs od M.length (rowsD W f) s6 s7 (some (natsL (f k))) s9 s10) (fun k hk R r => r) (fun k hk R r => ?_) (fun k hk hp R r => ?_) trivial ?_
  · walk_at "m"
    rw [List.length_map]
    have e : decide ((0 : Int) < ((f k).length : Nat)) = decide (0 < (f k).length) := decide_eq_decide.2 (by omega)
    rw [e]
    exact r
  · walk_at "m"
    cases e : f k with
    | nil => rw [e] at hp; cases hp
    | cons n r2 =>
      unfold hdD at r
      rw [e] at r
      exact r
  walk_at "m"
  refine hN _ _ ?_
  refine seq_hide fun N2 hN2 => ?_
  walk_at "m"
  have wl2 : (W.filter fun k => decide (0 < (f k).length)).length ≤ 100 := Nat.le_trans (List.length_filter_le _ _) wl
  refine ⟨by rw [List.length_map]; omega, ?_⟩
  have inl : ∀ k ∈ W.filter fun k => decide (0 < (f k).length), (f k).headD 0 ∈ left := fun k hk => by
    have h := List.mem_filter.1 hk
    cases e : f k with
    | nil => rw [e] at h; simp at h
    | cons n r2 => exact (g.key k h.1 n (by rw [e]; exact List.mem_cons_self ..)).2
  refine lcL_xs (hdD f) (W.filter fun k => decide (0 < (f k).length)) (fun k => may xs left ((f k).headD 0)) (hdD f) (fun k => mo11 ks xs od M.length (rowsD W f) (some (.lst ((W.filter fun k => decide (0 < (f k).length)).map (hdD f)))) s7 s8 (some (hdD f k)) s10) (fun k hk R r => r) (fun k hk R r => ?_) (fun k hk hp R r => r) trivial ?_
  · walk_at "m"
    exact may_come_c (E := XD0) (by omega) lt (lt _ (inl k hk)) (by walk_at "m") r
  obtain ⟨k1, hk1, n1, r1, e1, m1⟩ := g.head (be_of hx) ne
  have hin : k1 ∈ (W.filter fun k => decide (0 < (f k).length)).filter fun k => may xs left ((f k).headD 0) :=
    List.mem_filter.2 ⟨List.mem_filter.2 ⟨hk1, by rw [e1]; simp⟩, by rw [e1]; exact m1⟩
  cases ec : (W.filter fun k => decide (0 < (f k).length)).filter fun k => may xs left ((f k).headD 0) with
  | nil => rw [ec] at hin; cases hin
  | cons k0 rest =>
    have h0 : k0 ∈ (W.filter fun k => decide (0 < (f k).length)).filter fun k => may xs left ((f k).headD 0) := by rw [ec]; exact List.mem_cons_self ..
    have h1 := List.mem_filter.1 h0
    have h2 := List.mem_filter.1 h1.1
    obtain ⟨n, r, en⟩ : ∃ n r, f k0 = n :: r := by
      cases e : f k0 with
      | nil => rw [e] at h2; simp at h2
      | cons n r => exact ⟨n, r, rfl⟩
    have eh : hdD f k0 = .int (n : Nat) := by unfold hdD; rw [en]; rfl
    have mm : may xs left n = true := by
      have := h1.2
      rw [en] at this
      exact this
    rw [List.map_cons, eh]
    walk_at "m"
    refine hN2 _ _ ?_
    refine seq_hide fun N3 hN3 => ?_
    walk_at "m"
    refine ⟨⟨_, rfl⟩, by rw [List.length_map, sizeLine_eq]; omega, hN3 _ _ ?_⟩
    refine seq_hide fun N4 hN4 => ?_
    walk_at "m"
    obtain ⟨hf, nl, g2⟩ := g.step h2.1 en
    obtain ⟨j, p1, p2, p3⟩ := rm_at g.nd nl
    unfold nRemove
    walk_at "m"
    refine ⟨⟨_, rfl⟩, _, j, by rw [← nats_ints, intsD_map], p1, p2, hN4 _ _ ?_⟩
    rw [p3, nats_ints]
    walk_at "m"
    refine ⟨by rw [List.length_map]; omega, ?_⟩
    refine lcL_xs (fun k => natsL (f k)) W (fun _ => true) (fun k => natsL ((f k).filter fun o => !decide (o = n))) (fun k => mo11 ks xs od M.length (rowsD W f) (some (.lst ((W.filter fun k => decide (0 < (f k).length)).map (hdD f)))) (some (.int n)) (some (natsL (f k))) s9 s10) (fun k hk R r => r) (fun k hk R r => r) (fun k hk hp R r => ?_) trivial ?_
    · walk_at "m"
      have := fl k hk
      refine ⟨by rw [List.length_map]; omega, ?_⟩
      refine lcL_xs (fun z : Nat => Da.int z) (f k) (fun z => !decide (z = n)) (fun z : Nat => Da.int z) (fun z : Nat => mo11 ks xs od M.length (rowsD W f) (some (.lst ((W.filter fun k => decide (0 < (f k).length)).map (hdD f)))) (some (.int n)) (some (natsL (f k))) s9 (some (.int z))) (fun z hz R r => r) (fun z hz R r => ?_) (fun z hz _ R r => r) trivial r
      walk_at "m"
      have ed : decide ((z : Int) = (n : Int)) = decide (z = n) := decide_eq_decide.2 (by omega)
      rw [ed]
      exact r
    rw [filt_true]
    walk_at "m"
    have z := k n k0 r (some (.lst ((W.filter fun k => decide (0 < (f k).length)).map (hdD f)))) (some (.int n)) s8 s9 s10 h2.1 en mm
    unfold natsL at z
    rw [List.map_append] at z
    exact z
end
end Z
namespace Z
open PySem PySem.Spec PyProof.Rows L2 Evl
open Hs
section
variable {M : Mem} {Q : TK} {E : XD} {D : En} {d : Da} {x : Ent} {t : Bool} {xs : List Ent} {ks ks0 l zs W : List Int} {left os : List Nat} {i n : Nat} {k : Int} {f : Int → List Nat}
theorem cond_hide {c : MT} {ρ : Sl} {M : Mem} {t u : Mem → Prop} (h : ∀ T U : Mem → Prop, (∀ M', t M' → T M') → (∀ M', u M' → U M') → c ρ M fun k M1 => if k = true then T M1 else U M1) : c ρ M fun b M1 => if b = true then t M1 else u M1 := h t u (fun _ h => h) fun _ h => h
theorem merged_ok (hx : ∀ x ∈ xs, EntOk x) (hl : xs.length ≤ 8) (wl : W.length ≤ 100) (g : Mg xs W ks (List.range xs.length) f) (fl : ∀ k ∈ W, (f k).length ≤ 100) (q : ∀ o : List Nat, o.Perm (List.range xs.length) → good xs ks o = true → Q (natsL o) M) :
    f_merged_order [histD ks0 xs, rowsD W f] M Q E := by
  unfold f_merged_order m_merged_order
  walk_at "m1"
  intro cM cD
  refine seq_hide fun N hN => ?_
  unfold histD
  walk_at "m"
  refine hN _ _ ?_
  unfold b_merged_order_1
  refine seq_hide fun N1 hN1 => ?_
  walk_at "m"
  refine ⟨_, rfl, RgOk.of_le (by omega) (by rw [List.length_map]; omega) (by omega) (by omega), ?_⟩
  have er : rngD 0 (((xs.map entD).length : Nat) : Int).toNat = (List.range xs.length).map fun o : Nat => Da.int o := by
    rw [List.length_map, Int.toNat_natCast]
    exact rngD_nats _
  rw [er]
  refine hN1 _ _ ?_
  unfold b_merged_order_2
  refine seq_hide fun N2 hN2 => ?_
  walk_at "m"
  refine ⟨by rw [List.length_map]; omega, ?_⟩
  refine lcL_xs (fun k => natsL (f k)) W (fun _ => true) (fun k => natsL (f k)) (fun k => [some (histD ks0 xs), some (rowsD W f), some (.lst (xs.map entD)), some (.cell M.length), none, none, none, none, some (natsL (f k)), none, none]) (fun k hk R r => r) (fun k hk R r => r) (fun k hk _ R r => ?_) trivial ?_
  · walk_at "m"
    exact r
  rw [filt_true]
  refine hN2 _ _ ?_
  unfold b_merged_order_3
  refine seq_hide fun N3 hN3 => ?_
  walk_at "m"
  refine hN3 _ _ ?_
  unfold b_merged_order_4
  refine seq_hide fun N4 hN4 => ?_
  refine ⟨xs.length + 1, ?_⟩
  refine whl_ind (fun k ρ M' => ∃ (l : List Int) (left : List Nat) (f2 : Int → List Nat) (found : List Nat) (s6 s7 s8 s9 s10 : Option Da), left.length = k ∧ Mg xs W l left f2 ∧ (∀ k ∈ W, (f2 k).length ≤ 100) ∧ (found ++ left).Perm (List.range xs.length) ∧ (∀ t : List Nat, t.Perm left → good xs l t = true → good xs ks (found ++ t) = true) ∧
    ρ = mo11 ks0 xs (rowsD W f) M.length (rowsD W f2) s6 s7 s8 s9 s10 ∧ M' = M ++ [natsL left, natsL found]) ?_ ?_ _ _ _ ⟨ks, List.range xs.length, f, [], none, none, none, none, none, ?_⟩
  · rintro ρ M' N5 ⟨l, left, f2, found, s6, s7, s8, s9, s10, e, g2, fl2, pm, gd, rfl, rfl⟩
    have e : left = [] := List.length_eq_zero_iff.1 e
    subst e
    refine cond_hide fun T U hT hU => ?_
    walk_at "m"
    refine hU _ (hN4 _ _ ?_)
    unfold b_merged_order_5
    walk_at "m"
    rw [List.append_nil] at pm
    have gg := gd [] (.refl _) rfl
    rw [List.append_nil] at gg
    exact ⟨natsL found, M, .inr ⟨by simp, by simp, cM, frz_cell (by simp) (by omega) (plL_clo _ (nats_pl found).1)⟩, q found pm gg⟩
  · rintro j ρ M' N5 ⟨l, left, f2, found, s6, s7, s8, s9, s10, e, g2, fl2, pm, gd, rfl, rfl⟩ hN5
    have pl := pm.length_eq
    rw [List.length_append, List.length_range] at pl
    have ne : left ≠ [] := fun z => by rw [z] at e; simp at e
    refine cond_hide fun T U hT hU => ?_
    walk_at "m"
    refine ite2 (fun _ => hT _ ?_) (fun c => ?_)
    · refine mg_turn hx hl wl g2 fl2 (by omega) (by omega) (fun o ho => List.mem_range.1 (pm.mem_iff.1 (List.mem_append_right _ ho))) ne fun n k0 r s6 s7 s8 s9 s10 hk en hm => ?_
      obtain ⟨hf, nl, g3⟩ := g2.step hk en
      have l1 := len_filter g2.nd nl
      refine ⟨_, _, .same, hN5 _ _ ⟨aft l (ent xs n), left.filter fun o => !decide (o = n), fun j => (f2 j).filter fun o => !decide (o = n), found ++ [n], s6, s7, s8, s9, s10, by omega, g3, fun k hk => Nat.le_trans (List.length_filter_le _ _) (fl2 k hk), ?_, fun t pt gt => ?_, rfl, rfl⟩⟩
      · rw [List.append_assoc]
        exact ((List.perm_append_left_iff found).2 (perm_filter g2.nd nl)).trans pm
      · rw [List.append_assoc]
        exact gd _ ((pt.cons n).trans (perm_filter g2.nd nl)) (good_head hm hf pt gt)
    · rw [List.length_map] at c
      omega
  · refine ⟨List.length_range, g, fl, .refl _, (fun t _ h => h), ?_, ?_⟩
    · rw [List.length_append]
      rfl
    · simp
theorem anyOpt {α : Type} (L : List α) (g : α → Option (List Nat)) : anyEq .non (L.map fun z => optL (g z)) = L.any fun z => (g z).isNone := by
  unfold anyEq
  rw [List.any_map]
  refine any_congr fun z _ => ?_
  show eqD (optL (g z)) .non = _
  cases g z <;> rfl
theorem opts_pl {α : Type} (L : List α) (g : α → Option (List Nat)) : plL (L.map fun z => optL (g z)) = true ∧ dpL (L.map fun z => optL (g z)) ≤ 1 := by
  have h : ∀ z, plD (optL (g z)) = true ∧ dpD (optL (g z)) ≤ 1 := fun z => by
    cases g z with
    | none => exact ⟨rfl, Nat.zero_le _⟩
    | some o => exact ⟨(nats_pl o).1, by show dpL _ + 1 ≤ 1; rw [(nats_pl o).2]; omega⟩
  exact ⟨plL_map (fun z => (h z).1) L, dpL_le.2 fun d hd => by obtain ⟨z, _, rfl⟩ := List.mem_map.1 hd; exact (h z).2⟩
theorem order_by_ok {V : XD} (h : HistOk ks xs) (q0 : dueL ks xs ≠ [] → Q .non M) (q1 : dueL ks xs = [] → ∀ o : List Nat, o.Perm (List.range xs.length) → good xs ks o = true → Q (natsL o) M) : f_order_by_keys [histD ks xs] M Q V := by
  have xl := h.l
  have kl := h.kl
  have wl := wanted_len xs
  unfold f_order_by_keys m_order_by_keys
  walk_at "m1"
  intro cM cD
  walk_at "m"
  refine need_history_ok h ?_
  unfold histD
  walk_at "m"
  refine ⟨by rw [List.length_map]; omega, ?_⟩
  refine keys_walk (fun x => [some (.tup [intsL ks, .lst (xs.map entD)]), some (intsL ks), some (.lst (xs.map entD)), none, none, some (entD x), none]) trivial (fun x hx R r => r) (fun x hx R r => ?_) ?_
  · walk_at "m"
    simp only [ent_look]
    walk_at "m"
    exact r
  unfold intsL
  walk_at "m"
  refine ⟨_, intsD_map _, by rw [List.length_map]; omega, fun ys a mm => ?_⟩
  have ew : ys = wanted xs := asc_ext a (wanted_asc xs) fun z => by rw [mm, wanted_mem]
  subst ew
  walk_at "m"
  refine ⟨by rw [List.length_map]; omega, ?_⟩
  refine lcL_xs Da.int (wanted xs) (fun _ => true) (fun z => optL (orderF xs 9 (nums xs z) ks)) (fun z => [some (.tup [intsL ks, .lst (xs.map entD)]), some (intsL ks), some (.lst (xs.map entD)), some (intsL (wanted xs)), none, none, some (.int z)]) (fun z hz R r => r) (fun z hz R r => r) (fun z hz _ R r => ?_) trivial ?_
  · walk_at "m"
    refine numbers_of_ok (by omega) ?_
    walk_at "m"
    exact nums_ok (left := []) h.e xl kl r
  rw [filt_true]
  walk_at "m"
  refine ⟨⟨(opts_pl _ _).1, Nat.le_trans (opts_pl _ _).2 (by omega)⟩, ?_⟩
  refine ite2 (fun c => ?_) (fun c => ?_)
  · have c : anyEq .non ((wanted xs).map fun z => optL (orderF xs 9 (nums xs z) ks)) = true := c
    rw [anyOpt, List.any_eq_true] at c
    obtain ⟨z, hz, hb⟩ := c
    refine leave_same (q0 fun e => ?_)
    exact List.filter_eq_nil_iff.1 e z hz hb
  · have c : ¬ anyEq .non ((wanted xs).map fun z => optL (orderF xs 9 (nums xs z) ks)) = true := c
    rw [anyOpt, Bool.not_eq_true, List.any_eq_false] at c
    have e : dueL ks xs = [] := List.filter_eq_nil_iff.2 fun z hz => c z hz
    have all : ∀ k ∈ wanted xs, orderF xs 9 (nums xs k) ks = some ((orderF xs 9 (nums xs k) ks).getD []) := fun k hk => by
      have := c k hk
      cases c : orderF xs 9 (nums xs k) ks with
      | none => rw [c] at this; exact absurd rfl this
      | some o => rfl
    have em : ((wanted xs).map fun z => optL (orderF xs 9 (nums xs z) ks)) = (wanted xs).map fun z => natsL ((orderF xs 9 (nums xs z) ks).getD []) := List.map_congr_left fun z hz => by
      rw [all z hz]
      rfl
    rw [em]
    refine merged_ok (ks0 := ks) (ks := ks) h.e xl (by omega) (Mg.init (be_of h.e) xl all) (fun k hk => ?_) fun o po go => leave_same (q1 e o po go)
    have so := order_some (be_of h.e) nums_nd (by have := nums_len (xs := xs) (k := k); omega) (all k hk)
    rw [so.1.length_eq]
    have := nums_len (xs := xs) (k := k)
    omega
end
end Z
namespace Z
open PySem PySem.Spec PyProof.Rows L2 Evl
open Hs
section
variable {M : Mem} {Q : TK} {E : XD} {D : En} {d kd : Da} {x : Ent} {t : Bool} {xs : List Ent} {ks ks0 l zs W : List Int} {left os : List Nat} {i n : Nat} {k : Int} {f : Int → List Nat}
abbrev hs12 (kd : Da) (xs : List Ent) (left : List Nat) (t : Bool) (s4 s5 s6 s7 s8 s9 s10 s11 : Option Da) : Sl := [some kd, some (.lst (xs.map entD)), some (natsL left), some (.bl t), s4, s5, s6, s7, s8, s9, s10, s11]
theorem fits_step {r : MP} {s4 s5 s6 s9 s10 s11 : Option Da} (ox : EntOk x) (k : b_law_has_order_L1_4 r D (hs12 kd xs left t s4 s5 s6 (some (.tup [.str x.k, .int x.y])) (some (toD x.t)) (some (.bl (fits x t))) (some (.bl (rowB x t))) s11) M) :
    b_law_has_order_L1_2 r D (hs12 kd xs left t s4 s5 s6 (some (.tup [.str x.k, .int x.y])) (some (toD x.t)) s9 s10 s11) M := by
  unfold b_law_has_order_L1_2
  refine seq_hide fun N hN => ?_
  have three : N (hs12 kd xs left t s4 s5 s6 (some (.tup [.str x.k, .int x.y])) (some (toD x.t)) (some (.bl (fits x t))) s10 s11) M := hN _ _ (by
    unfold b_law_has_order_L1_3
    refine seq_hide fun N2 hN2 => ?_
    have fin := hN2 _ _ k
    walk_at "m"
    unfold rowB at fin
    refine ite2 (fun c => ?_) (fun c => ?_)
    · rw [decide_eq_false c] at fin
      cases t with
      | true => exact ite2 (fun _ => fin) (fun h => absurd rfl h)
      | false => exact ite2 (fun h => by cases h) (fun _ => fin)
    · rw [decide_eq_true (Classical.not_not.1 c)] at fin
      exact fin)
  have pt := toD_pl x.t
  walk_at "m"
  rw [lookE_pl pt.1]
  refine ite2 (fun c => ?_) (fun c => ?_)
  · have ht : x.t = .d ∨ x.t = .r := by
      rcases ox.2 with ⟨_, h⟩ | ⟨h, _⟩
      · exact h
      · exfalso
        rw [c] at h
        revert h
        decide
    rcases ht with h | h
    · have e1 : fits x true = false := by unfold fits; rw [if_pos c, h]; rfl
      have e2 : fits x false = true := by unfold fits; rw [if_pos c, h]; rfl
      rw [h] at three ⊢
      cases t with
      | true =>
        rw [e1] at three
        walk_at "m"
        have ee : eqD (toD .d) (.str "refused") = false := by decide
        rw [ee]
        exact ⟨⟨(toD_pl _).1, by rw [(toD_pl _).2]; omega⟩, three⟩
      | false =>
        rw [e2] at three
        walk_at "m"
        have ee : eqD (toD .d) (.str "done") = true := by decide
        rw [ee]
        exact ⟨⟨(toD_pl _).1, by rw [(toD_pl _).2]; omega⟩, three⟩
    · have e1 : fits x true = true := by unfold fits; rw [if_pos c, h]; rfl
      have e2 : fits x false = false := by unfold fits; rw [if_pos c, h]; rfl
      rw [h] at three ⊢
      cases t with
      | true =>
        rw [e1] at three
        walk_at "m"
        have ee : eqD (toD .r) (.str "refused") = true := by decide
        rw [ee]
        exact ⟨⟨(toD_pl _).1, by rw [(toD_pl _).2]; omega⟩, three⟩
      | false =>
        rw [e2] at three
        walk_at "m"
        have ee : eqD (toD .r) (.str "done") = false := by decide
        rw [ee]
        exact ⟨⟨(toD_pl _).1, by rw [(toD_pl _).2]; omega⟩, three⟩
  · have ht : ∃ i, x.t = .n i := by
      rcases ox.2 with ⟨h, _⟩ | ⟨_, h⟩
      · exact absurd h c
      · exact h
    obtain ⟨i, h⟩ := ht
    have ef : fits x t = decide (i = if t then 1 else 0) := by
      unfold fits
      rw [if_neg c, h]
      simp only [To.n.injEq]
    rw [ef] at three
    rw [h] at three ⊢
    cases t with
    | true =>
      walk_at "m"
      exact ⟨⟨(toD_pl _).1, by rw [(toD_pl _).2]; omega⟩, three⟩
    | false =>
      walk_at "m"
      exact ⟨⟨(toD_pl _).1, by rw [(toD_pl _).2]; omega⟩, three⟩
theorem has_order_ok (hx : ∀ x ∈ xs, EntOk x) (hl : xs.length ≤ 100) : ∀ (n : Nat) {left : List Nat} {t : Bool} {M : Mem} {Q : TK} {E : XD}, left.length < n → left.Nodup → (∀ o ∈ left, o < xs.length) → Q (.bl (hasB xs n left t)) M →
    f_law_has_order n [intsL ks, .lst (xs.map entD), natsL left, .bl t] M Q E
  | 0, _, _, _, _, _, h, _, _, _ => absurd h (Nat.not_lt_zero _)
  | n + 1, left, t, M, Q, E, h1, h2, h3, q => by
    have ll : left.length ≤ 1000 := by
      have := (List.Nodup.length_le_of_subset (l₂ := List.range xs.length) h2 fun o ho => List.mem_range.2 (h3 o ho))
      rw [List.length_range] at this
      omega
    unfold f_law_has_order m_law_has_order
    walk_at "m1"
    intro cM cD
    refine seq_hide fun N hN => ?_
    walk_at "m"
    refine ⟨⟨(nats_pl left).1, by rw [(nats_pl left).2]; omega⟩, ite2 (fun c => ?_) (fun c => hN _ _ ?_)⟩
    · have c : eqL (left.map fun o : Nat => Da.int o) [] = true := c
      rw [eqL_nil, List.isEmpty_map] at c
      have e : hasB xs (n + 1) left t = true := by
        unfold hasB
        rw [c]
        rfl
      rw [e] at q
      exact leave_same q
    have c : ¬ eqL (left.map fun o : Nat => Da.int o) [] = true := c
    rw [eqL_nil, List.isEmpty_map, Bool.not_eq_true] at c
    have eh : hasB xs (n + 1) left t = left.any fun i => may xs left i && fits (ent xs i) t && hasB xs n (left.filter fun o => !decide (o = i)) (rowB (ent xs i) t) := by
      show (left.isEmpty || _) = _
      rw [c, Bool.false_or]
    rw [eh] at q
    unfold b_law_has_order_1
    refine seq_hide fun N1 hN1 => ?_
    walk_at "m"
    refine forL_xs (fun o : Nat => Da.int o) left (fun p r ρ M' => M = M' ∧ (∀ o ∈ p, (may xs left o && fits (ent xs o) t && hasB xs n (left.filter fun z => !decide (z = o)) (rowB (ent xs o) t)) = false) ∧
      ∃ s4 s5 s6 s7 s8 s9 s10 s11, ρ = hs12 (intsL ks) xs left t s4 s5 s6 s7 s8 s9 s10 s11) ⟨rfl, (fun o ho => by cases ho), none, none, none, none, none, none, none, none, rfl⟩ ?_ ?_
    · rintro p o r _ _ e ⟨rfl, I, s4, s5, s6, s7, s8, s9, s10, s11, rfl⟩ C hC
      have ho : o ∈ left := by rw [e]; simp
      have lo := h3 o ho
      have ox : EntOk (ent xs o) := by
        refine hx _ ?_
        unfold ent
        rw [List.getD_eq_getElem?_getD, List.getElem?_eq_getElem lo]
        exact List.getElem_mem lo
      have skip : ∀ s5 s6 s7 s8 s9 s10 s11, (may xs left o && fits (ent xs o) t && hasB xs n (left.filter fun z => !decide (z = o)) (rowB (ent xs o) t)) = false → C (hs12 (intsL ks) xs left t (some (.int o)) s5 s6 s7 s8 s9 s10 s11) M := fun s5 s6 s7 s8 s9 s10 s11 z => hC _ _ _ _ .same (by trivial) ⟨rfl, (fun o' ho' => by
        rcases List.mem_append.1 ho' with h | h
        · exact I o' h
        · rw [List.mem_singleton.1 h, z]), _, s5, s6, s7, s8, s9, s10, s11, rfl⟩
      walk_at "m"
      unfold l_law_has_order_1
      refine seq_hide fun N2 hN2 => ?_
      walk_at "m"
      rw [at_ent lo]
      walk_at "m"
      simp only [ent_look]
      walk_at "m"
      refine hN2 _ _ ?_
      unfold b_law_has_order_L1_1
      refine seq_hide fun N3 hN3 => ?_
      walk_at "m"
      refine ⟨by rw [List.length_map]; omega, ?_⟩
      refine lcL_xs (fun z : Nat => Da.int z) left (fun z => decide ((ent xs z).e < (ent xs o).b)) (fun z : Nat => Da.int z) (fun z : Nat => hs12 (intsL ks) xs left t (some (.int o)) (some (.int (ent xs o).b)) (some (.int (ent xs o).e)) (some (.tup [.str (ent xs o).k, .int (ent xs o).y])) (some (toD (ent xs o).t)) s9 s10 (some (.int z))) (fun z hz R r => r) (fun z hz R r => ?_) (fun z hz _ R r => r) trivial ?_
      · walk_at "m"
        rw [at_ent (h3 z hz)]
        walk_at "m"
        simp only [ent_look]
        walk_at "m"
        exact r
      walk_at "m"
      have em : (left.filter fun z => decide ((ent xs z).e < (ent xs o).b)).isEmpty = may xs left o := by
        unfold may
        rw [Bool.eq_iff_iff, List.isEmpty_iff, List.filter_eq_nil_iff, List.all_eq_true]
        exact ⟨fun h z hz => by have := h z hz; simpa using this, fun h z hz => by have := h z hz; simpa using this⟩
      refine ⟨⟨(nats_pl _).1, by rw [(nats_pl _).2]; omega⟩, ite2 (fun c2 => ?_) (fun c2 => hN3 _ _ ?_)⟩
      · have c2 : eqL ((left.filter fun z => decide ((ent xs z).e < (ent xs o).b)).map fun z : Nat => Da.int z) [] = false := c2
        rw [eqL_nil, List.isEmpty_map, em] at c2
        refine skip _ _ _ _ _ _ _ ?_
        rw [c2]
        rfl
      have c2 : ¬ eqL ((left.filter fun z => decide ((ent xs z).e < (ent xs o).b)).map fun z : Nat => Da.int z) [] = false := c2
      rw [eqL_nil, List.isEmpty_map, em, Bool.not_eq_false] at c2
      refine fits_step ox ?_
      unfold b_law_has_order_L1_4
      refine if_hide fun T U hT hU => ?_
      walk_at "m"
      refine ite2 (fun cf => ?_) (fun cf => hU _ (next_run (skip _ _ _ _ _ _ _ (by rw [Bool.not_eq_true] at cf; rw [cf, Bool.and_false, Bool.false_and]))))
      refine ⟨by rw [List.length_map]; omega, ?_⟩
      refine lcL_xs (fun z : Nat => Da.int z) left (fun z => !decide (z = o)) (fun z : Nat => Da.int z) (fun z : Nat => hs12 (intsL ks) xs left t (some (.int o)) (some (.int (ent xs o).b)) (some (.int (ent xs o).e)) (some (.tup [.str (ent xs o).k, .int (ent xs o).y])) (some (toD (ent xs o).t)) (some (.bl (fits (ent xs o) t))) (some (.bl (rowB (ent xs o) t))) (some (.int z))) (fun z hz R r => r) (fun z hz R r => ?_) (fun z hz _ R r => r) trivial ?_
      · walk_at "m"
        have ed : decide ((z : Int) = (o : Int)) = decide (z = o) := decide_eq_decide.2 (by omega)
        rw [ed]
        exact r
      walk_at "m"
      have l1 := len_filter h2 ho
      refine has_order_ok hx hl n (by omega) (h2.filter _) (fun z hz => h3 z (List.mem_filter.1 hz).1) ?_
      walk_at "m"
      refine ite2 (fun cr => hT _ ?_) (fun cr => hU _ (next_run (skip _ _ _ _ _ _ _ (by rw [Bool.not_eq_true] at cr; rw [cr, Bool.and_false]))))
      walk_at "m"
      have ea : (left.any fun i => may xs left i && fits (ent xs i) t && hasB xs n (left.filter fun o => !decide (o = i)) (rowB (ent xs i) t)) = true := List.any_eq_true.2 ⟨o, ho, by rw [c2, cf, cr]; rfl⟩
      rw [ea] at q
      exact leave_same q
    · rintro _ _ ⟨rfl, I, s4, s5, s6, s7, s8, s9, s10, s11, rfl⟩
      refine hN1 _ _ ?_
      unfold b_law_has_order_2
      walk_at "m"
      have ea : (left.any fun i => may xs left i && fits (ent xs i) t && hasB xs n (left.filter fun o => !decide (o = i)) (rowB (ent xs i) t)) = false := List.any_eq_false.2 fun o ho => by rw [I o ho]; simp
      rw [ea] at q
      exact leave_same q
end
end Z
namespace Z
open PySem PySem.Spec PyProof.Rows L2 Evl
open Hs
section
variable {M R S : Mem} {Q : TK} {E : XD} {D : En} {d b : Da} {n m : Nat} {x : Ent} {t : Bool} {xs : List Ent} {ks l zs tm : List Int} {ds : List Da}
theorem putD_le (kds : List (Key × Da)) (k : Key) (d : Da) : (putD kds k d).length ≤ kds.length + 1 ∧ (k ∈ kds.map (·.1) → (putD kds k d).length = kds.length) ∧ ∀ j, j ∈ (putD kds k d).map (·.1) ↔ j ∈ kds.map (·.1) ∨ j = k := by
  unfold putD
  split
  · rename_i c
    obtain ⟨p, hp, e⟩ := List.any_eq_true.1 c
    have e : p.1 = k := of_decide_eq_true e
    have em : (kds.map fun kv => if kv.1 = k then (kv.1, d) else kv).map (·.1) = kds.map (·.1) := by
      rw [List.map_map]
      refine List.map_congr_left fun q _ => ?_
      show (if q.1 = k then (q.1, d) else q).1 = q.1
      split <;> rfl
    refine ⟨by rw [List.length_map]; omega, fun _ => by rw [List.length_map], fun j => ?_⟩
    rw [em]
    exact ⟨.inl, fun h => h.elim id fun h => h ▸ e ▸ List.mem_map.2 ⟨p, hp, rfl⟩⟩
  · rename_i c
    refine ⟨by rw [List.length_append]; simp, fun h => ?_, fun j => ?_⟩
    · obtain ⟨p, hp, e⟩ := List.mem_map.1 h
      exact absurd (List.any_eq_true.2 ⟨p, hp, decide_eq_true e⟩) c
    · rw [List.map_append, List.mem_append]
      simp
theorem merge_nodup : ∀ (l : List Int) (acc : List (Key × Da)), acc.length + l.length ≤ (mergeD acc (l.map fun z => ((Sum.inl z : Key), Da.int 1))).length → l.Nodup ∧ ∀ z ∈ l, (Sum.inl z : Key) ∉ acc.map (·.1)
  | [], acc, _ => ⟨.nil, fun z hz => by cases hz⟩
  | z :: l, acc, h => by
    rw [List.map_cons, mergeD_cons] at h
    obtain ⟨p1, p2, p3⟩ := putD_le acc (Sum.inl z) (.int 1)
    have le := mergeD_len (l.map fun z => ((Sum.inl z : Key), Da.int 1)) (putD acc (Sum.inl z) (.int 1))
    rw [List.length_map] at le
    rw [List.length_cons] at h
    have nm : (Sum.inl z : Key) ∉ acc.map (·.1) := fun c => by
      have := p2 c
      omega
    obtain ⟨h1, h2⟩ := merge_nodup l (putD acc (Sum.inl z) (.int 1)) (by omega)
    refine ⟨List.nodup_cons.2 ⟨fun c => h2 z c ((p3 _).2 (.inr rfl)), h1⟩, fun w hw => ?_⟩
    rcases List.mem_cons.1 hw with e | hw
    · rw [e]
      exact nm
    · exact fun c => h2 w hw ((p3 _).2 (.inl c))
theorem pairsD_ints (M : Mem) (l : List Int) : pairsD M ((l.map fun z => Da.tup [.int z, .int 1])) = some (l.map fun z => ((Sum.inl z : Key), Da.int 1)) := by
  induction l with
  | nil => rfl
  | cons a l ih =>
    rw [List.map_cons, List.map_cons]
    unfold pairsD
    simp only [look_tup, ih, keyD]
theorem times_perm (xs : List Ent) : (xs.map (·.b) ++ xs.map (·.e)).Perm (timesL xs) := by
  unfold timesL
  induction xs with
  | nil => exact List.Perm.refl _
  | cons x xs ih =>
    rw [List.map_cons, List.map_cons, List.flatMap_cons]
    show (x.b :: (xs.map (·.b) ++ x.e :: xs.map (·.e))).Perm (x.b :: x.e :: xs.flatMap fun x => [x.b, x.e])
    exact ((List.perm_middle).trans (ih.cons _)).cons _
theorem unlike_ok (xl : xs.length ≤ 100) (q : ∀ c : Bool, (c = true → (timesL xs).Nodup) → Q (.bl c) M) : f_law_have_unlike_times [histD ks xs] M Q E := by
  unfold f_law_have_unlike_times m_law_have_unlike_times histD
  walk_at "m0"
  walk_at "m"
  refine ⟨by rw [List.length_map]; omega, ?_⟩
  refine lcL_xs entD xs (fun _ => true) (fun x => .int x.b) (fun x => [some (.tup [intsL ks, .lst (xs.map entD)]), none, some (entD x), none]) (fun x hx R r => r) (fun x hx R r => r) (fun x hx _ R r => ?_) ?_ ?_
  · walk_at "m"
    simp only [ent_look]
    walk_at "m"
    exact r
  · trivial
  rw [filt_true]
  walk_at "m"
  refine ⟨by rw [List.length_map]; omega, ?_⟩
  refine lcL_xs entD xs (fun _ => true) (fun x => .int x.e) (fun x => [some (.tup [intsL ks, .lst (xs.map entD)]), none, some (entD x), none]) (fun x hx R r => r) (fun x hx R r => r) (fun x hx _ R r => ?_) ?_ ?_
  · walk_at "m"
    simp only [ent_look]
    walk_at "m"
    exact r
  · trivial
  rw [filt_true]
  walk_at "m"
  refine ⟨by rw [List.length_map, List.length_map, sizeLine_eq]; omega, ?_⟩
  have em : (xs.map fun x => Da.int x.b) ++ (xs.map fun x => Da.int x.e) = (xs.map (·.b) ++ xs.map (·.e)).map Da.int := by
    rw [List.map_append, List.map_map, List.map_map]
    rfl
  rw [em]
  refine ⟨by rw [List.length_map, List.length_append, List.length_map, List.length_map]; omega, ?_⟩
  refine lcL_xs Da.int (xs.map (·.b) ++ xs.map (·.e)) (fun _ => true) (fun z => .tup [.int z, .int 1]) (fun z => [some (.tup [intsL ks, .lst (xs.map entD)]), some (intsL (xs.map (·.b) ++ xs.map (·.e))), none, some (.int z)]) (fun x hx R r => r) (fun x hx R r => r) (fun x hx _ R r => ?_) ?_ ?_
  · walk_at "m"
    exact r
  · trivial
  rw [filt_true]
  walk_at "m"
  try unfold nDictP
  try walk_at "m"
  rw [pairsD_ints]
  walk_at "m"
  refine leave_same (q _ fun h => ?_)
  have h := of_decide_eq_true h
  rw [List.length_map] at h
  exact (times_perm xs).nodup_iff.1 (merge_nodup (xs.map (·.b) ++ xs.map (·.e)) [] (by simp only [List.length_nil]; omega)).1
/-- numbers whose text is told -/
def SmX (x : Ent) : Prop := x.b.natAbs < 20000 ∧ x.e.natAbs < 20000 ∧ x.y.natAbs < 20000 ∧ ∀ i, x.t = .n i → i.natAbs < 20000
theorem SmE.toX (h : SmE x) : SmX x := ⟨by have := h.1; omega, by have := h.2.1; omega, by have := h.2.2.1; omega, fun i e => by have := h.2.2.2 i e; omega⟩
def swapT : To → To
  | .d => .r
  | .r => .d
  | .n i => .n (1 - i)
end
end Z
namespace Z
open PySem PySem.Spec PyProof.Rows L2 Evl
open Hs
section
variable {M R S : Mem} {Q : TK} {E : XD} {D : En} {d b : Da} {n m : Nat} {x : Ent} {t c : Bool} {xs : List Ent} {ks l zs tm : List Int} {ds : List Da} {o : List Nat}
theorem log_lt {n : Nat} (h : n < 20000) : n.log2 < 1920 := by
  by_cases z : n = 0
  · subst z; decide
  · have : n.log2 < 15 := (Nat.log2_lt z).2 (by omega)
    omega
theorem kinds_of (ok : EntOk x) : x.k = ("put" : Str) ∨ x.k = ("strike" : Str) ∨ x.k = ("read" : Str) := by
  rcases ok.2 with ⟨h, _⟩ | ⟨h | h, _⟩
  · exact .inl h
  · exact .inr (.inl h)
  · exact .inr (.inr h)
theorem ent_rep (ok : EntOk x) (sm : SmX x) : okR (entD x) = true ∧ shB (entD x) ≤ 12000 := by
  have hk : okR (.str x.k) = true ∧ shB (.str x.k) ≤ 70 := by
    rcases kinds_of ok with h | h | h <;> rw [h] <;> exact ⟨by decide +kernel, by decide +kernel⟩
  have ht : okR (toD x.t) = true ∧ shB (toD x.t) ≤ 2000 := by
    cases e : x.t with
    | d => exact ⟨by decide +kernel, by decide +kernel⟩
    | r => exact ⟨by decide +kernel, by decide +kernel⟩
    | n i => exact ⟨decide_eq_true (log_lt (sm.2.2.2 i e)), Nat.le_refl _⟩
  have i1 : okR (.int x.b) = true := decide_eq_true (log_lt sm.1)
  have i2 : okR (.int x.e) = true := decide_eq_true (log_lt sm.2.1)
  have i3 : okR (.int x.y) = true := decide_eq_true (log_lt sm.2.2.1)
  have hz : shB (entD x) = 4 + (2000 + 2 + (2000 + 2 + ((4 + (shB (.str x.k) + 2 + (2000 + 2 + 0))) + 2 + (shB (toD x.t) + 2 + 0)))) := rfl
  have hok : okR (entD x) = (okR (.int x.b) && (okR (.int x.e) && ((okR (.str x.k) && (okR (.int x.y) && true)) && (okR (toD x.t) && true)))) := rfl
  refine ⟨by rw [hok, i1, i2, hk.1, i3, ht.1]; rfl, ?_⟩
  rw [hz]
  have := hk.2
  have := ht.2
  omega
theorem okRL_map {α : Type} (f : α → Da) (B : Nat) : ∀ {xs : List α}, (∀ x ∈ xs, okR (f x) = true ∧ shB (f x) ≤ B) → okRL (xs.map f) = true ∧ shBL (xs.map f) ≤ xs.length * (B + 2)
  | [], _ => ⟨rfl, Nat.zero_le _⟩
  | x :: xs, h => by
    have h1 := h x (List.mem_cons_self ..)
    have h2 := okRL_map f B fun y hy => h y (List.mem_cons_of_mem _ hy)
    refine ⟨?_, ?_⟩
    · show (okR (f x) && okRL (xs.map f)) = true
      rw [h1.1, h2.1]
      rfl
    · show shB (f x) + 2 + shBL (xs.map f) ≤ _
      have := h1.2
      have := h2.2
      rw [List.length_cons, Nat.succ_mul]
      omega
end
end Z
namespace Z
open PySem PySem.Spec PyProof.Rows L2 Evl
open Hs
section
variable {M : Mem} {Q : TK} {E : XD} {D : En} {d kd : Da} {x : Ent} {t : Bool} {xs : List Ent} {ks ks0 l zs W : List Int} {left os : List Nat} {i n : Nat} {k : Int} {f : Int → List Nat}
theorem putD_nd {kds : List (Key × Da)} {k : Key} {d : Da} (h : (kds.map (·.1)).Nodup) : ((putD kds k d).map (·.1)).Nodup := by
  unfold putD
  split
  · have em : (kds.map fun kv => if kv.1 = k then (kv.1, d) else kv).map (·.1) = kds.map (·.1) := by
      rw [List.map_map]
      refine List.map_congr_left fun q _ => ?_
      show (if q.1 = k then (q.1, d) else q).1 = q.1
      split <;> rfl
    rw [em]
    exact h
  · rename_i c
    rw [List.map_append]
    refine List.nodup_append.2 ⟨h, by simp, fun a ha b hb e => ?_⟩
    have hb : b = k := by simpa using hb
    obtain ⟨p, hp, q⟩ := List.mem_map.1 ha
    exact c (List.any_eq_true.2 ⟨p, hp, decide_eq_true (by rw [q, e, hb])⟩)
theorem merge_keys : ∀ (l : List Int) (acc : List (Key × Da)), (acc.map (·.1)).Nodup → ((mergeD acc (l.map fun z => ((Sum.inl z : Key), Da.int 1))).map (·.1)).Nodup ∧ ∀ j, j ∈ (mergeD acc (l.map fun z => ((Sum.inl z : Key), Da.int 1))).map (·.1) ↔ j ∈ acc.map (·.1) ∨ ∃ z ∈ l, j = Sum.inl z
  | [], acc, h => ⟨h, fun j => ⟨.inl, fun q => q.elim id fun ⟨z, hz, _⟩ => by cases hz⟩⟩
  | z :: l, acc, h => by
    rw [List.map_cons, mergeD_cons]
    obtain ⟨h1, h2⟩ := merge_keys l (putD acc (Sum.inl z) (.int 1)) (putD_nd h)
    refine ⟨h1, fun j => ?_⟩
    rw [h2, (putD_le acc (Sum.inl z) (.int 1)).2.2 j]
    constructor
    · rintro ((q | q) | ⟨w, hw, q⟩)
      · exact .inl q
      · exact .inr ⟨z, List.mem_cons_self .., q⟩
      · exact .inr ⟨w, List.mem_cons_of_mem _ hw, q⟩
    · rintro (q | ⟨w, hw, q⟩)
      · exact .inl (.inl q)
      · rcases List.mem_cons.1 hw with e | hw
        · exact .inl (.inr (by rw [q, e]))
        · exact .inr ⟨w, hw, q⟩
theorem keysI_all : ∀ {kds : List (Key × Da)}, (∀ j ∈ kds.map (·.1), ∃ z : Int, j = Sum.inl z) → ∃ ns, keysI kds = some ns ∧ kds.map (·.1) = ns.map Sum.inl
  | [], _ => ⟨[], rfl, rfl⟩
  | (j, d) :: kds, h => by
    obtain ⟨z, e⟩ := h j (by simp)
    have e : j = Sum.inl z := e
    subst e
    obtain ⟨ns, e1, e2⟩ := keysI_all (kds := kds) fun j hj => h j (List.mem_cons_of_mem _ hj)
    refine ⟨z :: ns, ?_, by rw [List.map_cons, List.map_cons, e2]⟩
    show (keysI kds).map (z :: ·) = _
    rw [e1]
    rfl
/-- the dict of all keys -/
def keyDict (xs : List Ent) : List (Key × Da) := mergeD [] ((xs.map (·.y)).map fun z => ((Sum.inl z : Key), Da.int 1))
theorem keyDict_ns (xs : List Ent) : ∃ ns : List Int, keysI (keyDict xs) = some ns ∧ (keyDict xs).map (·.1) = ns.map Sum.inl ∧ ns.Nodup ∧ (∀ k, k ∈ ns ↔ k ∈ wanted xs) := by
  obtain ⟨h1, h2⟩ := merge_keys (xs.map (·.y)) [] (by simp)
  obtain ⟨ns, e1, e2⟩ := keysI_all (kds := keyDict xs) fun j hj => by
    rcases (h2 j).1 hj with q | ⟨z, _, q⟩
    · cases q
    · exact ⟨z, q⟩
  have e2' : (keyDict xs).map (·.1) = ns.map Sum.inl := e2
  refine ⟨ns, e1, e2, ?_, fun k => ?_⟩
  · have h1 : ((keyDict xs).map (·.1)).Nodup := h1
    rw [e2, List.Nodup, List.pairwise_map] at h1
    exact h1.imp fun h e => h (by rw [e])
  · have h3 := h2 (Sum.inl k)
    have h3 : (Sum.inl k : Key) ∈ (keyDict xs).map (·.1) ↔ _ := h3
    rw [e2] at h3
    rw [wanted_mem]
    constructor
    · intro h
      rcases h3.1 (List.mem_map.2 ⟨k, h, rfl⟩) with q | ⟨z, hz, q⟩
      · cases q
      · cases q
        exact hz
    · intro h
      obtain ⟨z, hz, q⟩ := List.mem_map.1 (h3.2 (.inr ⟨k, h, rfl⟩))
      cases q
      exact hz
theorem sort_keys (ne : xs ≠ []) (l8 : xs.length ≤ 8) (q : Q (intsL (wanted xs)) M) : nSortB [.dct (keyDict xs)] M Q := by
  obtain ⟨ns, e1, e2, nd, mm⟩ := keyDict_ns xs
  have nn : ns ≠ [] := fun z => by
    cases xs with
    | nil => exact ne rfl
    | cons x xs =>
      have := (mm x.y).2 (wanted_mem.2 (by simp))
      rw [z] at this
      cases this
  have e3 : keysS (keyDict xs) = none := by
    cases e : keyDict xs with
    | nil =>
      rw [e] at e2
      cases ns with
      | nil => exact absurd rfl nn
      | cons _ _ => cases e2
    | cons p r =>
      obtain ⟨j, d⟩ := p
      rw [e] at e2
      cases ns with
      | nil => exact absurd rfl nn
      | cons z ns =>
        have ej : j = Sum.inl z := (List.cons.inj e2).1
        subst ej
        rfl
  unfold nSortB
  simp only [look_dct, e3, e1]
  have asc : ∀ ys : List Int, ys.Perm ns → ys.Pairwise (· ≤ ·) → ys = wanted xs := fun ys p a => by
    refine asc_ext (lt_of_le_nodup ys a (p.nodup_iff.2 nd)) (wanted_asc xs) fun z => ?_
    rw [p.mem_iff, mm]
  refine ⟨?_, fun ys p a => by rw [asc ys p a]; exact q⟩
  have e4 : (nsort : List Int) → True := fun _ => trivial
  have := congrArg List.length (asc (ns.mergeSort (· ≤ ·)) (List.mergeSort_perm _ _) (by
    have := List.pairwise_mergeSort (le := fun (a b : Int) => decide (a ≤ b)) (fun a b c h1 h2 => by simp at *; omega) (fun a b => by simp; omega) ns
    exact this.imp fun h => by simpa using h))
  rw [(List.mergeSort_perm _ _).length_eq] at this
  have wl := wanted_len xs
  omega
theorem law_bad_ok (h : HistOk ks xs) (ne : xs ≠ []) (q : Q (intsL (dueL ks xs)) M) : f_law_bad [histD ks xs] M Q E := by
  have xl := h.l
  have kl := h.kl
  have wl := wanted_len xs
  unfold f_law_bad m_law_bad
  walk_at "m1"
  intro cM cD
  refine seq_hide fun N hN => ?_
  unfold histD
  walk_at "m"
  refine hN _ _ ?_
  refine seq_hide fun N1 hN1 => ?_
  walk_at "m"
  refine ⟨by rw [List.length_map]; omega, ?_⟩
  refine lcL_xs entD xs (fun _ => true) (fun x => .tup [.int x.y, .int 1]) (fun x => [some (histD ks xs), some (intsL ks), some (.lst (xs.map entD)), none, none, none, none, some (entD x)]) (fun x hx R r => r) (fun x hx R r => r) (fun x hx _ R r => ?_) trivial ?_
  · walk_at "m"
    simp only [ent_look]
    walk_at "m"
    exact r
  rw [filt_true]
  walk_at "m"
  have em : (xs.map fun x => Da.tup [.int x.y, .int 1]) = (xs.map (·.y)).map fun z => Da.tup [.int z, .int 1] := by rw [List.map_map]; rfl
  rw [em, pairsD_ints]
  refine sort_keys ne xl ?_
  refine hN1 _ _ ?_
  refine seq_hide fun N2 hN2 => ?_
  walk_at "m"
  refine hN2 _ _ ?_
  refine seq_hide fun N3 hN3 => ?_
  unfold intsL
  walk_at "m"
  refine forL_xs Da.int (wanted xs) (fun p r ρ M' => M' = M ++ [intsL (p.filter (badB ks xs))] ∧ ∃ s5 s6 s7, ρ = [some (histD ks xs), some (intsL ks), some (.lst (xs.map entD)), some (intsL (wanted xs)), some (.cell M.length), s5, s6, s7]) ⟨rfl, _, _, _, rfl⟩ ?_ ?_
  · rintro p z r ρ M' e ⟨rfl, s5, s6, s7, rfl⟩ C hC
    have pl : p.length ≤ 8 := by
      have := congrArg List.length e
      rw [List.length_append] at this
      omega
    walk_at "m"
    refine ⟨by rw [List.length_map]; omega, ?_⟩
    refine lcL_xs entD xs (fun x => decide (x.y = z)) entD (fun x => [some (histD ks xs), some (intsL ks), some (.lst (xs.map entD)), some (intsL (wanted xs)), some (.cell M.length), some (.int z), s6, some (entD x)]) (fun x hx R r => r) (fun x hx R r => ?_) (fun x hx _ R r => r) trivial ?_
    · walk_at "m"
      simp only [ent_look]
      walk_at "m"
      exact r
    have eo : xs.filter (fun x => decide (x.y = z)) = ofK z xs := rfl
    have ol : (ofK z xs).length ≤ 8 := Nat.le_trans (List.length_filter_le _ _) xl
    have ox : ∀ x ∈ ofK z xs, EntOk x := fun x hx => h.e x (List.mem_filter.1 hx).1
    rw [eo]
    walk_at "m"
    refine ⟨_, rfl, RgOk.of_le (by omega) (by rw [List.length_map]; omega) (by omega) (by omega), ?_⟩
    have er : rngD 0 ((((ofK z xs).map entD).length : Nat) : Int).toNat = (List.range (ofK z xs).length).map fun o : Nat => Da.int o := by
      rw [List.length_map, Int.toNat_natCast]
      exact rngD_nats _
    rw [er]
    refine ⟨⟨plL_ints ks, by rw [dpL_ints]; omega⟩, ?_⟩
    rw [anyI]
    refine has_order_ok ox (by omega) 9 (by rw [List.length_range]; omega) List.nodup_range (fun o ho => List.mem_range.1 ho) ?_
    rw [bad_has (be_of h.e) (be_of ox) xl]
    cases eb : badB ks xs z with
    | true =>
      walk_at "m"
      have ef : (p ++ [z]).filter (badB ks xs) = p.filter (badB ks xs) ++ [z] := by
        rw [List.filter_append, List.filter_cons, if_pos eb]
        rfl
      have pf := List.length_filter_le (badB ks xs) p
      refine ⟨⟨_, rfl⟩, by rw [List.length_map, sizeLine_eq]; omega, hC _ _ _ _ .same (by trivial) ⟨?_, _, _, _, rfl⟩⟩
      rw [ef, intsL, List.map_append]
      rfl
    | false =>
      walk_at "m"
      have ef : (p ++ [z]).filter (badB ks xs) = p.filter (badB ks xs) := by
        rw [List.filter_append, List.filter_cons, if_neg (by rw [eb]; simp)]
        simp
      refine hC _ _ _ _ .same (by trivial) ⟨?_, _, _, _, rfl⟩
      rw [ef]
  · rintro ρ M' ⟨rfl, s5, s6, s7, rfl⟩
    refine hN3 _ _ ?_
    walk_at "m"
    exact ⟨intsL (dueL ks xs), M, .inr ⟨by simp, by simp, cM, frz_cell (by simp [dueL]) (by omega) (plL_clo _ (plL_ints _))⟩, q⟩
end
end Z
namespace Z
open PySem PySem.Spec PyProof.Rows L2 Evl
open Hs
section
variable {M R S : Mem} {Q : TK} {E : XD} {D : En} {d b : Da} {n m : Nat} {x : Ent} {t : Bool} {xs : List Ent} {ks l zs tm : List Int} {ds : List Da}
def Drawn7 (ks : List Int) (xs : List Ent) : Prop := HistOk ks xs ∧ (∀ x ∈ xs, SmX x) ∧ KsOk ks ∧ 1 ≤ xs.length ∧ xs.length ≤ 7
theorem drawn7_of (hk : KsOk ks) (hx : ∀ x ∈ xs, EntOk x ∧ SmX x) (l1 : 1 ≤ xs.length) (l7 : xs.length ≤ 7) (nd : (timesL xs).Nodup) : Drawn7 ks xs :=
  ⟨⟨hk.nd, by have := hk.l; omega, fun x h => (hx x h).1, by omega, nd⟩, fun x h => (hx x h).2, hk, l1, l7⟩
theorem times_set : ∀ (xs : List Ent) (a : Nat) (z : Ent), a < xs.length → z.b = (ent xs a).b → z.e = (ent xs a).e → timesL (xs.set a z) = timesL xs
  | [], a, z, h, _, _ => by simp at h
  | x :: xs, 0, z, _, h1, h2 => by
    have h1 : z.b = x.b := h1
    have h2 : z.e = x.e := h2
    show [z.b, z.e] ++ timesL xs = [x.b, x.e] ++ timesL xs
    rw [h1, h2]
  | x :: xs, a + 1, z, h, h1, h2 => by
    show [x.b, x.e] ++ timesL (xs.set a z) = [x.b, x.e] ++ timesL xs
    rw [times_set xs a z (by simpa using h) h1 h2]
def SmJ (j : Nat) (x : Ent) : Prop := x.b.natAbs < 10000 ∧ x.e.natAbs < 10000 ∧ x.y.natAbs < 10000 ∧ ∀ i, x.t = .n i → i.natAbs < 10000 + j
theorem SmJ.mono {i j : Nat} (h : SmJ i x) (l : i ≤ j) : SmJ j x := ⟨h.1, h.2.1, h.2.2.1, fun z e => by have := h.2.2.2 z e; omega⟩
theorem SmJ.toX {j : Nat} (h : SmJ j x) (l : j ≤ 10) : SmX x := ⟨by have := h.1; omega, by have := h.2.1; omega, by have := h.2.2.1; omega, fun i e => by have := h.2.2.2 i e; omega⟩
theorem swap_ok {j : Nat} {z : Ent} (zx : EntOk z ∧ SmJ j z) : EntOk ⟨z.b, z.e, z.k, z.y, swapT z.t⟩ ∧ SmJ (j + 1) ⟨z.b, z.e, z.k, z.y, swapT z.t⟩ := by
  obtain ⟨⟨q0, q1⟩, q2, q3, q4, q5⟩ := zx
  refine ⟨⟨q0, ?_⟩, q2, q3, q4, fun i e => ?_⟩
  · rcases q1 with ⟨h1, h2⟩ | ⟨h1, i, h2⟩
    · exact .inl ⟨h1, by rcases h2 with h | h <;> rw [h] <;> simp [swapT]⟩
    · exact .inr ⟨h1, 1 - i, by show swapT z.t = _; rw [h2]; rfl⟩
  · have e : swapT z.t = .n i := e
    cases ht : z.t with
    | d => rw [ht] at e; cases e
    | r => rw [ht] at e; cases e
    | n i' =>
      rw [ht] at e
      cases e
      have := q5 i' ht
      omega
abbrev hi12 (m : Nat) (w : Int) (ks : List Int) (xs : List Ent) (j : Nat) (s5 s6 s7 s8 s9 s10 s11 : Option Da) : Sl := [some (.cell 0), some (.int m), some (.int w), some (histD ks xs), some (.cell (j + 1)), s5, s6, s7, s8, s9, s10, s11]
theorem at_0 {d : Da} : (R ++ [d])[R.length]? = some d := by simp
theorem hist_turn {w : Int} {xs0 xs : List Ent} {j a : Nat} {s5 s6 s7 s8 s9 s10 s11 : Option Da} (ha : a < xs.length) (l7 : xs.length ≤ 7) (hx : ∀ x ∈ xs, EntOk x ∧ SmJ j x)
    (k : ∀ s7 s8 s9 s10, D.nx (hi12 m w ks xs0 R.length s5 (some (.int a)) s7 s8 s9 s10 s11) (b :: (R ++ [.lst ((xs.set a ⟨(ent xs a).b, (ent xs a).e, (ent xs a).k, (ent xs a).y, swapT (ent xs a).t⟩).map entD)]))) :
    b_law_history_L1_1 D (hi12 m w ks xs0 R.length s5 (some (.int a)) s7 s8 s9 s10 s11) (b :: (R ++ [.lst (xs.map entD)])) := by
  have hz : ent xs a ∈ xs := by
    unfold ent
    rw [List.getD_eq_getElem?_getD, List.getElem?_eq_getElem ha]
    exact List.getElem_mem ha
  have zx := hx _ hz
  unfold b_law_history_L1_1
  refine seq_hide fun N hN => ?_
  walk_at "m"
  try rw [at_0]
  try walk_at "m"
  rw [at_ent ha]
  walk_at "m"
  simp only [ent_look]
  walk_at "m"
  refine hN _ _ ?_
  generalize ent xs a = z at zx hz k
  unfold b_law_history_L1_2
  have ie : ixN xs.length (a : Int) = some a := by
    unfold ixN
    rw [if_pos (by omega), if_pos (by omega)]
    rfl
  have fin : ∀ s7 s8 s9 s10, D.nx (hi12 m w ks xs0 R.length s5 (some (.int a)) s7 s8 s9 s10 s11) (b :: (R ++ [.lst ((xs.map entD).set a (entD ⟨z.b, z.e, z.k, z.y, swapT z.t⟩))])) := fun s7 s8 s9 s10 => by
    have g := k s7 s8 s9 s10
    rw [List.map_set] at g
    exact g
  clear k
  walk_at "m"
  rw [List.length_map, ie]
  refine ite2 (fun kp => ?_) (fun kp => ?_)
  · have kt : z.t = .d ∨ z.t = .r := by
      rcases zx.1.2 with ⟨_, h⟩ | ⟨h, _⟩
      · exact h
      · exfalso
        rw [kp] at h
        revert h
        decide
    rcases kt with h | h
    · rw [h] at fin ⊢
      refine ⟨_, .str "refused", rfl, ?_, fin _ _ _ _⟩
      simp only [valD_put, mergeD_cons, mergeD_nil, valD_nil]
      rw [if_neg (by decide +kernel), if_pos (by decide +kernel)]
    · rw [h] at fin ⊢
      refine ⟨_, .str "done", rfl, ?_, fin _ _ _ _⟩
      simp only [valD_put, mergeD_cons, mergeD_nil, valD_nil]
      rw [if_pos (by decide +kernel)]
  · have kt : ∃ i, z.t = .n i := by
      rcases zx.1.2 with ⟨h, _⟩ | ⟨_, h⟩
      · exact absurd h kp
      · exact h
    obtain ⟨i, h⟩ := kt
    rw [h] at fin ⊢
    exact fin _ _ _ _
theorem hist_4 {w : Int} {s4 s5 s6 s7 s8 s9 s10 s11 : Option Da} (cM : cloL (R.length + 1) (b :: R) = true) {b1 : Da} (hn : n ≤ 1000000) (B : BoxQ n b1) (hk : KsOk ks) (hx : ∀ x ∈ xs, EntOk x ∧ SmE x) (l1 : 1 ≤ xs.length) (l7 : xs.length ≤ 7) (nd : (timesL xs).Nodup) (w1 : 1 ≤ w) (w4 : w < 4)
    (k : ∀ (b' : Da) (xs' : List Ent), BoxQ (n + 10) b' → Drawn7 ks xs' → Q (histD ks xs') (b' :: R)) {bk ct : Sl → Mem → Prop} :
    b_law_history_4 { nx := fun _ M' => leave (R.length + 1) Q .non M', rt := leave (R.length + 1) Q, bk := bk, ct := ct } [some (.cell 0), some (.int xs.length), some (.int w), some (histD ks xs), s4, s5, s6, s7, s8, s9, s10, s11] (b1 :: R) := by
  unfold b_law_history_4
  refine seq_hide fun N hN => ?_
  unfold histD
  walk_at "m"
  refine hN _ _ ?_
  unfold b_law_history_5
  refine seq_hide fun N2 hN2 => ?_
  walk_at "m"
  refine ⟨by omega, by omega, ?_⟩
  refine forL_ind (fun j ρ M' => ∃ (b' : Da) (xs' : List Ent) (s5 s6 s7 s8 s9 s10 s11 : Option Da), ρ = hi12 xs.length w ks xs R.length s5 s6 s7 s8 s9 s10 s11 ∧ M' = b' :: (R ++ [.lst (xs'.map entD)]) ∧ xs'.length = xs.length ∧ (∀ x ∈ xs', EntOk x ∧ SmJ j x) ∧ timesL xs' = timesL xs ∧ BoxQ (n + j) b')
    ⟨b1, xs, s5, s6, s7, s8, s9, s10, s11, ?_⟩ ?_ ?_
  · refine ⟨?_, ?_, rfl, fun x h => ⟨(hx x h).1, (hx x h).2⟩, rfl, B⟩
    · simp [histD]
    · simp
  · rintro j d ρ M' hd ⟨b', xs', s5, s6, s7, s8, s9, s10, s11, rfl, rfl, ex, hx', et, B'⟩ C hC
    have hj : j < 3 := by
      have := (rngD_at hd).1
      omega
    walk_at "m"
    unfold l_law_history_1
    refine seq_hide fun N3 hN3 => ?_
    walk_at "m"
    refine takeQ_ok (m := xs.length) (R := R ++ [.lst (xs'.map entD)]) B' ?_ ?_ ?_ (fun i b2 B2 h0 h1 => ?_)
    · omega
    · omega
    · exact log_nat (by omega)
    refine hN3 _ _ ?_
    obtain ⟨a, rfl⟩ : ∃ a : Nat, i = (a : Int) := ⟨i.toNat, by omega⟩
    have ha : a < xs'.length := by omega
    refine hist_turn (j := j) (s6 := none) ha (by omega) hx' fun s7 s8 s9 s10 => ?_
    have hz : ent xs' a ∈ xs' := by
      unfold ent
      rw [List.getD_eq_getElem?_getD, List.getElem?_eq_getElem ha]
      exact List.getElem_mem ha
    refine hC _ _ _ _ .same (by trivial) ⟨b2, xs'.set a ⟨(ent xs' a).b, (ent xs' a).e, (ent xs' a).k, (ent xs' a).y, swapT (ent xs' a).t⟩, some d, some (.int a), s7, s8, s9, s10, s11, rfl, rfl, ?_, ?_, ?_, B2.mono (by omega)⟩
    · rw [List.length_set]
      exact ex
    · intro x h
      rcases List.mem_or_eq_of_mem_set h with h | h
      · exact ⟨(hx' x h).1, (hx' x h).2.mono (by omega)⟩
      · rw [h]
        exact swap_ok (hx' _ hz)
    · exact (times_set xs' a ⟨(ent xs' a).b, (ent xs' a).e, (ent xs' a).k, (ent xs' a).y, swapT (ent xs' a).t⟩ ha rfl rfl).trans et
  · rintro ρ M' ⟨b', xs', s5, s6, s7, s8, s9, s10, s11, rfl, rfl, ex, hx', et, B'⟩
    have hj : (rngD 0 (w - 1).toNat).length ≤ 3 := by
      rw [rngD_len]
      omega
    refine hN2 _ _ ?_
    unfold b_law_history_6
    walk_at "m"
    refine leave_boxQ B' cM (d' := histD ks xs') ?_ (k b' xs' (B'.mono (by omega)) (drawn7_of hk (fun x h => ⟨(hx' x h).1, (hx' x h).2.toX (by omega)⟩) (by omega) (by omega) (by rw [et]; exact nd)))
    have c1 : cloD (R.length + 1) (.tup [intsL ks, .cell (R.length + 1)]) = false := by
      unfold cloD cloL cloL cloL
      rw [show cloD (R.length + 1) (.cell (R.length + 1)) = false by unfold cloD; exact decide_eq_false (by omega)]
      simp
    have c2 : frz (R.length + 1) 3 (b' :: (R ++ [.lst (xs'.map entD)])) (intsL ks) = some (intsL ks) := frz_clo (intsL_clo _ _)
    have c3 : frz (R.length + 1) 3 (b' :: (R ++ [.lst (xs'.map entD)])) (.cell (R.length + 1)) = some (.lst (xs'.map entD)) := by
      refine frz_cell ?_ (by omega) (plL_clo _ (ents_pl xs').1)
      rw [List.getElem?_cons_succ]
      exact at_0
    show frz (R.length + 1) 4 (b' :: (R ++ [.lst (xs'.map entD)])) (.tup [intsL ks, .cell (R.length + 1)]) = _
    unfold frz
    rw [if_neg (by rw [c1]; simp)]
    show Option.map Da.tup (mapO (frz (R.length + 1) 3 (b' :: (R ++ [.lst (xs'.map entD)]))) [intsL ks, .cell (R.length + 1)]) = _
    unfold mapO mapO mapO
    rw [c2, c3]
    rfl
theorem history7_ok (B : BoxQ n b) (hn : n ≤ 400000) (k : ∀ (b' : Da) (ks : List Int) (xs : List Ent), BoxQ (n + 5000) b' → Drawn7 ks xs → Q (histD ks xs) (b' :: R)) : f_law_history [.cell 0] (b :: R) Q E := by
  unfold f_law_history m_law_history
  walk_at "m1"
  intro cM cD
  refine seq_hide fun N hN => ?_
  walk_at "m"
  refine takeQ_ok (m := 7) B ?_ (by decide) (by decide) (fun i b1 B1 h0 h1 => ?_)
  · omega
  walk_at "m"
  refine takeQ_ok (m := 4) B1 ?_ (by decide) (by decide) (fun w b2 B2 h2 h3 => ?_)
  · omega
  walk_at "m"
  obtain ⟨m, em⟩ : ∃ m : Nat, 1 + i = (m : Int) := ⟨(1 + i).toNat, by omega⟩
  rw [em]
  have m1 : 1 ≤ m := by omega
  have m7 : m ≤ 7 := by omega
  refine hN _ _ ?_
  unfold b_law_history_1
  refine seq_hide fun N1 hN1 => ?_
  refine if_hide fun T U hT hU => ?_
  walk_at "m"
  refine ite2 (fun c => hT _ ?_) (fun c => hU _ (next_run (hN1 _ _ ?_)))
  · refine ⟨by decide, ⟨by decide, ?_⟩⟩
    refine keys_ok (fun _ => rfl) (fun z => rfl) (fun z => rfl) B2 (by omega) fun b3 ks B3 hk => ?_
    walk_at "m"
    refine entries_ok (m := m) B3 (by omega) m7 (fun b4 xs B4 ex hx nd => ?_)
    subst ex
    exact leave_same (k b4 ks xs (B4.mono (by omega)) (drawn7_of hk (fun x h => ⟨(hx x h).1, (hx x h).2.toX⟩) m1 m7 nd))
  unfold b_law_history_2
  refine seq_hide fun N2 hN2 => ?_
  walk_at "m"
  refine honest_ok B2 (by omega) m7 (fun b3 ks xs B3 hk ex hx g => ?_)
  subst ex
  walk_at "m"
  refine hN2 _ _ ?_
  unfold b_law_history_3
  refine seq_hide fun N3 hN3 => ?_
  refine if_hide fun T U hT hU => ?_
  walk_at "m"
  refine unlike_ok (by omega) (fun u hu => ?_)
  cases u with
  | false =>
    refine hT _ ?_
    clear hT hU
    unfold histD
    walk_at "m"
    have e5 : (if (5 : Int) < (xs.length : Int) then (5 : Int) else (xs.length : Int)) = ((min xs.length 5 : Nat) : Int) := by
      split <;> omega
    rw [e5]
    refine entries_ok (m := min xs.length 5) B3 (by omega) (by omega) (fun b4 xs2 B4 ex2 hx2 nd2 => ?_)
    exact leave_same (k b4 ks xs2 (B4.mono (by omega)) (drawn7_of hk (fun x h => ⟨(hx2 x h).1, (hx2 x h).2.toX⟩) (by omega) (by omega) nd2))
  | true =>
    refine hU _ (next_run (hN3 _ _ ?_))
    have nd := hu rfl
    exact hist_4 (n := n + 1 + 1 + 1000) cM (by omega) B3 hk hx m1 m7 nd (by omega) (by omega) fun b' xs' B' dr => k b' ks xs' (B'.mono (by omega)) dr
end
end Z
namespace Z
open PySem PySem.Spec PyProof.Rows L2 Evl
open Hs
section
variable {M R S : Mem} {Q : TK} {E : XD} {D : En} {d b : Da} {n m : Nat} {x : Ent} {t : Bool} {xs xs' : List Ent} {ks ks' l zs tm : List Int} {ds : List Da} {k : Int}
theorem hist_rep7 (h : Drawn7 ks xs) : okR (histD ks xs) = true ∧ shB (histD ks xs) ≤ 10000000 ∧ plD (histD ks xs) = true ∧ dpD (histD ks xs) ≤ 50 := by
  obtain ⟨h0, hx, hk, l1, l5⟩ := h
  have a := okRL_map Da.int 2000 (xs := ks) fun z hz => ⟨decide_eq_true (log_lt (by have := hk.s z hz; omega)), Nat.le_refl _⟩
  have b := okRL_map entD 12000 (xs := xs) fun x h => ent_rep (h0.e x h) (hx x h)
  have ok : okR (histD ks xs) = true := by
    show (okRL (ks.map Da.int) && (okRL (xs.map entD) && true)) = true
    rw [a.1, b.1]
    rfl
  refine ⟨ok, ?_, okR_pl ok, ?_⟩
  · show 4 + (4 + shBL (ks.map Da.int) + 2 + (4 + shBL (xs.map entD) + 2 + 0)) ≤ _
    have := hk.l
    have h1 : ks.length * (2000 + 2) ≤ 3 * 2002 := Nat.mul_le_mul hk.l (Nat.le_refl _)
    have h2 : xs.length * (12000 + 2) ≤ 7 * 12002 := Nat.mul_le_mul l5 (Nat.le_refl _)
    have := a.2
    have := b.2
    omega
  · have e1 := dpL_ints ks
    have e2 := (ents_pl xs).2
    show max (dpL (ks.map Da.int) + 1) (max (dpL (xs.map entD) + 1) 0) + 1 ≤ 50
    omega
theorem repr_hist7 (h : Drawn7 ks xs) (q : Q (.str (reprD (histD ks xs))) M) : nRepr [histD ks xs] M Q := by
  obtain ⟨h1, h2, h3, h4⟩ := hist_rep7 h
  exact ⟨_, frz_clo (plD_clo 0 h3), h1, h2, h4, q⟩
theorem copy_hist7 {n : Nat} (h : Drawn7 ks xs) (q : Q (histD ks xs) M) : f_law_copy (n + 5) [histD ks xs] M Q E := by
  refine copy_ok _ ?_ q
  obtain ⟨h0, hx, hk, l1, l5⟩ := h
  have kl := hk.l
  have h1 : okC (n + 4) (intsL ks) = true := by
    show (decide ((ks.map Da.int).length ≤ 1000) && (ks.map Da.int).all (okC (n + 3))) = true
    rw [decide_eq_true (by rw [List.length_map]; omega), Bool.true_and, List.all_eq_true]
    intro d hd
    obtain ⟨z, _, rfl⟩ := List.mem_map.1 hd
    rfl
  have h2 : okC (n + 4) (.lst (xs.map entD)) = true := by
    show (decide ((xs.map entD).length ≤ 1000) && (xs.map entD).all (okC (n + 3))) = true
    rw [decide_eq_true (by rw [List.length_map]; omega), Bool.true_and, List.all_eq_true]
    intro d hd
    obtain ⟨z, _, rfl⟩ := List.mem_map.1 hd
    obtain ⟨b, e, k, y, t⟩ := z
    cases t <;> rfl
  show (decide (2 ≤ 1000) && (okC (n + 4) (intsL ks) && (okC (n + 4) (.lst (xs.map entD)) && true))) = true
  rw [h1, h2]
  rfl
theorem atI_ints {k : Nat} {o : Int} {os : List Int} (h : os[k]? = some o) : atI (os.map Da.int) (k : Int) = some (.int o) := by
  rw [atI_nat', List.getElem?_map, h]
  rfl
theorem same_ints {n : Nat} {a b : List Int} (ha : a.length ≤ 1000) (hb : b.length ≤ 1000) (q : Q (.bl (decide (a = b))) M) : f_law_same (n + 2) [intsL a, intsL b] M Q E := by
  unfold f_law_same m_law_same
  walk_at "m1"
  intro cM cD
  walk_at "m"
  refine ite2 (fun c => ?_) (fun c => leave_same (q_bd q ?_))
  · have lab : a.length = b.length := by
      rw [List.length_map, List.length_map] at c
      omega
    refine ⟨by rw [List.length_map]; omega, by rw [List.length_map]; omega, by rw [rngD_len, List.length_map]; omega, ?_⟩
    rw [List.length_map, Int.toNat_natCast, rngD_nats]
    refine lcL_xs (fun z : Nat => Da.int z) (List.range b.length) (fun k => !decide (a[k]? = b[k]?)) (fun z : Nat => Da.int z) (fun z : Nat => [some (intsL a), some (intsL b), some (.int z)]) (fun z hz R q => q) (fun z hz R q => ?_) (fun z hz _ R q => ?_) trivial ?_
    · have lz := List.mem_range.1 hz
      have ea : a[z]? = some a[z] := List.getElem?_eq_getElem (by omega)
      have eb : b[z]? = some b[z] := List.getElem?_eq_getElem lz
      walk_at "m"
      rw [atI_ints ea]
      walk_at "m"
      rw [atI_ints eb]
      walk_at "m"
      refine same_int ?_
      walk_at "m"
      have e : decide (a[z] = b[z]) = decide (a[z]? = b[z]?) := by
        rw [ea, eb]
        refine decide_eq_decide.2 ⟨fun h => by rw [h], fun h => Option.some.inj h⟩
      rw [e]
      exact q
    · exact q
    walk_at "m"
    refine ⟨⟨(nats_pl _).1, by rw [(nats_pl _).2]; omega⟩, leave_same (q_bd q ?_)⟩
    rw [eqL_nil, List.isEmpty_map, filter_ne lab]
  · rw [List.length_map, List.length_map] at c
    refine (decide_eq_false fun h => c ?_).symm
    rw [h]
theorem mixedL_ok (B : BoxQ n b) (hn : n ≤ 1000000) (hp : plL ds = true) (hd : dpL ds ≤ 40) (hl : ds.length ≤ 500) (k : ∀ (b' : Da) (es : List Da), BoxQ (n + ds.length) b' → es.Perm ds → Q (.lst es) (b' :: R)) :
    f_law_mixed [.cell 0, .lst ds] (b :: R) Q E := by
  unfold f_law_mixed m_law_mixed
  walk_at "m1"
  intro cM cD
  refine seq_hide fun N hN => ?_
  walk_at "m"
  refine hN _ _ ?_
  refine seq_hide fun N2 hN2 => ?_
  refine ⟨ds.length + 1, ?_⟩
  refine whl_ind (fun k ρ M' => ∃ (b' : Da) (left found : List Da), ρ = [some (.cell 0), some (.lst ds), some (.cell (R.length + 1)), some (.cell (R.length + 2))] ∧ M' = b' :: (R ++ [.lst left, .lst found]) ∧ left.length = k ∧ (found ++ left).Perm ds ∧ BoxQ (n + found.length) b') ?_ ?_ _ _ _ ⟨b, ds, [], ?_⟩
  · rintro ρ M' N3 ⟨b', left, found, rfl, rfl, e, pm, B'⟩
    have e : left = [] := List.length_eq_zero_iff.1 e
    subst e
    walk_at "m"
    refine hN2 _ _ ?_
    walk_at "m"
    rw [List.append_nil] at pm
    have fl := pm.length_eq
    have pF : plL found = true := plL_all.2 fun d hd => plL_all.1 hp d (pm.mem_iff.1 hd)
    exact leave_boxQ (S := [.lst [], .lst found]) B' cM (d' := .lst found) (frz_cell (by simp) (by omega) (plL_clo _ pF)) (k b' found (by rw [← fl]; exact B') pm)
  · rintro j ρ M' N3 ⟨b', left, found, rfl, rfl, e, pm, B'⟩ hN3
    have pl := pm.length_eq
    rw [List.length_append] at pl
    have pL : plL left = true ∧ dpL left ≤ 40 := ⟨plL_all.2 fun d hd => plL_all.1 hp d (pm.mem_iff.1 (List.mem_append_right _ hd)), dpL_le.2 fun d h => dpL_le.1 hd d (pm.mem_iff.1 (List.mem_append_right _ h))⟩
    walk_at "m"
    refine ⟨⟨pL.1, by omega⟩, ite2 (fun c => ⟨⟨_, rfl⟩, ⟨_, rfl⟩, ?_⟩) (fun c => ?_)⟩
    · refine takeQ_ok (R := R ++ [.lst left, .lst found]) B' ?_ ?_ ?_ (fun i b2 B2 h0 h1 => ?_)
      · omega
      · omega
      · exact log_nat (by omega)
      walk_at "m"
      have hk : i.toNat < left.length := by omega
      refine ⟨by omega, by omega, i.toNat, left[i.toNat], seqI h0 h1, List.getElem?_eq_getElem hk, ?_⟩
      walk_at "m"
      refine ⟨by rw [sizeLine_eq]; omega, _, _, .same, hN3 _ _ ⟨b2, left.eraseIdx i.toNat, found ++ [left[i.toNat]], rfl, rfl, ?_, ?_, ?_⟩⟩
      · rw [List.length_eraseIdx, if_pos hk]; omega
      · rw [List.append_assoc]
        exact ((List.perm_append_left_iff found).2 (perm_erase hk)).trans pm
      · rw [List.length_append]
        exact B2.mono (by simp; omega)
    · exfalso
      apply c
      rw [eqL_nil]
      cases left with
      | nil => simp at e
      | cons _ _ => rfl
  · refine ⟨by simp, by simp, rfl, by simp, B.mono (by simp)⟩
theorem timesL_perm (p : xs'.Perm xs) : (timesL xs').Perm (timesL xs) := by
  induction p with
  | nil => exact .refl _
  | cons x _ ih => exact (List.perm_append_left_iff [x.b, x.e]).2 ih
  | swap x y l =>
    show ([y.b, y.e] ++ ([x.b, x.e] ++ timesL l)).Perm ([x.b, x.e] ++ ([y.b, y.e] ++ timesL l))
    rw [← List.append_assoc, ← List.append_assoc]
    exact (List.perm_append_comm).append_right _
  | trans _ _ a b => exact a.trans b
theorem timesL_filter (p : Ent → Bool) : ∀ xs : List Ent, (timesL (xs.filter p)).Sublist (timesL xs)
  | [] => .refl _
  | x :: xs => by
    have ih := timesL_filter p xs
    have e : timesL (x :: xs) = [x.b, x.e] ++ timesL xs := rfl
    rw [List.filter_cons]
    split
    · show ([x.b, x.e] ++ timesL (xs.filter p)).Sublist _
      rw [e]
      exact ih.append_left _
    · rw [e]
      exact ih.trans (List.sublist_append_right _ _)
theorem HistOk.of_perm (h : HistOk ks xs) (pk : ks'.Perm ks) (p : xs'.Perm xs) : HistOk ks' xs' :=
  ⟨pk.nodup_iff.2 h.k, by rw [pk.length_eq]; exact h.kl, fun x hx => h.e x (p.mem_iff.1 hx), by rw [p.length_eq]; exact h.l, (timesL_perm p).nodup_iff.2 h.t⟩
theorem HistOk.one (h : HistOk ks xs) (k : Int) : HistOk ks (ofK k xs) :=
  ⟨h.k, h.kl, fun x hx => h.e x (List.mem_filter.1 hx).1, Nat.le_trans (List.length_filter_le _ _) h.l, h.t.sublist (timesL_filter _ xs)⟩
theorem due_perm (h : HistOk ks xs) (pk : ks'.Perm ks) (p : xs'.Perm xs) : dueL ks' xs' = dueL ks xs := by
  unfold dueL
  rw [wanted_perm p]
  refine List.filter_congr fun z _ => ?_
  exact bad_perm (be_of h.e) (be_of (h.of_perm pk p).e) h.l p fun z => pk.mem_iff
theorem alone_bad (h : HistOk ks xs) (k : Int) : (orderF (ofK k xs) 9 (List.range (ofK k xs).length) ks).isNone = badB ks xs k := by
  have h1 := h.one k
  rw [Bool.eq_iff_iff, Option.isNone_iff_eq_none, alone_iff (be_of h1.e) h1.l, bad_iff (be_of h.e) h.l]
theorem keysD_ints (xs : List Ent) : ∃ ns : List Int, keysD (keyDict xs) = ns.map Da.int ∧ (∀ k ∈ ns, k ∈ wanted xs) ∧ ∀ p ∈ keyDict xs, keyOk p.1 := by
  obtain ⟨ns, e1, e2, nd, mm⟩ := keyDict_ns xs
  refine ⟨ns, ?_, fun k hk => (mm k).1 hk, fun p hp => ?_⟩
  · have e : keysD (keyDict xs) = ((keyDict xs).map (·.1)).map keyV := by
      unfold keysD
      rw [List.map_map]
      rfl
    rw [e, e2, List.map_map]
    rfl
  · have : p.1 ∈ (keyDict xs).map (·.1) := List.mem_map.2 ⟨p, hp, rfl⟩
    rw [e2] at this
    obtain ⟨z, _, e⟩ := List.mem_map.1 this
    rw [← e]
    trivial
end
end Z
namespace Z
open PySem PySem.Spec PyProof.Rows L2 Evl
open Hs
section
variable {M R S : Mem} {Q : TK} {E : XD} {D : En} {d b : Da} {n m : Nat} {x : Ent} {t u : Bool} {xs xs' : List Ent} {ks ks' l zs tm : List Int} {ds : List Da} {k : Int} {wv pv : Da}
abbrev c12 (ks : List Int) (xs : List Ent) (u : Bool) (s3 s4 s5 s6 s7 s8 s9 s10 s11 : Option Da) : Sl := [some (.cell 0), some (.bl u), some (histD ks xs), s3, s4, s5, s6, s7, s8, s9, s10, s11]
/-- what an order that is told is -/
def Wv (ks : List Int) (xs : List Ent) (v : Da) : Prop := (dueL ks xs ≠ [] ∧ v = .non) ∨ (dueL ks xs = [] ∧ ∃ o : List Nat, o.Perm (List.range xs.length) ∧ good xs ks o = true ∧ v = natsL o)
theorem due_len : (dueL ks xs).length ≤ xs.length := Nat.le_trans (List.length_filter_le _ _) (wanted_len xs)
theorem cr_2 (h : Drawn7 ks xs) (k : b_law_cell_right_3 D (c12 ks xs u (some (intsL (dueL ks xs))) (some (histD ks xs)) none none none none none none none) M) : b_law_cell_right_2 D (c12 ks xs u none none none none none none none none none) M := by
  obtain ⟨h0, hx, hk, l1, l7⟩ := id h
  have ne : xs ≠ [] := fun z => by rw [z] at l1; simp at l1
  unfold b_law_cell_right_2
  refine seq_hide fun N hN => ?_
  walk_at "m"
  refine law_bad_ok h0 ne ?_
  walk_at "m"
  refine copy_hist7 (n := 1) h ?_
  walk_at "m"
  exact hN _ _ k
theorem cr_3 (h : Drawn7 ks xs) (k : b_law_cell_right_5 D (c12 ks xs u (some (intsL (dueL ks xs))) (some (histD ks xs)) (some (intsL (dueL ks xs))) none none none none none none) M) : b_law_cell_right_3 D (c12 ks xs u (some (intsL (dueL ks xs))) (some (histD ks xs)) none none none none none none none) M := by
  obtain ⟨h0, hx, hk, l1, l7⟩ := id h
  have dl := due_len (ks := ks) (xs := xs)
  unfold b_law_cell_right_3
  refine seq_hide fun N hN => ?_
  have go : N (c12 ks xs u (some (intsL (dueL ks xs))) (some (histD ks xs)) (some (intsL (dueL ks xs))) none none none none none none) M := hN _ _ (by
    unfold b_law_cell_right_4
    refine seq_hide fun N4 hN4 => ?_
    refine if_hide fun T U hT hU => ?_
    walk_at "m"
    refine same_ints (n := 2) (by omega) (by omega) ?_
    walk_at "m"
    refine repr_hist7 h (repr_hist7 h ⟨⟨rfl, Nat.zero_le _⟩, ⟨rfl, Nat.zero_le _⟩, ite2 (fun e => by
      have e : decide (reprD (histD ks xs) = reprD (histD ks xs)) = false := e
      simp at e) (fun _ => hU _ (next_run (hN4 _ _ k)))⟩))
  walk_at "m"
  exact ite2 (fun _ => bad_keys_ok h0 go) (fun _ => bad_keys_ok h0 go)
theorem cr_5 (h : Drawn7 ks xs) (k : ∀ wv pv, Wv ks xs wv → Wv ks xs pv → b_law_cell_right_6 D (c12 ks xs u (some (intsL (dueL ks xs))) (some (histD ks xs)) (some (intsL (dueL ks xs))) (some wv) (some pv) none none none none) M) : b_law_cell_right_5 D (c12 ks xs u (some (intsL (dueL ks xs))) (some (histD ks xs)) (some (intsL (dueL ks xs))) none none none none none none) M := by
  obtain ⟨h0, hx, hk, l1, l7⟩ := id h
  have be := be_of h0.e
  unfold b_law_cell_right_5
  refine seq_hide fun N hN => ?_
  have ww : Wv ks xs (optL (orderF xs 9 (List.range xs.length) ks)) := by
    have wi := whole_iff (ks := ks) be h0.l
    cases e : orderF xs 9 (List.range xs.length) ks with
    | none => exact .inl ⟨wi.1 e, rfl⟩
    | some o =>
      have so := order_some be List.nodup_range (by rw [List.length_range]; omega) e
      refine .inr ⟨Classical.byContradiction fun z => ?_, o, so.1, so.2, rfl⟩
      have := wi.2 z
      rw [e] at this
      cases this
  have go : ∀ pv, Wv ks xs pv → N (c12 ks xs u (some (intsL (dueL ks xs))) (some (histD ks xs)) (some (intsL (dueL ks xs))) (some (optL (orderF xs 9 (List.range xs.length) ks))) (some pv) none none none none) M := fun pv hp => hN _ _ (k _ _ ww hp)
  have q0 : dueL ks xs ≠ [] → N (c12 ks xs u (some (intsL (dueL ks xs))) (some (histD ks xs)) (some (intsL (dueL ks xs))) (some (optL (orderF xs 9 (List.range xs.length) ks))) (some .non) none none none none) M := fun e => go _ (.inl ⟨e, rfl⟩)
  have q1 : dueL ks xs = [] → ∀ o : List Nat, o.Perm (List.range xs.length) → good xs ks o = true → N (c12 ks xs u (some (intsL (dueL ks xs))) (some (histD ks xs)) (some (intsL (dueL ks xs))) (some (optL (orderF xs 9 (List.range xs.length) ks))) (some (natsL o)) none none none none) M := fun e o p g => go _ (.inr ⟨e, o, p, g, rfl⟩)
  walk_at "m"
  refine serial_order_ok h0 ?_
  walk_at "m"
  exact ite2 (fun _ => order_by_ok h0 q0 q1) (fun _ => order_by_ok h0 q0 q1)
theorem cr_6 (h : Drawn7 ks xs) (hw : Wv ks xs wv) (hp : Wv ks xs pv) (k : b_law_cell_right_8 D (c12 ks xs u (some (intsL (dueL ks xs))) (some (histD ks xs)) (some (intsL (dueL ks xs))) (some wv) (some pv) none none none none) M) :
    b_law_cell_right_6 D (c12 ks xs u (some (intsL (dueL ks xs))) (some (histD ks xs)) (some (intsL (dueL ks xs))) (some wv) (some pv) none none none none) M := by
  obtain ⟨h0, hx, hk, l1, l7⟩ := id h
  have pd := plL_ints (dueL ks xs)
  have dd := dpL_ints (dueL ks xs)
  unfold b_law_cell_right_6
  refine seq_hide fun N hN => ?_
  rcases hw with ⟨e, rfl⟩ | ⟨e, o1, p1, g1, rfl⟩
  · rcases hp with ⟨_, rfl⟩ | ⟨e2, _⟩
    · have go : N (c12 ks xs u (some (intsL (dueL ks xs))) (some (histD ks xs)) (some (intsL (dueL ks xs))) (some .non) (some .non) none none none none) M := hN _ _ (by
        unfold b_law_cell_right_7
        refine seq_hide fun N7 hN7 => ?_
        have k := hN7 _ _ k
        walk_at "m"
        exact k)
      have en : eqL ((dueL ks xs).map Da.int) [] = false := by
        rw [eqL_nil, List.isEmpty_map]
        cases c : dueL ks xs with
        | nil => exact absurd c e
        | cons _ _ => rfl
      unfold intsL at go ⊢
      generalize (dueL ks xs).map Da.int = dm at *
      walk_at "m"
      exact ⟨⟨pd, by omega⟩, ite2 (fun c => absurd (show true = !eqL dm [] by rw [en]; rfl) c) (fun _ => ⟨⟨pd, by omega⟩, ite2 (fun c => absurd (show true = !eqL dm [] by rw [en]; rfl) c) (fun _ => go)⟩)⟩
    · exact absurd e2 e
  · rcases hp with ⟨e2, _⟩ | ⟨_, o2, p2, g2, rfl⟩
    · exact absurd e e2
    · have go : N (c12 ks xs u (some (intsL (dueL ks xs))) (some (histD ks xs)) (some (intsL (dueL ks xs))) (some (natsL o1)) (some (natsL o2)) none none none none) M := hN _ _ (by
        unfold b_law_cell_right_7
        refine seq_hide fun N7 hN7 => ?_
        have k := hN7 _ _ k
        unfold natsL at k ⊢
        walk_at "m"
        refine explains_nats h0 p1 ?_
        rw [g1]
        walk_at "m"
        refine explains_nats h0 p2 ?_
        rw [g2]
        walk_at "m"
        exact k)
      rw [e] at go ⊢
      unfold natsL intsL at go ⊢
      walk_at "m"
      exact go
theorem cr_10 (h : Drawn7 ks xs) {s8 s9 s11 : Option Da} (pk : ks'.Perm ks) (p : xs'.Perm xs) (k : D.rt (.bl true) M) :
    b_law_cell_right_10 D (c12 ks xs u (some (intsL (dueL ks xs))) (some (histD ks xs)) (some (intsL (dueL ks xs))) (some wv) (some pv) s8 s9 (some (.tup [intsL ks', .lst (xs'.map entD)])) s11) M := by
  obtain ⟨h0, hx, hk, l1, l7⟩ := id h
  have h1 := h0.of_perm pk p
  have ed := due_perm h0 pk p
  have dl := due_len (ks := ks) (xs := xs)
  have pd := plL_ints (dueL ks xs)
  have dd := dpL_ints (dueL ks xs)
  unfold b_law_cell_right_10
  walk_at "m"
  refine bad_keys_ok h1 ?_
  rw [ed]
  refine same_ints (n := 2) (by omega) (by omega) ?_
  walk_at "m"
  refine order_by_ok h1 (fun e => ?_) (fun e o po go => ?_)
  · rw [ed] at e
    have en : eqL ((dueL ks xs).map Da.int) [] = false := by
      rw [eqL_nil, List.isEmpty_map]
      cases c : dueL ks xs with
      | nil => exact absurd c e
      | cons _ _ => rfl
    walk_at "m"
    refine ⟨⟨pd, by omega⟩, ?_⟩
    have er : decide (nonD .non = !eqL ((dueL ks xs).map Da.int) []) = true := by
      rw [en]
      rfl
    show D.rt (Da.bl (decide (nonD .non = !eqL ((dueL ks xs).map Da.int) []))) M
    rw [er]
    exact k
  · rw [ed] at e
    rw [e]
    walk_at "m"
    exact k
theorem cr_9 (h : Drawn7 ks xs) (B : BoxQ n b) (hn : n ≤ 900000) {s8 s9 s11 : Option Da} (k : ∀ b', D.rt (.bl true) (b' :: R)) :
    b_law_cell_right_9 D (c12 ks xs u (some (intsL (dueL ks xs))) (some (histD ks xs)) (some (intsL (dueL ks xs))) (some wv) (some pv) s8 s9 none s11) (b :: R) := by
  obtain ⟨h0, hx, hk, l1, l7⟩ := id h
  have kl := hk.l
  unfold b_law_cell_right_9
  refine seq_hide fun N hN => ?_
  unfold histD
  walk_at "m"
  refine mixedL_ok B (by omega) (plL_ints ks) (by rw [dpL_ints]; omega) (by rw [List.length_map]; omega) (fun b1 es B1 p1 => ?_)
  obtain ⟨ks', pk, rfl⟩ := perm_lift Da.int p1
  rw [List.length_map] at B1
  walk_at "m"
  refine mixedL_ok B1 (by omega) (ents_pl xs).1 (Nat.le_trans (ents_pl xs).2 (by omega)) (by rw [List.length_map]; omega) (fun b2 es B2 p2 => ?_)
  obtain ⟨xs', px, rfl⟩ := perm_lift entD p2
  walk_at "m"
  exact hN _ _ (cr_10 h pk px (k b2))
theorem cr_8 (h : Drawn7 ks xs) (k : ∀ s8 s9 s11, b_law_cell_right_9 D (c12 ks xs u (some (intsL (dueL ks xs))) (some (histD ks xs)) (some (intsL (dueL ks xs))) (some wv) (some pv) s8 s9 none s11) M) :
    b_law_cell_right_8 D (c12 ks xs u (some (intsL (dueL ks xs))) (some (histD ks xs)) (some (intsL (dueL ks xs))) (some wv) (some pv) none none none none) M := by
  obtain ⟨h0, hx, hk, l1, l7⟩ := id h
  have pd := plL_ints (dueL ks xs)
  have dd := dpL_ints (dueL ks xs)
  unfold b_law_cell_right_8
  refine seq_hide fun N hN => ?_
  unfold histD
  walk_at "m"
  refine ⟨by rw [List.length_map]; omega, ?_⟩
  refine lcL_xs entD xs (fun _ => true) (fun x => .tup [.int x.y, .int 1]) (fun x => c12 ks xs u (some (intsL (dueL ks xs))) (some (histD ks xs)) (some (intsL (dueL ks xs))) (some wv) (some pv) none none none (some (entD x))) (fun x hx R r => r) (fun x hx R r => r) (fun x hx _ R r => ?_) rfl ?_
  · walk_at "m"
    simp only [ent_look]
    walk_at "m"
    exact r
  rw [filt_true]
  walk_at "m"
  have em : (xs.map fun x => Da.tup [.int x.y, .int 1]) = (xs.map (·.y)).map fun z => Da.tup [.int z, .int 1] := by rw [List.map_map]; rfl
  rw [em, pairsD_ints]
  obtain ⟨ns, ek, nw, ok⟩ := keysD_ints xs
  refine ⟨ok, ?_⟩
  have ek : (mergeD [] ((xs.map (·.y)).map fun z => ((Sum.inl z : Key), Da.int 1))).map (fun p => keyV p.1) = ns.map Da.int := ek
  rw [ek]
  refine forL_xs Da.int ns (fun p r ρ M' => M = M' ∧ ∃ s8 s9 s11, ρ = c12 ks xs u (some (intsL (dueL ks xs))) (some (histD ks xs)) (some (intsL (dueL ks xs))) (some wv) (some pv) s8 s9 none s11) ⟨rfl, none, none, none, rfl⟩ ?_ ?_
  · rintro p z r _ _ e ⟨rfl, s8, s9, s11, rfl⟩ C hC
    have zn : z ∈ ns := by rw [e]; simp
    walk_at "m"
    unfold l_law_cell_right_1
    refine seq_hide fun N2 hN2 => ?_
    unfold histD
    walk_at "m"
    refine ⟨by rw [List.length_map]; omega, ?_⟩
    refine lcL_xs entD xs (fun x => decide (x.y = z)) entD (fun x => c12 ks xs u (some (intsL (dueL ks xs))) (some (histD ks xs)) (some (intsL (dueL ks xs))) (some wv) (some pv) (some (.int z)) s9 none (some (entD x))) (fun x hx R r => r) (fun x hx R r => ?_) (fun x hx _ R r => r) trivial ?_
    · walk_at "m"
      simp only [ent_look]
      walk_at "m"
      exact r
    have eo : xs.filter (fun x => decide (x.y = z)) = ofK z xs := rfl
    rw [eo]
    walk_at "m"
    refine hN2 _ _ ?_
    unfold b_law_cell_right_L1_1
    refine if_hide fun T U hT hU => ?_
    walk_at "m"
    refine serial_order_ok (h0.one z) ?_
    have fin : U M := hU _ (next_run (hC _ _ _ _ .same (by trivial) ⟨rfl, _, _, _, rfl⟩))
    have ez := alone_bad h0 z
    have mz : decide (z ∈ dueL ks xs) = badB ks xs z := by
      rw [Bool.eq_iff_iff, decide_eq_true_eq]
      exact ⟨fun h => (List.mem_filter.1 h).2, fun h => List.mem_filter.2 ⟨nw z zn, h⟩⟩
    have ea := anyI z (dueL ks xs)
    rw [mz, ← ez] at ea
    cases eq : orderF (ofK z xs) 9 (List.range (ofK z xs).length) ks with
    | none =>
      rw [eq] at ea
      unfold optL
      walk_at "m"
      exact ⟨⟨pd, by omega⟩, ite2 (fun c => absurd (show true = anyEq (.int z) ((dueL ks xs).map Da.int) by rw [ea]; rfl) c) (fun _ => fin)⟩
    | some o =>
      rw [eq] at ea
      unfold optL
      walk_at "m"
      exact ⟨⟨pd, by omega⟩, ite2 (fun c => absurd (show false = anyEq (.int z) ((dueL ks xs).map Da.int) by rw [ea]; rfl) c) (fun _ => fin)⟩
  · rintro _ _ ⟨rfl, s8, s9, s11, rfl⟩
    exact hN _ _ (k s8 s9 s11)
theorem cell_right_ok (B : BoxQ 0 b) (q : ∀ S, Q (.bl true) S) : f_law_cell_right [.cell 0] [b] Q E := by
  unfold f_law_cell_right m_law_cell_right
  walk_at "m1"
  intro cM cD
  refine seq_hide fun N hN => ?_
  walk_at "m"
  refine takeQ_ok (m := 2) B (by decide) (by decide) (by decide) (fun i b1 B1 h0 h1 => ?_)
  walk_at "m"
  refine hN _ _ ?_
  unfold b_law_cell_right_1
  refine seq_hide fun N1 hN1 => ?_
  walk_at "m"
  refine history7_ok B1 (by decide) (fun b2 ks xs B2 dr => ?_)
  refine hN1 _ _ ?_
  exact cr_2 (u := decide (i = 1)) dr (cr_3 dr (cr_5 dr fun wv pv hw hp => cr_6 dr hw hp (cr_8 dr fun s8 s9 s11 => cr_9 (n := 0 + 1 + 5000) dr B2 (by omega) fun b' => leave_same (q _))))
theorem law_true : ∀ ns : List Int, ns.length ≤ 63 → f_law [.kl (ns.map Da.int)] [] (fun d _ => d = .bl true) XD0 := by
  intro ns hl
  unfold f_law m_law
  walk_at "m1"
  intro cM cD
  refine seq_hide fun N hN => ?_
  walk_at "m"
  refine ⟨by decide, by decide, ?_⟩
  refine forL_ind (fun k ρ M => M = [] ∧ ∃ s, ρ = [some (.kl (ns.map Da.int)), s]) ⟨rfl, _, rfl⟩ ?_ ?_
  · rintro k d ρ M hd ⟨rfl, s, rfl⟩ C hC
    obtain ⟨hk, rfl⟩ := rngD_at hd
    have hk : k < 8 := hk
    walk_at "m"
    refine cellQ_ok (by omega) (by omega) (fun n => ?_)
    walk_at "m"
    refine boxQ_ok (fun b B => ?_)
    refine cell_right_ok B (fun S => ?_)
    walk_at "m"
    refine hC _ _ [some (.kl (ns.map Da.int)), none] [] (.inr ⟨Nat.zero_le _, rfl, rfl, slClo_keep (cloL_all.1 cD _ (by simp)) (slClo_none slClo_nil)⟩) (by trivial) ⟨rfl, _, rfl⟩
  · rintro ρ M ⟨rfl, s, rfl⟩
    refine hN _ _ ?_
    walk_at "m"
    exact leave_same rfl
end
end Z
namespace Z
open PySem PySem.Spec PyProof.Rows L2 Evl
structure Txt (P : Program) (w : World) (K : PySem.W.Frag) (mg : Str → Option Value) : Prop where
  b_abs : mg "abs" = none
  b_all : mg "all" = none
  b_any : mg "any" = none
  b_bool : mg "bool" = none
  b_dict : mg "dict" = none
  b_enumerate : mg "enumerate" = none
  b_int : mg "int" = none
  b_isinstance : mg "isinstance" = none
  b_len : mg "len" = none
  b_list : mg "list" = none
  b_min : mg "min" = none
  b_range : mg "range" = none
  b_repr : mg "repr" = none
  b_set : mg "set" = none
  b_sorted : mg "sorted" = none
  b_str : mg "str" = none
  b_sum : mg "sum" = none
  b_super : mg "super" = none
  b_tuple : mg "tuple" = none
  g_ASKED : mg "ASKED" = some (.ref (He.ga K "ASKED"))
  c_DONE : ∃ t, mg "DONE" = some (.str "done" t)
  g_InvalidHistory : mg "InvalidHistory" = some (.ref (He.ga K "InvalidHistory"))
  c_MOST_ENTRIES : ∃ t, mg "MOST_ENTRIES" = some (.int 8 t)
  c_REFUSED : ∃ t, mg "REFUSED" = some (.str "refused" t)
  x_InvalidHistory : PySem.Sxvalue.Txt P K mg "InvalidHistory" (He.ga K "InvalidHistory") (He.ma K (He.ga K "InvalidHistory") "__init__")
  tbl : Tbl K
section
variable {P : Program} {w : World} {K : PySem.W.Frag} {mg : Str → Option Value} {base : Heap}
theorem sc_is_integer : FnScope ["value"] ["value"] (defScope s_is_integer) := ⟨rfl, rfl, rfl, by decide +kernel, rfl, by decide +kernel, by decide +kernel⟩
theorem okf_is_integer {fd : FuncData} (T : Txt P w K mg) (F : FunD K "is_integer" "is_integer" (defArgs s_is_integer) (defBody s_is_integer) (defScope s_is_integer) [] [] (He.ga K "is_integer") fd)   : FnOk P w K mg base CX0 1 (He.ga K "is_integer") fd ["value"] (sp_is_integer K) := by
  have nd := sc_is_integer.nd
  refine F.ok (k := 0) sc_is_integer (len_is_integer K) (fun cdv A outer s H vs Q E hr h => ⟨t_is_integer K, PSs.nox ?_, pure_is_integer K vs H Q E h⟩)
  have hu : (A.deeper (envOfC "is_integer" (defScope s_is_integer) s.heap.objs.size (He.ga K "is_integer") cdv)).units + 64 < cLine := by
    have h1 := hr.un
    omega
  skip
  exact (pss_one (ps_ret ((pe_and (pe_callB call_isi (by rfl) T.b_isinstance (by decide +kernel) (pa_cons (pv 0) (pa_cons (pe_bltn (by rfl) T.b_int (by decide +kernel) rfl) pa_nil))) (pe_one (pe_not (pe_callB call_isi (by rfl) T.b_isinstance (by decide +kernel) (pa_cons (pv 0) (pa_cons (pe_bltn (by rfl) T.b_bool (by decide +kernel) rfl) pa_nil)))))))))
theorem ok_is_integer (T : Txt P w K mg) (FD : ∃ fd, FunD K "is_integer" "is_integer" (defArgs s_is_integer) (defBody s_is_integer) (defScope s_is_integer) [] [] (He.ga K "is_integer") fd) (hm : mg "is_integer" = some (.ref (He.ga K "is_integer")))   : Fok P w K mg base CX0 1 "is_integer" ["value"] (sp_is_integer K) := by
  obtain ⟨fd, F⟩ := FD
  exact ⟨⟨fd, okf_is_integer T F  , F.bindsN fun _ _ _ _ _ _ us hl => match us, hl with | [_], _ => rfl⟩, hm, F.kp⟩
theorem sc_is_entry : FnScope ["value", "begun", "ended", "asked", "told"] ["value"] (defScope s_is_entry) := ⟨rfl, rfl, rfl, by decide +kernel, rfl, by decide +kernel, by decide +kernel⟩
theorem okf_is_entry {fd : FuncData} (T : Txt P w K mg) (F : FunD K "is_entry" "is_entry" (defArgs s_is_entry) (defBody s_is_entry) (defScope s_is_entry) [] [] (He.ga K "is_entry") fd) (F_is_integer : Fok P w K mg base CX0 1 "is_integer" ["value"] (sp_is_integer K))  : FnOk P w K mg base CX0 2 (He.ga K "is_entry") fd ["value"] (sp_is_entry K) := by
  have nd := sc_is_entry.nd
  refine F.ok (k := 1) sc_is_entry (len_is_entry K) (fun cdv A outer s H vs Q E hr h => ⟨t_is_entry K, PSs.nox ?_, pure_is_entry K vs H Q E T.tbl h⟩)
  have hu : (A.deeper (envOfC "is_entry" (defScope s_is_entry) s.heap.objs.size (He.ga K "is_entry") cdv)).units + 64 < cLine := by
    have h1 := hr.un
    omega
  skip
  exact (pss_cons (ps_if (PW.pt (pw_or (pt_not (pt_val (pe_callB call_isi (by rfl) T.b_isinstance (by decide +kernel) (pa_cons (pv 0) (pa_cons (pe_bltn (by rfl) T.b_tuple (by decide +kernel) rfl) pa_nil))))) (pw_or (pt_cmpR (op_neA hu) (pe_callB call_lenB (by rfl) T.b_len (by decide +kernel) (pa_cons (pv 0) pa_nil)) (pe_int) (nomark _)) (pw_or (pt_not (pt_val (pe_callF F_is_integer (hr.mono (by decide)) (by rfl) pass0 (pa_cons (pe_ix (ix_B hu) (pv 0) (pe_int) (fun _ _ => rfl)) pa_nil)))) (pw_or1 (pt_not (pt_val (pe_callF F_is_integer (hr.mono (by decide)) (by rfl) pass0 (pa_cons (pe_ix (ix_B hu) (pv 0) (pe_int) (fun _ _ => rfl)) pa_nil))))))))) (pss_one (ps_ret (pe_bl))) pss_nil)
    (pss_cons (ps_asg (pv 0) (pg_tup (by rfl) (pgs_cons (pg_name (i := 1) nd (by rfl) (by first | exact Or.inl rfl | exact Or.inr rfl)) (pgs_cons (pg_name (i := 2) nd (by rfl) (by first | exact Or.inl rfl | exact Or.inr rfl)) (pgs_cons (pg_name (i := 3) nd (by rfl) (by first | exact Or.inl rfl | exact Or.inr rfl)) (pgs_cons (pg_name (i := 4) nd (by rfl) (by first | exact Or.inl rfl | exact Or.inr rfl)) pgs_nil))))))
    (pss_cons (ps_if (PW.pt (pw_or (pt_cmpR op_geA (pv 1) (pv 2) (nomark _)) (pw_or (pt_not (pt_val (pe_callB call_isi (by rfl) T.b_isinstance (by decide +kernel) (pa_cons (pv 3) (pa_cons (pe_bltn (by rfl) T.b_tuple (by decide +kernel) rfl) pa_nil))))) (pw_or (pt_cmpR (op_neA hu) (pe_callB call_lenB (by rfl) T.b_len (by decide +kernel) (pa_cons (pv 3) pa_nil)) (pe_int) (nomark _)) (pw_or1 (pt_not (pt_val (pe_callB call_isi (by rfl) T.b_isinstance (by decide +kernel) (pa_cons (pe_ix (ix_B hu) (pv 3) (pe_int) (fun _ _ => rfl)) (pa_cons (pe_bltn (by rfl) T.b_str (by decide +kernel) rfl) pa_nil)))))))))) (pss_one (ps_ret (pe_bl))) pss_nil)
    (pss_cons (ps_if (PW.pt (pw_or (pt_cmpR (op_ninB hu) (pe_ix (ix_B hu) (pv 3) (pe_int) (fun _ _ => rfl)) (pe_glob (by rfl) T.g_ASKED rfl) (by rfl)) (pw_or1 (pt_not (pt_val (pe_callF F_is_integer (hr.mono (by decide)) (by rfl) pass0 (pa_cons (pe_ix (ix_B hu) (pv 3) (pe_int) (fun _ _ => rfl)) pa_nil))))))) (pss_one (ps_ret (pe_bl))) pss_nil)
    (pss_one (ps_ret (pe_ifExp (pt_cmpR (op_eqA hu) (pe_ix (ix_B hu) (pv 3) (pe_int) (fun _ _ => rfl)) (pe_str) (nomark _)) (pe_cmpR (op_inB hu) (pv 4) (pe_tup (pa_cons (pe_gstr (by rfl) T.c_DONE) (pa_cons (pe_gstr (by rfl) T.c_REFUSED) pa_nil))) (by rfl)) (pe_callF F_is_integer (hr.mono (by decide)) (by rfl) pass0 (pa_cons (pv 4) pa_nil)))))))))
theorem ok_is_entry (T : Txt P w K mg) (FD : ∃ fd, FunD K "is_entry" "is_entry" (defArgs s_is_entry) (defBody s_is_entry) (defScope s_is_entry) [] [] (He.ga K "is_entry") fd) (hm : mg "is_entry" = some (.ref (He.ga K "is_entry"))) (F_is_integer : Fok P w K mg base CX0 1 "is_integer" ["value"] (sp_is_integer K))  : Fok P w K mg base CX0 2 "is_entry" ["value"] (sp_is_entry K) := by
  obtain ⟨fd, F⟩ := FD
  exact ⟨⟨fd, okf_is_entry T F F_is_integer , F.bindsN fun _ _ _ _ _ _ us hl => match us, hl with | [_], _ => rfl⟩, hm, F.kp⟩
theorem sc_is_history : FnScope ["value", "keys", "entries", "times", "key", "entry", "time"] ["value"] (defScope s_is_history) := ⟨rfl, rfl, rfl, by decide +kernel, rfl, by decide +kernel, by decide +kernel⟩
theorem okf_is_history {fd : FuncData} (T : Txt P w K mg) (F : FunD K "is_history" "is_history" (defArgs s_is_history) (defBody s_is_history) (defScope s_is_history) [] [] (He.ga K "is_history") fd) (F_is_integer : Fok P w K mg base CX0 1 "is_integer" ["value"] (sp_is_integer K)) (F_is_entry : Fok P w K mg base CX0 2 "is_entry" ["value"] (sp_is_entry K))  : FnOk P w K mg base CX0 3 (He.ga K "is_history") fd ["value"] (sp_is_history K) := by
  have nd := sc_is_history.nd
  refine F.ok (k := 2) sc_is_history (len_is_history K) (fun cdv A outer s H vs Q E hr h => ⟨t_is_history K, PSs.nox ?_, pure_is_history K vs H Q E h⟩)
  have hu : (A.deeper (envOfC "is_history" (defScope s_is_history) s.heap.objs.size (He.ga K "is_history") cdv)).units + 64 < cLine := by
    have h1 := hr.un
    omega
  skip
  exact (pss_cons (ps_if (PW.pt (pw_or (pt_not (pt_val (pe_callB call_isi (by rfl) T.b_isinstance (by decide +kernel) (pa_cons (pv 0) (pa_cons (pe_bltn (by rfl) T.b_tuple (by decide +kernel) rfl) pa_nil))))) (pw_or1 (pt_cmpR (op_neA hu) (pe_callB call_lenB (by rfl) T.b_len (by decide +kernel) (pa_cons (pv 0) pa_nil)) (pe_int) (nomark _))))) (pss_one (ps_ret (pe_bl))) pss_nil)
    (pss_cons (ps_asg (pv 0) (pg_tup (by rfl) (pgs_cons (pg_name (i := 1) nd (by rfl) (by first | exact Or.inl rfl | exact Or.inr rfl)) (pgs_cons (pg_name (i := 2) nd (by rfl) (by first | exact Or.inl rfl | exact Or.inr rfl)) pgs_nil))))
    (pss_cons (ps_if (PW.pt (pw_or (pt_not (pt_val (pe_callB call_isi (by rfl) T.b_isinstance (by decide +kernel) (pa_cons (pv 1) (pa_cons (pe_bltn (by rfl) T.b_list (by decide +kernel) rfl) pa_nil))))) (pw_or1 (pt_not (pt_val (pe_callB call_isi (by rfl) T.b_isinstance (by decide +kernel) (pa_cons (pv 2) (pa_cons (pe_bltn (by rfl) T.b_list (by decide +kernel) rfl) pa_nil)))))))) (pss_one (ps_ret (pe_bl))) pss_nil)
    (pss_cons (ps_if (PW.pt (pw_or (pt_not (pt_val (pe_callB (cr_all rfl) (by rfl) T.b_all (by decide +kernel) (pa_cons (pe_lc (own := [("key", 4)]) rfl nd (pi_seq (pv 1)) (blkOk_by (own := [("key", 4)]) (N := ["value", "keys", "entries", "times", "key", "entry", "time"]) (sc := defScope s_is_history) (by decide +kernel)) (fun _ _ _ _ _ => (pg_name (i := 4) nd (by rfl) (by first | exact Or.inl rfl | exact Or.inr rfl))) (fun _ _ _ _ _ => pts_nil) (fun _ _ _ _ _ => (pe_callF F_is_integer (hr.mono (by decide)) (by rfl) pass0 (pa_cons (pv 4) pa_nil)))) pa_nil)))) (pw_or1 (pt_cmpR (op_neA hu) (pe_lenSet (by rfl) T.b_len (by rfl) T.b_set (pv 1)) (pe_callB call_lenB (by rfl) T.b_len (by decide +kernel) (pa_cons (pv 1) pa_nil)) (nomark _))))) (pss_one (ps_ret (pe_bl))) pss_nil)
    (pss_cons (ps_if (PW.pt (pw_or (pt_cmpR op_gtA (pe_callB call_lenB (by rfl) T.b_len (by decide +kernel) (pa_cons (pv 2) pa_nil)) (pe_gint (by rfl) T.c_MOST_ENTRIES) (nomark _)) (pw_or1 (pt_not (pt_val (pe_callB (cr_all rfl) (by rfl) T.b_all (by decide +kernel) (pa_cons (pe_lc (own := [("entry", 5)]) rfl nd (pi_seq (pv 2)) (blkOk_by (own := [("entry", 5)]) (N := ["value", "keys", "entries", "times", "key", "entry", "time"]) (sc := defScope s_is_history) (by decide +kernel)) (fun _ _ _ _ _ => (pg_name (i := 5) nd (by rfl) (by first | exact Or.inl rfl | exact Or.inr rfl))) (fun _ _ _ _ _ => pts_nil) (fun _ _ _ _ _ => (pe_callF F_is_entry (hr.mono (by decide)) (by rfl) pass0 (pa_cons (pv 5) pa_nil)))) pa_nil))))))) (pss_one (ps_ret (pe_bl))) pss_nil)
    (pss_cons (ps_setLc2 (own := [("entry", 5), ("time", 6)]) (i := 3) rfl nd rfl rfl (sw_true rfl rfl rfl (by decide +kernel)) (vs1 := [6]) (pi_seq (pv 2)) (blkOk_by (own := [("entry", 5), ("time", 6)]) (N := ["value", "keys", "entries", "times", "key", "entry", "time"]) (sc := defScope s_is_history) (by decide +kernel)) (by decide) (fun _ _ _ _ _ => (pg_name (i := 5) nd (by rfl) (by first | exact Or.inl rfl | exact Or.inr rfl))) (fun _ _ _ _ _ => pts_nil) (fun _ _ _ _ _ => (pi_seq (pe_slice sl_A (pv 5) po_none (po_some (pe_int))))) (fun _ _ _ _ _ => (pg_name (i := 6) nd (by rfl) (by first | exact Or.inl rfl | exact Or.inr rfl))) (fun _ _ _ _ _ => pts_nil) (fun _ _ _ _ _ => (pv 6)))
    (pss_one (ps_ret (pe_cmpR (op_eqA hu) (pe_lenSet (by rfl) T.b_len (by rfl) T.b_set (pv 3)) (pe_callB call_lenB (by rfl) T.b_len (by decide +kernel) (pa_cons (pv 3) pa_nil)) (nomark _))))))))))
theorem ok_is_history (T : Txt P w K mg) (FD : ∃ fd, FunD K "is_history" "is_history" (defArgs s_is_history) (defBody s_is_history) (defScope s_is_history) [] [] (He.ga K "is_history") fd) (hm : mg "is_history" = some (.ref (He.ga K "is_history"))) (F_is_integer : Fok P w K mg base CX0 1 "is_integer" ["value"] (sp_is_integer K)) (F_is_entry : Fok P w K mg base CX0 2 "is_entry" ["value"] (sp_is_entry K))  : Fok P w K mg base CX0 3 "is_history" ["value"] (sp_is_history K) := by
  obtain ⟨fd, F⟩ := FD
  exact ⟨⟨fd, okf_is_history T F F_is_integer F_is_entry , F.bindsN fun _ _ _ _ _ _ us hl => match us, hl with | [_], _ => rfl⟩, hm, F.kp⟩
theorem sc_need_history : FnScope ["history"] ["history"] (defScope s_need_history) := ⟨rfl, rfl, rfl, by decide +kernel, rfl, by decide +kernel, by decide +kernel⟩
theorem okf_need_history {fd : FuncData} (T : Txt P w K mg) (F : FunD K "need_history" "need_history" (defArgs s_need_history) (defBody s_need_history) (defScope s_need_history) [] [] (He.ga K "need_history") fd) (F_is_history : Fok P w K mg base CX0 3 "is_history" ["value"] (sp_is_history K))  : FnOk P w K mg base (L2.CX P w) 4 (He.ga K "need_history") fd ["history"] (sp_need_history K) := by
  have nd := sc_need_history.nd
  refine F.ok (k := 3) sc_need_history (len_need_history K) (fun cdv A outer s H vs Q E hr h => ⟨t_need_history K E, ?_, pure_need_history K vs H Q E h⟩)
  have hu : (A.deeper (envOfC "need_history" (defScope s_need_history) s.heap.objs.size (He.ga K "need_history") cdv)).units + 64 < cLine := by
    have h1 := hr.un
    omega
  unfold t_need_history tw_need_history
  exact (pss_one (ps_if (pt_not (pt_val (pe_callF F_is_history (hr.mono (by decide)) (by rfl) pass0 (pa_cons (pv 0) pa_nil)))) (pss_one (ps_raisevalue (k := 1) rfl T.x_InvalidHistory (hr.mono (by decide)) (takes_of rfl rfl rfl rfl) (pa_cons (pv 0) pa_nil) (by rfl))) pss_nil))
theorem ok_need_history (T : Txt P w K mg) (FD : ∃ fd, FunD K "need_history" "need_history" (defArgs s_need_history) (defBody s_need_history) (defScope s_need_history) [] [] (He.ga K "need_history") fd) (hm : mg "need_history" = some (.ref (He.ga K "need_history"))) (F_is_history : Fok P w K mg base CX0 3 "is_history" ["value"] (sp_is_history K))  : Fok P w K mg base (L2.CX P w) 4 "need_history" ["history"] (sp_need_history K) := by
  obtain ⟨fd, F⟩ := FD
  exact ⟨⟨fd, okf_need_history T F F_is_history , F.bindsN fun _ _ _ _ _ _ us hl => match us, hl with | [_], _ => rfl⟩, hm, F.kp⟩
theorem sc_fits_now : FnScope ["entry", "there", "begun", "ended", "asked", "told"] ["entry", "there"] (defScope s_fits_now) := ⟨rfl, rfl, rfl, by decide +kernel, rfl, by decide +kernel, by decide +kernel⟩
theorem okf_fits_now {fd : FuncData} (T : Txt P w K mg) (F : FunD K "fits_now" "fits_now" (defArgs s_fits_now) (defBody s_fits_now) (defScope s_fits_now) [] [] (He.ga K "fits_now") fd)   : FnOk P w K mg base CX0 1 (He.ga K "fits_now") fd ["entry", "there"] (sp_fits_now K) := by
  have nd := sc_fits_now.nd
  refine F.ok (k := 0) sc_fits_now (len_fits_now K) (fun cdv A outer s H vs Q E hr h => ⟨t_fits_now K, PSs.nox ?_, pure_fits_now K vs H Q E h⟩)
  have hu : (A.deeper (envOfC "fits_now" (defScope s_fits_now) s.heap.objs.size (He.ga K "fits_now") cdv)).units + 64 < cLine := by
    have h1 := hr.un
    omega
  skip
  exact (pss_cons (ps_asg (pv 0) (pg_tup (by rfl) (pgs_cons (pg_name (i := 2) nd (by rfl) (by first | exact Or.inl rfl | exact Or.inr rfl)) (pgs_cons (pg_name (i := 3) nd (by rfl) (by first | exact Or.inl rfl | exact Or.inr rfl)) (pgs_cons (pg_name (i := 4) nd (by rfl) (by first | exact Or.inl rfl | exact Or.inr rfl)) (pgs_cons (pg_name (i := 5) nd (by rfl) (by first | exact Or.inl rfl | exact Or.inr rfl)) pgs_nil))))))
    (pss_cons (ps_if (pt_cmpR (op_eqA hu) (pe_ix (ix_B hu) (pv 4) (pe_int) (fun _ _ => rfl)) (pe_str) (nomark _)) (pss_one (ps_ret (pe_cmpR (op_eqA hu) (pe_cmpR (op_eqA hu) (pv 5) (pe_gstr (by rfl) T.c_REFUSED) (nomark _)) (pv 1) (nomark _)))) pss_nil)
    (pss_one (ps_ret (pe_cmpR (op_eqA hu) (pv 5) (pe_callTy call_intA (by rfl) T.b_int (by decide +kernel) (pa_cons (pv 1) pa_nil)) (nomark _))))))
theorem ok_fits_now (T : Txt P w K mg) (FD : ∃ fd, FunD K "fits_now" "fits_now" (defArgs s_fits_now) (defBody s_fits_now) (defScope s_fits_now) [] [] (He.ga K "fits_now") fd) (hm : mg "fits_now" = some (.ref (He.ga K "fits_now")))   : Fok P w K mg base CX0 1 "fits_now" ["entry", "there"] (sp_fits_now K) := by
  obtain ⟨fd, F⟩ := FD
  exact ⟨⟨fd, okf_fits_now T F  , F.bindsN fun _ _ _ _ _ _ us hl => match us, hl with | [_, _], _ => rfl⟩, hm, F.kp⟩
theorem sc_row_after : FnScope ["entry", "there"] ["entry", "there"] (defScope s_row_after) := ⟨rfl, rfl, rfl, by decide +kernel, rfl, by decide +kernel, by decide +kernel⟩
theorem okf_row_after {fd : FuncData} (T : Txt P w K mg) (F : FunD K "row_after" "row_after" (defArgs s_row_after) (defBody s_row_after) (defScope s_row_after) [] [] (He.ga K "row_after") fd)   : FnOk P w K mg base CX0 1 (He.ga K "row_after") fd ["entry", "there"] (sp_row_after K) := by
  have nd := sc_row_after.nd
  refine F.ok (k := 0) sc_row_after (len_row_after K) (fun cdv A outer s H vs Q E hr h => ⟨t_row_after K, PSs.nox ?_, pure_row_after K vs H Q E h⟩)
  have hu : (A.deeper (envOfC "row_after" (defScope s_row_after) s.heap.objs.size (He.ga K "row_after") cdv)).units + 64 < cLine := by
    have h1 := hr.un
    omega
  skip
  exact (pss_cons (ps_if (pt_cmpR (op_eqA hu) (pe_ix (ix_B hu) (pe_ix (ix_B hu) (pv 0) (pe_int) (fun _ _ => rfl)) (pe_int) (fun _ _ => rfl)) (pe_str) (nomark _)) (pss_one (ps_ret (pe_bl))) pss_nil)
    (pss_one (ps_ret ((pe_or (pv 1) (pe_one (pe_cmpR (op_eqA hu) (pe_ix (ix_B hu) (pe_ix (ix_B hu) (pv 0) (pe_int) (fun _ _ => rfl)) (pe_int) (fun _ _ => rfl)) (pe_str) (nomark _))))))))
theorem ok_row_after (T : Txt P w K mg) (FD : ∃ fd, FunD K "row_after" "row_after" (defArgs s_row_after) (defBody s_row_after) (defScope s_row_after) [] [] (He.ga K "row_after") fd) (hm : mg "row_after" = some (.ref (He.ga K "row_after")))   : Fok P w K mg base CX0 1 "row_after" ["entry", "there"] (sp_row_after K) := by
  obtain ⟨fd, F⟩ := FD
  exact ⟨⟨fd, okf_row_after T F  , F.bindsN fun _ _ _ _ _ _ us hl => match us, hl with | [_, _], _ => rfl⟩, hm, F.kp⟩
theorem sc_may_come : FnScope ["entries", "left", "number", "other"] ["entries", "left", "number"] (defScope s_may_come) := ⟨rfl, rfl, rfl, by decide +kernel, rfl, by decide +kernel, by decide +kernel⟩
theorem okf_may_come {fd : FuncData} (T : Txt P w K mg) (F : FunD K "may_come" "may_come" (defArgs s_may_come) (defBody s_may_come) (defScope s_may_come) [] [] (He.ga K "may_come") fd)   : FnOk P w K mg base CX0 1 (He.ga K "may_come") fd ["entries", "left", "number"] (sp_may_come K) := by
  have nd := sc_may_come.nd
  refine F.ok (k := 0) sc_may_come (len_may_come K) (fun cdv A outer s H vs Q E hr h => ⟨t_may_come K, PSs.nox ?_, pure_may_come K vs H Q E h⟩)
  have hu : (A.deeper (envOfC "may_come" (defScope s_may_come) s.heap.objs.size (He.ga K "may_come") cdv)).units + 64 < cLine := by
    have h1 := hr.un
    omega
  skip
  exact (pss_one (ps_ret (pe_not (pe_callB (cr_any rfl) (by rfl) T.b_any (by decide +kernel) (pa_cons (pe_lc (own := [("other", 3)]) rfl nd (pi_seq (pv 1)) (blkOk_by (own := [("other", 3)]) (N := ["entries", "left", "number", "other"]) (sc := defScope s_may_come) (by decide +kernel)) (fun _ _ _ _ _ => (pg_name (i := 3) nd (by rfl) (by first | exact Or.inl rfl | exact Or.inr rfl))) (fun _ _ _ _ _ => pts_nil) (fun _ _ _ _ _ => (pe_cmpR op_ltA (pe_ix (ix_B hu) (pe_ix (ix_B hu) (pv 0) (pv 3) (fun _ _ => rfl)) (pe_int) (fun _ _ => rfl)) (pe_ix (ix_B hu) (pe_ix (ix_B hu) (pv 0) (pv 2) (fun _ _ => rfl)) (pe_int) (fun _ _ => rfl)) (nomark _)))) pa_nil)))))
theorem ok_may_come (T : Txt P w K mg) (FD : ∃ fd, FunD K "may_come" "may_come" (defArgs s_may_come) (defBody s_may_come) (defScope s_may_come) [] [] (He.ga K "may_come") fd) (hm : mg "may_come" = some (.ref (He.ga K "may_come")))   : Fok P w K mg base CX0 1 "may_come" ["entries", "left", "number"] (sp_may_come K) := by
  obtain ⟨fd, F⟩ := FD
  exact ⟨⟨fd, okf_may_come T F  , F.bindsN fun _ _ _ _ _ _ us hl => match us, hl with | [_, _, _], _ => rfl⟩, hm, F.kp⟩
theorem sc_order_from : FnScope ["entries", "left", "there", "number", "key", "behind", "rest", "other"] ["entries", "left", "there"] (defScope s_order_from) := ⟨rfl, rfl, rfl, by decide +kernel, rfl, by decide +kernel, by decide +kernel⟩
theorem okf_order_from {fd : FuncData} (T : Txt P w K mg) (F : FunD K "order_from" "order_from" (defArgs s_order_from) (defBody s_order_from) (defScope s_order_from) [] [] (He.ga K "order_from") fd) (hm : mg "order_from" = some (.ref (He.ga K "order_from"))) (F_may_come : Fok P w K mg base CX0 1 "may_come" ["entries", "left", "number"] (sp_may_come K)) (F_fits_now : Fok P w K mg base CX0 1 "fits_now" ["entry", "there"] (sp_fits_now K)) (F_row_after : Fok P w K mg base CX0 1 "row_after" ["entry", "there"] (sp_row_after K))  : ∀ n : Nat, FnOk P w K mg base CX0 (1 + n) (He.ga K "order_from") fd ["entries", "left", "there"] (sp_order_from K n)
  | 0 => ⟨len_order_from K 0, by intros; exact (up_no (by assumption)).elim⟩
  | n + 1 => by
    have F_order_from : Fok P w K mg base CX0 (1 + n) "order_from" ["entries", "left", "there"] (sp_order_from K n) := ⟨⟨fd, okf_order_from T F hm F_may_come F_fits_now F_row_after  n, F.bindsN fun _ _ _ _ _ _ us hl => match us, hl with | [_, _, _], _ => rfl⟩, hm, F.kp⟩
    have nd := sc_order_from.nd
    refine F.ok (k := 1 + n) sc_order_from (len_order_from K (n + 1)) (fun cdv A outer s H vs Q E hr h => ⟨t_order_from K n, PSs.nox ?_, pure_order_from K n vs H Q E h⟩)
    have hu : (A.deeper (envOfC "order_from" (defScope s_order_from) s.heap.objs.size (He.ga K "order_from") cdv)).units + 64 < cLine := by
      have h1 := hr.un
      omega
    skip
    exact (pss_cons (ps_if (pt_cmpR (op_eqA hu) (pe_callB call_lenB (by rfl) T.b_len (by decide +kernel) (pa_cons (pv 1) pa_nil)) (pe_int) (nomark _)) (pss_one (ps_ret (pe_lst pa_nil))) pss_nil)
    (pss_cons (ps_for PassesOwn.never rfl (pi_seq (pv 1)) (pg_name (i := 3) nd (by rfl) (by first | exact Or.inl rfl | exact Or.inr rfl)) (pss_cons (ps_set (i := 4) nd (by rfl) (Or.inr rfl) (pe_ix (ix_B hu) (pe_ix (ix_B hu) (pe_ix (ix_B hu) (pv 0) (pv 3) (fun _ _ => rfl)) (pe_int) (fun _ _ => rfl)) (pe_int) (fun _ _ => rfl)))
    (pss_one (ps_if (PW.pt (pw_and (pt_val (pe_callF F_may_come (hr.mono (by omega)) (by rfl) pass0 (pa_cons (pv 0) (pa_cons (pv 1) (pa_cons (pv 3) pa_nil))))) (pw_and1 (pt_val (pe_callF F_fits_now (hr.mono (by omega)) (by rfl) pass0 (pa_cons (pe_ix (ix_B hu) (pv 0) (pv 3) (fun _ _ => rfl)) (pa_cons (pe_cmpR (op_inB hu) (pv 4) (pv 2) (by rfl)) pa_nil))))))) (pss_cons (ps_setLc (own := [("other", 7)]) (i := 5) rfl nd rfl rfl (sw_true rfl rfl rfl (by decide +kernel)) (pi_seq (pv 2)) (blkOk_by (own := [("other", 7)]) (N := ["entries", "left", "there", "number", "key", "behind", "rest", "other"]) (sc := defScope s_order_from) (by decide +kernel)) (fun _ _ _ _ _ => (pg_name (i := 7) nd (by rfl) (by first | exact Or.inl rfl | exact Or.inr rfl))) (fun _ _ _ _ _ => (pts_one (pt_cmpR (op_neA hu) (pv 7) (pv 4) (nomark _)))) (fun _ _ _ _ _ => (pv 7)))
    (pss_cut (ps_if (pt_val (pe_callF F_row_after (hr.mono (by omega)) (by rfl) pass0 (pa_cons (pe_ix (ix_B hu) (pv 0) (pv 3) (fun _ _ => rfl)) (pa_cons (pe_cmpR (op_inB hu) (pv 4) (pv 2) (by rfl)) pa_nil)))) (pss_one (ps_expr (pe_bmW PySem.F.plainAttrs_list PySem.F.slot_list_append PySem.F.type_list_append mt_append (pv 5) (pa_cons (pv 4) pa_nil)))) pss_nil)
    (pss_cons (ps_set (i := 6) nd (by rfl) (Or.inl rfl) (pe_callF F_order_from (hr.mono (by omega)) (by rfl) pass0 (pa_cons (pv 0) (pa_cons (pe_lc (own := [("other", 7)]) rfl nd (pi_seq (pv 1)) (blkOk_by (own := [("other", 7)]) (N := ["entries", "left", "there", "number", "key", "behind", "rest", "other"]) (sc := defScope s_order_from) (by decide +kernel)) (fun _ _ _ _ _ => (pg_name (i := 7) nd (by rfl) (by first | exact Or.inl rfl | exact Or.inr rfl))) (fun _ _ _ _ _ => (pts_one (pt_cmpR (op_neA hu) (pv 7) (pv 3) (nomark _)))) (fun _ _ _ _ _ => (pv 7))) (pa_cons (pv 5) pa_nil)))))
    (pss_one (ps_if (pt_cmpR op_notA (pv 6) (pe_non) (nomark _)) (pss_one (ps_ret (pe_lst (pa_cons (pv 3) (pa_starA rfl (pv 6) pa_nil))))) pss_nil))))) pss_nil))))
    (pss_one (ps_ret (pe_non)))))
theorem ok_order_from (T : Txt P w K mg) (FD : ∃ fd, FunD K "order_from" "order_from" (defArgs s_order_from) (defBody s_order_from) (defScope s_order_from) [] [] (He.ga K "order_from") fd) (hm : mg "order_from" = some (.ref (He.ga K "order_from"))) (F_may_come : Fok P w K mg base CX0 1 "may_come" ["entries", "left", "number"] (sp_may_come K)) (F_fits_now : Fok P w K mg base CX0 1 "fits_now" ["entry", "there"] (sp_fits_now K)) (F_row_after : Fok P w K mg base CX0 1 "row_after" ["entry", "there"] (sp_row_after K))  : Fok P w K mg base CX0 10 "order_from" ["entries", "left", "there"] (sp_order_from K 9) := by
  obtain ⟨fd, F⟩ := FD
  exact ⟨⟨fd, okf_order_from T F hm F_may_come F_fits_now F_row_after  9, F.bindsN fun _ _ _ _ _ _ us hl => match us, hl with | [_, _, _], _ => rfl⟩, hm, F.kp⟩
theorem sc_serial_order : FnScope ["history", "keys", "entries"] ["history"] (defScope s_serial_order) := ⟨rfl, rfl, rfl, by decide +kernel, rfl, by decide +kernel, by decide +kernel⟩
theorem okf_serial_order {fd : FuncData} (T : Txt P w K mg) (F : FunD K "serial_order" "serial_order" (defArgs s_serial_order) (defBody s_serial_order) (defScope s_serial_order) [] [] (He.ga K "serial_order") fd) (F_need_history : Fok P w K mg base (L2.CX P w) 4 "need_history" ["history"] (sp_need_history K)) (F_order_from : Fok P w K mg base CX0 10 "order_from" ["entries", "left", "there"] (sp_order_from K 9))  : FnOk P w K mg base (L2.CX P w) 11 (He.ga K "serial_order") fd ["history"] (sp_serial_order K) := by
  have nd := sc_serial_order.nd
  refine F.ok (k := 10) sc_serial_order (len_serial_order K) (fun cdv A outer s H vs Q E hr h => ⟨t_serial_order K E, ?_, pure_serial_order K vs H Q E h⟩)
  have hu : (A.deeper (envOfC "serial_order" (defScope s_serial_order) s.heap.objs.size (He.ga K "serial_order") cdv)).units + 64 < cLine := by
    have h1 := hr.un
    omega
  unfold t_serial_order tw_serial_order
  exact (pss_cons (ps_expr (pe_callG F_need_history (hr.mono (by decide)) (by rfl) (takes_of rfl rfl rfl rfl) (pa_cons (pv 0) pa_nil)))
    (pss_cons (ps_asg (pv 0) (pg_tup (by rfl) (pgs_cons (pg_name (i := 1) nd (by rfl) (by first | exact Or.inl rfl | exact Or.inr rfl)) (pgs_cons (pg_name (i := 2) nd (by rfl) (by first | exact Or.inl rfl | exact Or.inr rfl)) pgs_nil))))
    (pss_one (ps_ret (pe_callF F_order_from (hr.mono (by decide)) (by rfl) pass0 (pa_cons (pv 2) (pa_cons (pe_listRg rfl (by rfl) T.b_list (prg_1 (by rfl) T.b_range (pe_callB call_lenB (by rfl) T.b_len (by decide +kernel) (pa_cons (pv 2) pa_nil)))) (pa_cons (pv 1) pa_nil))))))))
theorem ok_serial_order (T : Txt P w K mg) (FD : ∃ fd, FunD K "serial_order" "serial_order" (defArgs s_serial_order) (defBody s_serial_order) (defScope s_serial_order) [] [] (He.ga K "serial_order") fd) (hm : mg "serial_order" = some (.ref (He.ga K "serial_order"))) (F_need_history : Fok P w K mg base (L2.CX P w) 4 "need_history" ["history"] (sp_need_history K)) (F_order_from : Fok P w K mg base CX0 10 "order_from" ["entries", "left", "there"] (sp_order_from K 9))  : Fok P w K mg base (L2.CX P w) 11 "serial_order" ["history"] (sp_serial_order K) := by
  obtain ⟨fd, F⟩ := FD
  exact ⟨⟨fd, okf_serial_order T F F_need_history F_order_from , F.bindsN fun _ _ _ _ _ _ us hl => match us, hl with | [_], _ => rfl⟩, hm, F.kp⟩
theorem sc_numbers_of : FnScope ["entries", "key", "number", "entry"] ["entries", "key"] (defScope s_numbers_of) := ⟨rfl, rfl, rfl, by decide +kernel, rfl, by decide +kernel, by decide +kernel⟩
theorem okf_numbers_of {fd : FuncData} (T : Txt P w K mg) (F : FunD K "numbers_of" "numbers_of" (defArgs s_numbers_of) (defBody s_numbers_of) (defScope s_numbers_of) [] [] (He.ga K "numbers_of") fd)   : FnOk P w K mg base CX0 1 (He.ga K "numbers_of") fd ["entries", "key"] (sp_numbers_of K) := by
  have nd := sc_numbers_of.nd
  refine F.ok (k := 0) sc_numbers_of (len_numbers_of K) (fun cdv A outer s H vs Q E hr h => ⟨t_numbers_of K, PSs.nox ?_, pure_numbers_of K vs H Q E h⟩)
  have hu : (A.deeper (envOfC "numbers_of" (defScope s_numbers_of) s.heap.objs.size (He.ga K "numbers_of") cdv)).units + 64 < cLine := by
    have h1 := hr.un
    omega
  skip
  exact (pss_one (ps_ret (pe_lc (own := [("number", 2), ("entry", 3)]) rfl nd (pi_enumA (by rfl) T.b_enumerate (pa_cons (pv 0) pa_nil)) (blkOk_by (own := [("number", 2), ("entry", 3)]) (N := ["entries", "key", "number", "entry"]) (sc := defScope s_numbers_of) (by decide +kernel)) (fun _ _ _ _ _ => (pg_tup (by rfl) (pgs_cons (pg_name (i := 2) nd (by rfl) (by first | exact Or.inl rfl | exact Or.inr rfl)) (pgs_cons (pg_name (i := 3) nd (by rfl) (by first | exact Or.inl rfl | exact Or.inr rfl)) pgs_nil)))) (fun _ _ _ _ _ => (pts_one (pt_cmpR (op_eqA hu) (pe_ix (ix_B hu) (pe_ix (ix_B hu) (pv 3) (pe_int) (fun _ _ => rfl)) (pe_int) (fun _ _ => rfl)) (pv 1) (nomark _)))) (fun _ _ _ _ _ => (pv 2)))))
theorem ok_numbers_of (T : Txt P w K mg) (FD : ∃ fd, FunD K "numbers_of" "numbers_of" (defArgs s_numbers_of) (defBody s_numbers_of) (defScope s_numbers_of) [] [] (He.ga K "numbers_of") fd) (hm : mg "numbers_of" = some (.ref (He.ga K "numbers_of")))   : Fok P w K mg base CX0 1 "numbers_of" ["entries", "key"] (sp_numbers_of K) := by
  obtain ⟨fd, F⟩ := FD
  exact ⟨⟨fd, okf_numbers_of T F  , F.bindsN fun _ _ _ _ _ _ us hl => match us, hl with | [_, _], _ => rfl⟩, hm, F.kp⟩
theorem sc_bad_keys : FnScope ["history", "keys", "entries", "wanted", "entry", "key"] ["history"] (defScope s_bad_keys) := ⟨rfl, rfl, rfl, by decide +kernel, rfl, by decide +kernel, by decide +kernel⟩
theorem okf_bad_keys {fd : FuncData} (T : Txt P w K mg) (F : FunD K "bad_keys" "bad_keys" (defArgs s_bad_keys) (defBody s_bad_keys) (defScope s_bad_keys) [] [] (He.ga K "bad_keys") fd) (F_need_history : Fok P w K mg base (L2.CX P w) 4 "need_history" ["history"] (sp_need_history K)) (F_order_from : Fok P w K mg base CX0 10 "order_from" ["entries", "left", "there"] (sp_order_from K 9)) (F_numbers_of : Fok P w K mg base CX0 1 "numbers_of" ["entries", "key"] (sp_numbers_of K))  : FnOk P w K mg base (L2.CX P w) 11 (He.ga K "bad_keys") fd ["history"] (sp_bad_keys K) := by
  have nd := sc_bad_keys.nd
  refine F.ok (k := 10) sc_bad_keys (len_bad_keys K) (fun cdv A outer s H vs Q E hr h => ⟨t_bad_keys K E, ?_, pure_bad_keys K vs H Q E h⟩)
  have hu : (A.deeper (envOfC "bad_keys" (defScope s_bad_keys) s.heap.objs.size (He.ga K "bad_keys") cdv)).units + 64 < cLine := by
    have h1 := hr.un
    omega
  unfold t_bad_keys tw_bad_keys
  exact (pss_cons (ps_expr (pe_callG F_need_history (hr.mono (by decide)) (by rfl) (takes_of rfl rfl rfl rfl) (pa_cons (pv 0) pa_nil)))
    (pss_cons (ps_asg (pv 0) (pg_tup (by rfl) (pgs_cons (pg_name (i := 1) nd (by rfl) (by first | exact Or.inl rfl | exact Or.inr rfl)) (pgs_cons (pg_name (i := 2) nd (by rfl) (by first | exact Or.inl rfl | exact Or.inr rfl)) pgs_nil))))
    (pss_cons (ps_set (i := 3) nd (by rfl) (Or.inl rfl) (pe_sortSet (by rfl) T.b_sorted (by rfl) T.b_set (pe_lc (own := [("entry", 4)]) rfl nd (pi_seq (pv 2)) (blkOk_by (own := [("entry", 4)]) (N := ["history", "keys", "entries", "wanted", "entry", "key"]) (sc := defScope s_bad_keys) (by decide +kernel)) (fun _ _ _ _ _ => (pg_name (i := 4) nd (by rfl) (by first | exact Or.inl rfl | exact Or.inr rfl))) (fun _ _ _ _ _ => pts_nil) (fun _ _ _ _ _ => (pe_ix (ix_B hu) (pe_ix (ix_B hu) (pv 4) (pe_int) (fun _ _ => rfl)) (pe_int) (fun _ _ => rfl))))))
    (pss_one (ps_ret (pe_lc (own := [("key", 5)]) rfl nd (pi_seq (pv 3)) (blkOk_by (own := [("key", 5)]) (N := ["history", "keys", "entries", "wanted", "entry", "key"]) (sc := defScope s_bad_keys) (by decide +kernel)) (fun _ _ _ _ _ => (pg_name (i := 5) nd (by rfl) (by first | exact Or.inl rfl | exact Or.inr rfl))) (fun _ _ _ _ _ => (pts_one (pt_cmpR op_isA (pe_callF F_order_from (hr.mono (by decide)) (by rfl) pass0 (pa_cons (pv 2) (pa_cons (pe_callF F_numbers_of (hr.mono (by decide)) (by rfl) pass0 (pa_cons (pv 2) (pa_cons (pv 5) pa_nil))) (pa_cons (pv 1) pa_nil)))) (pe_non) (nomark _)))) (fun _ _ _ _ _ => (pv 5))))))))
theorem ok_bad_keys (T : Txt P w K mg) (FD : ∃ fd, FunD K "bad_keys" "bad_keys" (defArgs s_bad_keys) (defBody s_bad_keys) (defScope s_bad_keys) [] [] (He.ga K "bad_keys") fd) (hm : mg "bad_keys" = some (.ref (He.ga K "bad_keys"))) (F_need_history : Fok P w K mg base (L2.CX P w) 4 "need_history" ["history"] (sp_need_history K)) (F_order_from : Fok P w K mg base CX0 10 "order_from" ["entries", "left", "there"] (sp_order_from K 9)) (F_numbers_of : Fok P w K mg base CX0 1 "numbers_of" ["entries", "key"] (sp_numbers_of K))  : Fok P w K mg base (L2.CX P w) 11 "bad_keys" ["history"] (sp_bad_keys K) := by
  obtain ⟨fd, F⟩ := FD
  exact ⟨⟨fd, okf_bad_keys T F F_need_history F_order_from F_numbers_of , F.bindsN fun _ _ _ _ _ _ us hl => match us, hl with | [_], _ => rfl⟩, hm, F.kp⟩
theorem okkG_bad_keys_0_history (T : Txt P w K mg) (FD : ∃ fd, FunD K "bad_keys" "bad_keys" (defArgs s_bad_keys) (defBody s_bad_keys) (defScope s_bad_keys) [] [] (He.ga K "bad_keys") fd) (hm : mg "bad_keys" = some (.ref (He.ga K "bad_keys"))) (F_need_history : Fok P w K mg base (L2.CX P w) 4 "need_history" ["history"] (sp_need_history K)) (F_order_from : Fok P w K mg base CX0 10 "order_from" ["entries", "left", "there"] (sp_order_from K 9)) (F_numbers_of : Fok P w K mg base CX0 1 "numbers_of" ["entries", "key"] (sp_numbers_of K))  : FokK P w K mg base (L2.CX P w) 11 "bad_keys" ["history"] (sp_bad_keys K) 0 ["history"] [0] := by
  obtain ⟨fd, F⟩ := FD
  exact ⟨⟨fd, okf_bad_keys T F F_need_history F_order_from F_numbers_of , kbinds F fun _ _ _ _ _ _ us ws h1 h2 => match us, ws, h1, h2 with | [], [_], _, _ => rfl⟩, hm, F.kp⟩
theorem sc_explains_history : FnScope ["history", "order", "keys", "entries", "there", "at", "number", "key", "other"] ["history", "order"] (defScope s_explains_history) := ⟨rfl, rfl, rfl, by decide +kernel, rfl, by decide +kernel, by decide +kernel⟩
theorem okf_explains_history {fd : FuncData} (T : Txt P w K mg) (F : FunD K "explains_history" "explains_history" (defArgs s_explains_history) (defBody s_explains_history) (defScope s_explains_history) [] [] (He.ga K "explains_history") fd) (F_need_history : Fok P w K mg base (L2.CX P w) 4 "need_history" ["history"] (sp_need_history K)) (F_is_integer : Fok P w K mg base CX0 1 "is_integer" ["value"] (sp_is_integer K)) (F_may_come : Fok P w K mg base CX0 1 "may_come" ["entries", "left", "number"] (sp_may_come K)) (F_fits_now : Fok P w K mg base CX0 1 "fits_now" ["entry", "there"] (sp_fits_now K)) (F_row_after : Fok P w K mg base CX0 1 "row_after" ["entry", "there"] (sp_row_after K))  : FnOk P w K mg base (L2.CX P w) 5 (He.ga K "explains_history") fd ["history", "order"] (sp_explains_history K) := by
  have nd := sc_explains_history.nd
  refine F.ok (k := 4) sc_explains_history (len_explains_history K) (fun cdv A outer s H vs Q E hr h => ⟨t_explains_history K E, ?_, pure_explains_history K vs H Q E h⟩)
  have hu : (A.deeper (envOfC "explains_history" (defScope s_explains_history) s.heap.objs.size (He.ga K "explains_history") cdv)).units + 64 < cLine := by
    have h1 := hr.un
    omega
  unfold t_explains_history tw_explains_history
  exact (pss_cons (ps_expr (pe_callG F_need_history (hr.mono (by decide)) (by rfl) (takes_of rfl rfl rfl rfl) (pa_cons (pv 0) pa_nil)))
    (pss_cons (ps_asg (pv 0) (pg_tup (by rfl) (pgs_cons (pg_name (i := 2) nd (by rfl) (by first | exact Or.inl rfl | exact Or.inr rfl)) (pgs_cons (pg_name (i := 3) nd (by rfl) (by first | exact Or.inl rfl | exact Or.inr rfl)) pgs_nil))))
    (pss_cons (ps_if (PW.pt (pw_or (pt_not (pt_val (pe_callB call_isi (by rfl) T.b_isinstance (by decide +kernel) (pa_cons (pv 1) (pa_cons (pe_bltn (by rfl) T.b_list (by decide +kernel) rfl) pa_nil))))) (pw_or1 (pt_not (pt_val (pe_callB (cr_all rfl) (by rfl) T.b_all (by decide +kernel) (pa_cons (pe_lc (own := [("number", 6)]) rfl nd (pi_seq (pv 1)) (blkOk_by (own := [("number", 6)]) (N := ["history", "order", "keys", "entries", "there", "at", "number", "key", "other"]) (sc := defScope s_explains_history) (by decide +kernel)) (fun _ _ _ _ _ => (pg_name (i := 6) nd (by rfl) (by first | exact Or.inl rfl | exact Or.inr rfl))) (fun _ _ _ _ _ => pts_nil) (fun _ _ _ _ _ => (pe_callF F_is_integer (hr.mono (by decide)) (by rfl) pass0 (pa_cons (pv 6) pa_nil)))) pa_nil))))))) (pss_one (ps_ret (pe_bl))) pss_nil)
    (pss_cons (ps_if (pt_cmpR (op_neA hu) (pe_callB (call_sortB rfl) (by rfl) T.b_sorted (by decide +kernel) (pa_cons (pv 1) pa_nil)) (pe_listRg rfl (by rfl) T.b_list (prg_1 (by rfl) T.b_range (pe_callB call_lenB (by rfl) T.b_len (by decide +kernel) (pa_cons (pv 3) pa_nil)))) (nomark _)) (pss_one (ps_ret (pe_bl))) pss_nil)
    (pss_cons (ps_set (i := 4) nd (by rfl) (Or.inl rfl) (pe_callTy call_listA (by rfl) T.b_list (by decide +kernel) (pa_cons (pv 2) pa_nil)))
    (pss_cons (ps_for (passes_of rfl) rfl (pi_enumA (by rfl) T.b_enumerate (pa_cons (pv 1) pa_nil)) (pg_tup (by rfl) (pgs_cons (pg_name (i := 5) nd (by rfl) (by first | exact Or.inl rfl | exact Or.inr rfl)) (pgs_cons (pg_name (i := 6) nd (by rfl) (by first | exact Or.inl rfl | exact Or.inr rfl)) pgs_nil))) (pss_cons (ps_set (i := 7) nd (by rfl) (Or.inr rfl) (pe_ix (ix_B hu) (pe_ix (ix_B hu) (pe_ix (ix_B hu) (pv 3) (pv 6) (fun _ _ => rfl)) (pe_int) (fun _ _ => rfl)) (pe_int) (fun _ _ => rfl)))
    (pss_cons (ps_if (PW.pt (pw_or (pt_not (pt_val (pe_callF F_may_come (hr.mono (by decide)) (by rfl) pass0 (pa_cons (pv 3) (pa_cons (pe_slice sl_A (pv 1) (po_some (pv 5)) po_none) (pa_cons (pv 6) pa_nil)))))) (pw_or1 (pt_not (pt_val (pe_callF F_fits_now (hr.mono (by decide)) (by rfl) pass0 (pa_cons (pe_ix (ix_B hu) (pv 3) (pv 6) (fun _ _ => rfl)) (pa_cons (pe_cmpR (op_inB hu) (pv 7) (pv 4) (by rfl)) pa_nil)))))))) (pss_one (ps_ret (pe_bl))) pss_nil)
    (pss_one (ps_set (i := 4) nd (by rfl) (Or.inl rfl) (pe_op op_addA (pe_lc (own := [("other", 8)]) rfl nd (pi_seq (pv 4)) (blkOk_by (own := [("other", 8)]) (N := ["history", "order", "keys", "entries", "there", "at", "number", "key", "other"]) (sc := defScope s_explains_history) (by decide +kernel)) (fun _ _ _ _ _ => (pg_name (i := 8) nd (by rfl) (by first | exact Or.inl rfl | exact Or.inr rfl))) (fun _ _ _ _ _ => (pts_one (pt_cmpR (op_neA hu) (pv 8) (pv 7) (nomark _)))) (fun _ _ _ _ _ => (pv 8))) (pe_ifExp (pt_val (pe_callF F_row_after (hr.mono (by decide)) (by rfl) pass0 (pa_cons (pe_ix (ix_B hu) (pv 3) (pv 6) (fun _ _ => rfl)) (pa_cons (pe_cmpR (op_inB hu) (pv 7) (pv 4) (by rfl)) pa_nil)))) (pe_lst (pa_cons (pv 7) pa_nil)) (pe_lst pa_nil))))))))
    (pss_one (ps_ret (pe_bl)))))))))
theorem ok_explains_history (T : Txt P w K mg) (FD : ∃ fd, FunD K "explains_history" "explains_history" (defArgs s_explains_history) (defBody s_explains_history) (defScope s_explains_history) [] [] (He.ga K "explains_history") fd) (hm : mg "explains_history" = some (.ref (He.ga K "explains_history"))) (F_need_history : Fok P w K mg base (L2.CX P w) 4 "need_history" ["history"] (sp_need_history K)) (F_is_integer : Fok P w K mg base CX0 1 "is_integer" ["value"] (sp_is_integer K)) (F_may_come : Fok P w K mg base CX0 1 "may_come" ["entries", "left", "number"] (sp_may_come K)) (F_fits_now : Fok P w K mg base CX0 1 "fits_now" ["entry", "there"] (sp_fits_now K)) (F_row_after : Fok P w K mg base CX0 1 "row_after" ["entry", "there"] (sp_row_after K))  : Fok P w K mg base (L2.CX P w) 5 "explains_history" ["history", "order"] (sp_explains_history K) := by
  obtain ⟨fd, F⟩ := FD
  exact ⟨⟨fd, okf_explains_history T F F_need_history F_is_integer F_may_come F_fits_now F_row_after , F.bindsN fun _ _ _ _ _ _ us hl => match us, hl with | [_, _], _ => rfl⟩, hm, F.kp⟩
theorem sc_merged_order : FnScope ["history", "orders", "entries", "left", "rows", "found", "heads", "number", "row", "head", "other"] ["history", "orders"] (defScope s_merged_order) := ⟨rfl, rfl, rfl, by decide +kernel, rfl, by decide +kernel, by decide +kernel⟩
theorem okf_merged_order {fd : FuncData} (T : Txt P w K mg) (F : FunD K "merged_order" "merged_order" (defArgs s_merged_order) (defBody s_merged_order) (defScope s_merged_order) [] [] (He.ga K "merged_order") fd) (F_may_come : Fok P w K mg base CX0 1 "may_come" ["entries", "left", "number"] (sp_may_come K))  : FnOk P w K mg base CX0 2 (He.ga K "merged_order") fd ["history", "orders"] (sp_merged_order K) := by
  have nd := sc_merged_order.nd
  refine F.ok (k := 1) sc_merged_order (len_merged_order K) (fun cdv A outer s H vs Q E hr h => ⟨t_merged_order K, PSs.nox ?_, pure_merged_order K vs H Q E h⟩)
  have hu : (A.deeper (envOfC "merged_order" (defScope s_merged_order) s.heap.objs.size (He.ga K "merged_order") cdv)).units + 64 < cLine := by
    have h1 := hr.un
    omega
  skip
  exact (pss_cons (ps_set (i := 2) nd (by rfl) (Or.inr rfl) (pe_ix (ix_B hu) (pv 0) (pe_int) (fun _ _ => rfl)))
    (pss_cons (ps_set (i := 3) nd (by rfl) (Or.inr rfl) (pe_listRg rfl (by rfl) T.b_list (prg_1 (by rfl) T.b_range (pe_callB call_lenB (by rfl) T.b_len (by decide +kernel) (pa_cons (pv 2) pa_nil)))))
    (pss_cons (ps_setLc (own := [("row", 8)]) (i := 4) rfl nd rfl rfl (sw_true rfl rfl rfl (by decide +kernel)) (pi_seq (pv 1)) (blkOk_by (own := [("row", 8)]) (N := ["history", "orders", "entries", "left", "rows", "found", "heads", "number", "row", "head", "other"]) (sc := defScope s_merged_order) (by decide +kernel)) (fun _ _ _ _ _ => (pg_name (i := 8) nd (by rfl) (by first | exact Or.inl rfl | exact Or.inr rfl))) (fun _ _ _ _ _ => pts_nil) (fun _ _ _ _ _ => (pe_callTy call_listA (by rfl) T.b_list (by decide +kernel) (pa_cons (pv 8) pa_nil))))
    (pss_cons (ps_set (i := 5) nd (by rfl) (Or.inl rfl) (pe_lst pa_nil))
    (pss_cons (ps_while PassesOwn.never (pt_cmpR op_gtA (pe_callB call_lenB (by rfl) T.b_len (by decide +kernel) (pa_cons (pv 3) pa_nil)) (pe_int) (nomark _)) (pss_cons (ps_setLc (own := [("row", 8)]) (i := 6) rfl nd rfl rfl (sw_true rfl rfl rfl (by decide +kernel)) (pi_seq (pv 4)) (blkOk_by (own := [("row", 8)]) (N := ["history", "orders", "entries", "left", "rows", "found", "heads", "number", "row", "head", "other"]) (sc := defScope s_merged_order) (by decide +kernel)) (fun _ _ _ _ _ => (pg_name (i := 8) nd (by rfl) (by first | exact Or.inl rfl | exact Or.inr rfl))) (fun _ _ _ _ _ => (pts_one (pt_cmpR op_gtA (pe_callB call_lenB (by rfl) T.b_len (by decide +kernel) (pa_cons (pv 8) pa_nil)) (pe_int) (nomark _)))) (fun _ _ _ _ _ => (pe_ix (ix_B hu) (pv 8) (pe_int) (fun _ _ => rfl))))
    (pss_cons (ps_set (i := 7) nd (by rfl) (Or.inr rfl) (pe_ix (ix_B hu) (pe_lc (own := [("head", 9)]) rfl nd (pi_seq (pv 6)) (blkOk_by (own := [("head", 9)]) (N := ["history", "orders", "entries", "left", "rows", "found", "heads", "number", "row", "head", "other"]) (sc := defScope s_merged_order) (by decide +kernel)) (fun _ _ _ _ _ => (pg_name (i := 9) nd (by rfl) (by first | exact Or.inl rfl | exact Or.inr rfl))) (fun _ _ _ _ _ => (pts_one (pt_val (pe_callF F_may_come (hr.mono (by decide)) (by rfl) pass0 (pa_cons (pv 2) (pa_cons (pv 3) (pa_cons (pv 9) pa_nil))))))) (fun _ _ _ _ _ => (pv 9))) (pe_int) (fun _ _ => rfl)))
    (pss_cons (ps_expr (pe_bmW PySem.F.plainAttrs_list PySem.F.slot_list_append PySem.F.type_list_append mt_append (pv 5) (pa_cons (pv 7) pa_nil)))
    (pss_cons (ps_expr (pe_bmW PySem.F.plainAttrs_list PySem.F.slot_list_remove PySem.F.type_list_remove mt_removeA (pv 3) (pa_cons (pv 7) pa_nil)))
    (pss_one (ps_setLc (own := [("row", 8)]) (i := 4) rfl nd rfl rfl (sw_true rfl rfl rfl (by decide +kernel)) (pi_seq (pv 4)) (blkOk_by (own := [("row", 8)]) (N := ["history", "orders", "entries", "left", "rows", "found", "heads", "number", "row", "head", "other"]) (sc := defScope s_merged_order) (by decide +kernel)) (fun _ _ _ _ _ => (pg_name (i := 8) nd (by rfl) (by first | exact Or.inl rfl | exact Or.inr rfl))) (fun _ _ _ _ _ => pts_nil) (fun _ _ _ _ _ => (pe_lc (own := [("other", 10)]) rfl nd (pi_seq (pv 8)) (blkOk_by (own := [("other", 10)]) (by kernel_rfl)) (fun _ _ _ _ _ => (pg_name (i := 10) nd (by rfl) (by first | exact Or.inl rfl | exact Or.inr rfl))) (fun _ _ _ _ _ => (pts_one (pt_cmpR (op_neA hu) (pv 10) (pv 7) (nomark _)))) (fun _ _ _ _ _ => (pv 10)))))))))))
    (pss_one (ps_ret (pv 5))))))))
theorem ok_merged_order (T : Txt P w K mg) (FD : ∃ fd, FunD K "merged_order" "merged_order" (defArgs s_merged_order) (defBody s_merged_order) (defScope s_merged_order) [] [] (He.ga K "merged_order") fd) (hm : mg "merged_order" = some (.ref (He.ga K "merged_order"))) (F_may_come : Fok P w K mg base CX0 1 "may_come" ["entries", "left", "number"] (sp_may_come K))  : Fok P w K mg base CX0 2 "merged_order" ["history", "orders"] (sp_merged_order K) := by
  obtain ⟨fd, F⟩ := FD
  exact ⟨⟨fd, okf_merged_order T F F_may_come , F.bindsN fun _ _ _ _ _ _ us hl => match us, hl with | [_, _], _ => rfl⟩, hm, F.kp⟩
theorem sc_order_by_keys : FnScope ["history", "keys", "entries", "wanted", "orders", "entry", "key"] ["history"] (defScope s_order_by_keys) := ⟨rfl, rfl, rfl, by decide +kernel, rfl, by decide +kernel, by decide +kernel⟩
theorem okf_order_by_keys {fd : FuncData} (T : Txt P w K mg) (F : FunD K "order_by_keys" "order_by_keys" (defArgs s_order_by_keys) (defBody s_order_by_keys) (defScope s_order_by_keys) [] [] (He.ga K "order_by_keys") fd) (F_need_history : Fok P w K mg base (L2.CX P w) 4 "need_history" ["history"] (sp_need_history K)) (F_order_from : Fok P w K mg base CX0 10 "order_from" ["entries", "left", "there"] (sp_order_from K 9)) (F_numbers_of : Fok P w K mg base CX0 1 "numbers_of" ["entries", "key"] (sp_numbers_of K)) (F_merged_order : Fok P w K mg base CX0 2 "merged_order" ["history", "orders"] (sp_merged_order K))  : FnOk P w K mg base (L2.CX P w) 11 (He.ga K "order_by_keys") fd ["history"] (sp_order_by_keys K) := by
  have nd := sc_order_by_keys.nd
  refine F.ok (k := 10) sc_order_by_keys (len_order_by_keys K) (fun cdv A outer s H vs Q E hr h => ⟨t_order_by_keys K E, ?_, pure_order_by_keys K vs H Q E h⟩)
  have hu : (A.deeper (envOfC "order_by_keys" (defScope s_order_by_keys) s.heap.objs.size (He.ga K "order_by_keys") cdv)).units + 64 < cLine := by
    have h1 := hr.un
    omega
  unfold t_order_by_keys tw_order_by_keys
  exact (pss_cons (ps_expr (pe_callG F_need_history (hr.mono (by decide)) (by rfl) (takes_of rfl rfl rfl rfl) (pa_cons (pv 0) pa_nil)))
    (pss_cons (ps_asg (pv 0) (pg_tup (by rfl) (pgs_cons (pg_name (i := 1) nd (by rfl) (by first | exact Or.inl rfl | exact Or.inr rfl)) (pgs_cons (pg_name (i := 2) nd (by rfl) (by first | exact Or.inl rfl | exact Or.inr rfl)) pgs_nil))))
    (pss_cons (ps_set (i := 3) nd (by rfl) (Or.inl rfl) (pe_sortSet (by rfl) T.b_sorted (by rfl) T.b_set (pe_lc (own := [("entry", 5)]) rfl nd (pi_seq (pv 2)) (blkOk_by (own := [("entry", 5)]) (N := ["history", "keys", "entries", "wanted", "orders", "entry", "key"]) (sc := defScope s_order_by_keys) (by decide +kernel)) (fun _ _ _ _ _ => (pg_name (i := 5) nd (by rfl) (by first | exact Or.inl rfl | exact Or.inr rfl))) (fun _ _ _ _ _ => pts_nil) (fun _ _ _ _ _ => (pe_ix (ix_B hu) (pe_ix (ix_B hu) (pv 5) (pe_int) (fun _ _ => rfl)) (pe_int) (fun _ _ => rfl))))))
    (pss_cons (ps_setLc (own := [("key", 6)]) (i := 4) rfl nd rfl rfl (sw_true rfl rfl rfl (by decide +kernel)) (pi_seq (pv 3)) (blkOk_by (own := [("key", 6)]) (N := ["history", "keys", "entries", "wanted", "orders", "entry", "key"]) (sc := defScope s_order_by_keys) (by decide +kernel)) (fun _ _ _ _ _ => (pg_name (i := 6) nd (by rfl) (by first | exact Or.inl rfl | exact Or.inr rfl))) (fun _ _ _ _ _ => pts_nil) (fun _ _ _ _ _ => (pe_callF F_order_from (hr.mono (by decide)) (by rfl) pass0 (pa_cons (pv 2) (pa_cons (pe_callF F_numbers_of (hr.mono (by decide)) (by rfl) pass0 (pa_cons (pv 2) (pa_cons (pv 6) pa_nil))) (pa_cons (pv 1) pa_nil))))))
    (pss_one (ps_ret (pe_ifExp (pt_cmpR (op_inB hu) (pe_non) (pv 4) (by rfl)) (pe_non) (pe_callF F_merged_order (hr.mono (by decide)) (by rfl) pass0 (pa_cons (pv 0) (pa_cons (pv 4) pa_nil))))))))))
theorem ok_order_by_keys (T : Txt P w K mg) (FD : ∃ fd, FunD K "order_by_keys" "order_by_keys" (defArgs s_order_by_keys) (defBody s_order_by_keys) (defScope s_order_by_keys) [] [] (He.ga K "order_by_keys") fd) (hm : mg "order_by_keys" = some (.ref (He.ga K "order_by_keys"))) (F_need_history : Fok P w K mg base (L2.CX P w) 4 "need_history" ["history"] (sp_need_history K)) (F_order_from : Fok P w K mg base CX0 10 "order_from" ["entries", "left", "there"] (sp_order_from K 9)) (F_numbers_of : Fok P w K mg base CX0 1 "numbers_of" ["entries", "key"] (sp_numbers_of K)) (F_merged_order : Fok P w K mg base CX0 2 "merged_order" ["history", "orders"] (sp_merged_order K))  : Fok P w K mg base (L2.CX P w) 11 "order_by_keys" ["history"] (sp_order_by_keys K) := by
  obtain ⟨fd, F⟩ := FD
  exact ⟨⟨fd, okf_order_by_keys T F F_need_history F_order_from F_numbers_of F_merged_order , F.bindsN fun _ _ _ _ _ _ us hl => match us, hl with | [_], _ => rfl⟩, hm, F.kp⟩
theorem okkG_order_by_keys_0_history (T : Txt P w K mg) (FD : ∃ fd, FunD K "order_by_keys" "order_by_keys" (defArgs s_order_by_keys) (defBody s_order_by_keys) (defScope s_order_by_keys) [] [] (He.ga K "order_by_keys") fd) (hm : mg "order_by_keys" = some (.ref (He.ga K "order_by_keys"))) (F_need_history : Fok P w K mg base (L2.CX P w) 4 "need_history" ["history"] (sp_need_history K)) (F_order_from : Fok P w K mg base CX0 10 "order_from" ["entries", "left", "there"] (sp_order_from K 9)) (F_numbers_of : Fok P w K mg base CX0 1 "numbers_of" ["entries", "key"] (sp_numbers_of K)) (F_merged_order : Fok P w K mg base CX0 2 "merged_order" ["history", "orders"] (sp_merged_order K))  : FokK P w K mg base (L2.CX P w) 11 "order_by_keys" ["history"] (sp_order_by_keys K) 0 ["history"] [0] := by
  obtain ⟨fd, F⟩ := FD
  exact ⟨⟨fd, okf_order_by_keys T F F_need_history F_order_from F_numbers_of F_merged_order , kbinds F fun _ _ _ _ _ _ us ws h1 h2 => match us, ws, h1, h2 with | [], [_], _, _ => rfl⟩, hm, F.kp⟩
theorem sc_law_cell : FnScope ["script", "k"] ["script", "k"] (defScope s_law_cell) := ⟨rfl, rfl, rfl, by decide +kernel, rfl, by decide +kernel, by decide +kernel⟩
theorem okf_law_cell {fd : FuncData} (T : Txt P w K mg) (F : FunD K "_law_cell" "_law_cell" (defArgs s_law_cell) (defBody s_law_cell) (defScope s_law_cell) [] [] (He.ga K "_law_cell") fd)   : FnOk P w K mg base CX0 1 (He.ga K "_law_cell") fd ["script", "k"] (sp_law_cell K) := by
  have nd := sc_law_cell.nd
  refine F.ok (k := 0) sc_law_cell (len_law_cell K) (fun cdv A outer s H vs Q E hr h => ⟨t_law_cell K, PSs.nox ?_, pure_law_cell K vs H Q E h⟩)
  have hu : (A.deeper (envOfC "_law_cell" (defScope s_law_cell) s.heap.objs.size (He.ga K "_law_cell") cdv)).units + 64 < cLine := by
    have h1 := hr.un
    omega
  skip
  exact (pss_one (ps_ret (pe_ifExp (pt_cmpR op_ltA (pv 1) (pe_callB call_lenB (by rfl) T.b_len (by decide +kernel) (pa_cons (pv 0) pa_nil)) (nomark _)) (pe_ix (ix_B hu) (pv 0) (pv 1) (fun _ _ => rfl)) (pe_op op_addA (pe_op op_mulA (pe_int) (pv 1)) (pe_op op_modA (pe_callTy call_intA (by rfl) T.b_int (by decide +kernel) (pa_cons (pe_callB (cr_sum rfl) (by rfl) T.b_sum (by decide +kernel) (pa_cons (pe_slice sl_A (pv 0) po_none (po_some (pe_int))) pa_nil)) pa_nil)) (pe_int))))))
theorem ok_law_cell (T : Txt P w K mg) (FD : ∃ fd, FunD K "_law_cell" "_law_cell" (defArgs s_law_cell) (defBody s_law_cell) (defScope s_law_cell) [] [] (He.ga K "_law_cell") fd) (hm : mg "_law_cell" = some (.ref (He.ga K "_law_cell")))   : Fok P w K mg base CX0 1 "_law_cell" ["script", "k"] (sp_law_cell K) := by
  obtain ⟨fd, F⟩ := FD
  exact ⟨⟨fd, okf_law_cell T F  , F.bindsN fun _ _ _ _ _ _ us hl => match us, hl with | [_, _], _ => rfl⟩, hm, F.kp⟩
theorem sc_law_box : FnScope ["great"] ["great"] (defScope s_law_box) := ⟨rfl, rfl, rfl, by decide +kernel, rfl, by decide +kernel, by decide +kernel⟩
theorem okf_law_box {fd : FuncData} (T : Txt P w K mg) (F : FunD K "_law_box" "_law_box" (defArgs s_law_box) (defBody s_law_box) (defScope s_law_box) [] [] (He.ga K "_law_box") fd)   : FnOk P w K mg base CX0 1 (He.ga K "_law_box") fd ["great"] (sp_law_box K) := by
  have nd := sc_law_box.nd
  refine F.ok (k := 0) sc_law_box (len_law_box K) (fun cdv A outer s H vs Q E hr h => ⟨t_law_box K, PSs.nox ?_, pure_law_box K vs H Q E h⟩)
  have hu : (A.deeper (envOfC "_law_box" (defScope s_law_box) s.heap.objs.size (He.ga K "_law_box") cdv)).units + 64 < cLine := by
    have h1 := hr.un
    omega
  skip
  exact (pss_one (ps_ret (pe_lst (pa_cons (pe_callB call_absA (by rfl) T.b_abs (by decide +kernel) (pa_cons (pv 0) pa_nil)) (pa_cons (pe_cmpR op_geA (pe_callB call_absA (by rfl) T.b_abs (by decide +kernel) (pa_cons (pv 0) pa_nil)) (pe_op op_powA (pe_int) (pe_int)) (nomark _)) (pa_cons (pe_op op_modA (pe_callTy call_intA (by rfl) T.b_int (by decide +kernel) (pa_cons (pe_callB call_absA (by rfl) T.b_abs (by decide +kernel) (pa_cons (pv 0) pa_nil)) pa_nil)) (pe_int)) (pa_cons (pe_int) pa_nil)))))))
theorem ok_law_box (T : Txt P w K mg) (FD : ∃ fd, FunD K "_law_box" "_law_box" (defArgs s_law_box) (defBody s_law_box) (defScope s_law_box) [] [] (He.ga K "_law_box") fd) (hm : mg "_law_box" = some (.ref (He.ga K "_law_box")))   : Fok P w K mg base CX0 1 "_law_box" ["great"] (sp_law_box K) := by
  obtain ⟨fd, F⟩ := FD
  exact ⟨⟨fd, okf_law_box T F  , F.bindsN fun _ _ _ _ _ _ us hl => match us, hl with | [_], _ => rfl⟩, hm, F.kp⟩
theorem sc_law_take : FnScope ["box", "many", "digit", "mixed"] ["box", "many"] (defScope s_law_take) := ⟨rfl, rfl, rfl, by decide +kernel, rfl, by decide +kernel, by decide +kernel⟩
theorem okf_law_take {fd : FuncData} (T : Txt P w K mg) (F : FunD K "_law_take" "_law_take" (defArgs s_law_take) (defBody s_law_take) (defScope s_law_take) [] [] (He.ga K "_law_take") fd)   : FnOk P w K mg base CX0 1 (He.ga K "_law_take") fd ["box", "many"] (sp_law_take K) := by
  have nd := sc_law_take.nd
  refine F.ok (k := 0) sc_law_take (len_law_take K) (fun cdv A outer s H vs Q E hr h => ⟨t_law_take K, PSs.nox ?_, pure_law_take K vs H Q E h⟩)
  have hu : (A.deeper (envOfC "_law_take" (defScope s_law_take) s.heap.objs.size (He.ga K "_law_take") cdv)).units + 64 < cLine := by
    have h1 := hr.un
    omega
  skip
  exact (pss_cons (ps_if (PW.pt (pw_and (pt_val (pe_ix (ix_B hu) (pv 0) (pe_int) (fun _ _ => rfl))) (pw_and1 (pt_cmpR op_gtA (pe_ix (ix_B hu) (pv 0) (pe_int) (fun _ _ => rfl)) (pe_int) (nomark _))))) (pss_cons (ps_set (i := 2) nd (by rfl) (Or.inl rfl) (pe_op op_modA (pe_callTy call_intA (by rfl) T.b_int (by decide +kernel) (pa_cons (pe_ix (ix_B hu) (pv 0) (pe_int) (fun _ _ => rfl)) pa_nil)) (pv 1)))
    (pss_cons (ps_asg (pe_op op_divA (pe_ix (ix_B hu) (pv 0) (pe_int) (fun _ _ => rfl)) (pv 1)) (pg_sub (pv 0) (pe_int) (set_B hu)))
    (pss_one (ps_ret (pv 2))))) pss_nil)
    (pss_cons (ps_asg (pe_op op_addA (pe_ix (ix_B hu) (pv 0) (pe_int) (fun _ _ => rfl)) (pe_int)) (pg_sub (pv 0) (pe_int) (set_B hu)))
    (pss_cons (ps_set (i := 3) nd (by rfl) (Or.inl rfl) (pe_op op_modA (pe_callTy call_intA (by rfl) T.b_int (by decide +kernel) (pa_cons (pe_op op_powA (pe_op op_addA (pe_op op_addA (pe_ix (ix_B hu) (pv 0) (pe_int) (fun _ _ => rfl)) (pe_op op_mulA (pe_int) (pe_ix (ix_B hu) (pv 0) (pe_int) (fun _ _ => rfl)))) (pe_int)) (pe_int)) pa_nil)) (pe_int)))
    (pss_one (ps_ret (pe_op op_modA (pe_callTy call_intA (by rfl) T.b_int (by decide +kernel) (pa_cons (pe_op op_divA (pe_op op_modA (pe_callTy call_intA (by rfl) T.b_int (by decide +kernel) (pa_cons (pe_op op_powA (pe_op op_addA (pe_op op_mulA (pv 3) (pe_int)) (pe_op op_mulA (pe_int) (pe_ix (ix_B hu) (pv 0) (pe_int) (fun _ _ => rfl)))) (pe_int)) pa_nil)) (pe_int)) (pe_int)) pa_nil)) (pv 1)))))))
theorem ok_law_take (T : Txt P w K mg) (FD : ∃ fd, FunD K "_law_take" "_law_take" (defArgs s_law_take) (defBody s_law_take) (defScope s_law_take) [] [] (He.ga K "_law_take") fd) (hm : mg "_law_take" = some (.ref (He.ga K "_law_take")))   : Fok P w K mg base CX0 1 "_law_take" ["box", "many"] (sp_law_take K) := by
  obtain ⟨fd, F⟩ := FD
  exact ⟨⟨fd, okf_law_take T F  , F.bindsN fun _ _ _ _ _ _ us hl => match us, hl with | [_, _], _ => rfl⟩, hm, F.kp⟩
theorem sc_law_mixed : FnScope ["box", "items", "left", "found"] ["box", "items"] (defScope s_law_mixed) := ⟨rfl, rfl, rfl, by decide +kernel, rfl, by decide +kernel, by decide +kernel⟩
theorem okf_law_mixed {fd : FuncData} (T : Txt P w K mg) (F : FunD K "_law_mixed" "_law_mixed" (defArgs s_law_mixed) (defBody s_law_mixed) (defScope s_law_mixed) [] [] (He.ga K "_law_mixed") fd) (F_law_take : Fok P w K mg base CX0 1 "_law_take" ["box", "many"] (sp_law_take K))  : FnOk P w K mg base CX0 2 (He.ga K "_law_mixed") fd ["box", "items"] (sp_law_mixed K) := by
  have nd := sc_law_mixed.nd
  refine F.ok (k := 1) sc_law_mixed (len_law_mixed K) (fun cdv A outer s H vs Q E hr h => ⟨t_law_mixed K, PSs.nox ?_, pure_law_mixed K vs H Q E h⟩)
  have hu : (A.deeper (envOfC "_law_mixed" (defScope s_law_mixed) s.heap.objs.size (He.ga K "_law_mixed") cdv)).units + 64 < cLine := by
    have h1 := hr.un
    omega
  skip
  exact (pss_cons (ps_par (by rfl) nd rfl rfl (by decide) rfl rfl (pa_cons (pe_callTy call_listA (by rfl) T.b_list (by decide +kernel) (pa_cons (pv 1) pa_nil)) (pa_cons (pe_lst pa_nil) pa_nil)) (by rfl))
    (pss_cons (ps_while PassesOwn.never (pt_cmpR (op_neA hu) (pv 2) (pe_lst pa_nil) (nomark _)) (pss_one (ps_expr (pe_bmW PySem.F.plainAttrs_list PySem.F.slot_list_append PySem.F.type_list_append mt_append (pv 3) (pa_cons (pe_bmW PySem.F.plainAttrs_list PySem.F.slot_list_pop PySem.F.type_list_pop mt_popA (pv 2) (pa_cons (pe_callF F_law_take (hr.mono (by decide)) (by rfl) pass0 (pa_cons (pv 0) (pa_cons (pe_callB call_lenB (by rfl) T.b_len (by decide +kernel) (pa_cons (pv 2) pa_nil)) pa_nil))) pa_nil)) pa_nil)))))
    (pss_one (ps_ret (pv 3)))))
theorem ok_law_mixed (T : Txt P w K mg) (FD : ∃ fd, FunD K "_law_mixed" "_law_mixed" (defArgs s_law_mixed) (defBody s_law_mixed) (defScope s_law_mixed) [] [] (He.ga K "_law_mixed") fd) (hm : mg "_law_mixed" = some (.ref (He.ga K "_law_mixed"))) (F_law_take : Fok P w K mg base CX0 1 "_law_take" ["box", "many"] (sp_law_take K))  : Fok P w K mg base CX0 2 "_law_mixed" ["box", "items"] (sp_law_mixed K) := by
  obtain ⟨fd, F⟩ := FD
  exact ⟨⟨fd, okf_law_mixed T F F_law_take , F.bindsN fun _ _ _ _ _ _ us hl => match us, hl with | [_, _], _ => rfl⟩, hm, F.kp⟩
theorem sc_law_same : FnScope ["given", "due", "k"] ["given", "due"] (defScope s_law_same) := ⟨rfl, rfl, rfl, by decide +kernel, rfl, by decide +kernel, by decide +kernel⟩
theorem okf_law_same {fd : FuncData} (T : Txt P w K mg) (F : FunD K "_law_same" "_law_same" (defArgs s_law_same) (defBody s_law_same) (defScope s_law_same) [] [] (He.ga K "_law_same") fd) (hm : mg "_law_same" = some (.ref (He.ga K "_law_same")))   : ∀ n : Nat, FnOk P w K mg base CX0 (0 + n) (He.ga K "_law_same") fd ["given", "due"] (sp_law_same K n)
  | 0 => ⟨len_law_same K 0, by intros; exact (up_no (by assumption)).elim⟩
  | n + 1 => by
    have F_law_same : Fok P w K mg base CX0 (0 + n) "_law_same" ["given", "due"] (sp_law_same K n) := ⟨⟨fd, okf_law_same T F hm   n, F.bindsN fun _ _ _ _ _ _ us hl => match us, hl with | [_, _], _ => rfl⟩, hm, F.kp⟩
    have nd := sc_law_same.nd
    refine F.ok (k := 0 + n) sc_law_same (len_law_same K (n + 1)) (fun cdv A outer s H vs Q E hr h => ⟨t_law_same K n, PSs.nox ?_, pure_law_same K n vs H Q E h⟩)
    have hu : (A.deeper (envOfC "_law_same" (defScope s_law_same) s.heap.objs.size (He.ga K "_law_same") cdv)).units + 64 < cLine := by
      have h1 := hr.un
      omega
    skip
    exact (pss_cons (ps_if (PW.pt (pw_or (pt_cmpR op_isA (pv 1) (pe_non) (nomark _)) (pw_or1 (pt_val (pe_callB call_isi (by rfl) T.b_isinstance (by decide +kernel) (pa_cons (pv 1) (pa_cons (pe_bltn (by rfl) T.b_bool (by decide +kernel) rfl) pa_nil))))))) (pss_one (ps_ret (pe_ifExp (pt_cmpR op_isA (pv 1) (pe_non) (nomark _)) (pe_cmpR op_isA (pv 0) (pe_non) (nomark _)) ((pe_and (pe_callB call_isi (by rfl) T.b_isinstance (by decide +kernel) (pa_cons (pv 0) (pa_cons (pe_bltn (by rfl) T.b_bool (by decide +kernel) rfl) pa_nil))) (pe_one (pe_cmpR (op_eqA hu) (pe_cmpR op_isA (pv 0) (pe_bl) (nomark _)) (pe_cmpR op_isA (pv 1) (pe_bl) (nomark _)) (nomark _)))))))) pss_nil)
    (pss_cons (ps_if (pt_val (pe_callB call_isi (by rfl) T.b_isinstance (by decide +kernel) (pa_cons (pv 1) (pa_cons (pe_bltn (by rfl) T.b_int (by decide +kernel) rfl) pa_nil)))) (pss_one (ps_ret ((pe_and (pe_callB call_isi (by rfl) T.b_isinstance (by decide +kernel) (pa_cons (pv 0) (pa_cons (pe_bltn (by rfl) T.b_int (by decide +kernel) rfl) pa_nil))) (pe_and (pe_not (pe_callB call_isi (by rfl) T.b_isinstance (by decide +kernel) (pa_cons (pv 0) (pa_cons (pe_bltn (by rfl) T.b_bool (by decide +kernel) rfl) pa_nil)))) (pe_one (pe_cmpR (op_eqA hu) (pe_op op_subA (pe_callTy call_intA (by rfl) T.b_int (by decide +kernel) (pa_cons (pv 0) pa_nil)) (pv 1)) (pe_int) (nomark _)))))))) pss_nil)
    (pss_cons (ps_if (pt_val (pe_callB call_isi (by rfl) T.b_isinstance (by decide +kernel) (pa_cons (pv 1) (pa_cons (pe_bltn (by rfl) T.b_str (by decide +kernel) rfl) pa_nil)))) (pss_one (ps_ret ((pe_and (pe_callB call_isi (by rfl) T.b_isinstance (by decide +kernel) (pa_cons (pv 0) (pa_cons (pe_bltn (by rfl) T.b_str (by decide +kernel) rfl) pa_nil))) (pe_and (pe_cmpR (op_eqA hu) (pe_callB call_lenB (by rfl) T.b_len (by decide +kernel) (pa_cons (pv 0) pa_nil)) (pe_callB call_lenB (by rfl) T.b_len (by decide +kernel) (pa_cons (pv 1) pa_nil)) (nomark _)) (pe_one (pe_cmpR (op_eqA hu) (pe_lc (own := [("k", 2)]) rfl nd (pi_range1 (by rfl) T.b_range (pa_cons (pe_callB call_lenB (by rfl) T.b_len (by decide +kernel) (pa_cons (pv 1) pa_nil)) pa_nil)) (blkOk_by (own := [("k", 2)]) (N := ["given", "due", "k"]) (sc := defScope s_law_same) (by decide +kernel)) (fun _ _ _ _ _ => (pg_name (i := 2) nd (by rfl) (by first | exact Or.inl rfl | exact Or.inr rfl))) (fun _ _ _ _ _ => (pts_one (pt_cmpR (op_neA hu) (pe_slice sl_A (pv 0) (po_some (pv 2)) (po_some (pe_op op_addA (pv 2) (pe_int)))) (pe_ix (ix_B hu) (pv 1) (pv 2) (fun _ _ => rfl)) (nomark _)))) (fun _ _ _ _ _ => (pv 2))) (pe_lst pa_nil) (nomark _)))))))) pss_nil)
    (pss_cons (ps_if (PW.pt (pw_or (pt_cmpR (op_neA hu) (pe_callB call_isi (by rfl) T.b_isinstance (by decide +kernel) (pa_cons (pv 0) (pa_cons (pe_bltn (by rfl) T.b_list (by decide +kernel) rfl) pa_nil))) (pe_callB call_isi (by rfl) T.b_isinstance (by decide +kernel) (pa_cons (pv 1) (pa_cons (pe_bltn (by rfl) T.b_list (by decide +kernel) rfl) pa_nil))) (nomark _)) (pw_or1 (pt_cmpR (op_neA hu) (pe_callB call_isi (by rfl) T.b_isinstance (by decide +kernel) (pa_cons (pv 0) (pa_cons (pe_bltn (by rfl) T.b_tuple (by decide +kernel) rfl) pa_nil))) (pe_callB call_isi (by rfl) T.b_isinstance (by decide +kernel) (pa_cons (pv 1) (pa_cons (pe_bltn (by rfl) T.b_tuple (by decide +kernel) rfl) pa_nil))) (nomark _))))) (pss_one (ps_ret (pe_bl))) pss_nil)
    (pss_one (ps_ret ((pe_and (pe_cmpR (op_eqA hu) (pe_callB call_lenB (by rfl) T.b_len (by decide +kernel) (pa_cons (pv 0) pa_nil)) (pe_callB call_lenB (by rfl) T.b_len (by decide +kernel) (pa_cons (pv 1) pa_nil)) (nomark _)) (pe_one (pe_cmpR (op_eqA hu) (pe_lc (own := [("k", 2)]) rfl nd (pi_range1 (by rfl) T.b_range (pa_cons (pe_callB call_lenB (by rfl) T.b_len (by decide +kernel) (pa_cons (pv 1) pa_nil)) pa_nil)) (blkOk_by (own := [("k", 2)]) (N := ["given", "due", "k"]) (sc := defScope s_law_same) (by decide +kernel)) (fun _ _ _ _ _ => (pg_name (i := 2) nd (by rfl) (by first | exact Or.inl rfl | exact Or.inr rfl))) (fun _ _ _ _ _ => (pts_one (pt_not (pt_val (pe_callF F_law_same (hr.mono (by omega)) (by rfl) pass0 (pa_cons (pe_ix (ix_B hu) (pv 0) (pv 2) (fun _ _ => rfl)) (pa_cons (pe_ix (ix_B hu) (pv 1) (pv 2) (fun _ _ => rfl)) pa_nil))))))) (fun _ _ _ _ _ => (pv 2))) (pe_lst pa_nil) (nomark _)))))))))))
theorem ok_law_same (T : Txt P w K mg) (FD : ∃ fd, FunD K "_law_same" "_law_same" (defArgs s_law_same) (defBody s_law_same) (defScope s_law_same) [] [] (He.ga K "_law_same") fd) (hm : mg "_law_same" = some (.ref (He.ga K "_law_same")))   : Fok P w K mg base CX0 4 "_law_same" ["given", "due"] (sp_law_same K 4) := by
  obtain ⟨fd, F⟩ := FD
  exact ⟨⟨fd, okf_law_same T F hm   4, F.bindsN fun _ _ _ _ _ _ us hl => match us, hl with | [_, _], _ => rfl⟩, hm, F.kp⟩
theorem sc_law_copy : FnScope ["value", "found", "key", "item"] ["value"] (defScope s_law_copy) := ⟨rfl, rfl, rfl, by decide +kernel, rfl, by decide +kernel, by decide +kernel⟩
theorem okf_law_copy {fd : FuncData} (T : Txt P w K mg) (F : FunD K "_law_copy" "_law_copy" (defArgs s_law_copy) (defBody s_law_copy) (defScope s_law_copy) [] [] (He.ga K "_law_copy") fd) (hm : mg "_law_copy" = some (.ref (He.ga K "_law_copy")))   : ∀ n : Nat, FnOk P w K mg base CX0 (0 + n) (He.ga K "_law_copy") fd ["value"] (sp_law_copy K n)
  | 0 => ⟨len_law_copy K 0, by intros; exact (up_no (by assumption)).elim⟩
  | n + 1 => by
    have F_law_copy : Fok P w K mg base CX0 (0 + n) "_law_copy" ["value"] (sp_law_copy K n) := ⟨⟨fd, okf_law_copy T F hm   n, F.bindsN fun _ _ _ _ _ _ us hl => match us, hl with | [_], _ => rfl⟩, hm, F.kp⟩
    have nd := sc_law_copy.nd
    refine F.ok (k := 0 + n) sc_law_copy (len_law_copy K (n + 1)) (fun cdv A outer s H vs Q E hr h => ⟨t_law_copy K n, PSs.nox ?_, pure_law_copy K n vs H Q E h⟩)
    have hu : (A.deeper (envOfC "_law_copy" (defScope s_law_copy) s.heap.objs.size (He.ga K "_law_copy") cdv)).units + 64 < cLine := by
      have h1 := hr.un
      omega
    skip
    exact (pss_cons (ps_if (pt_val (pe_callB call_isi (by rfl) T.b_isinstance (by decide +kernel) (pa_cons (pv 0) (pa_cons (pe_bltn (by rfl) T.b_list (by decide +kernel) rfl) pa_nil)))) (pss_one (ps_ret (pe_lc (own := [("item", 3)]) rfl nd (pi_seq (pv 0)) (blkOk_by (own := [("item", 3)]) (N := ["value", "found", "key", "item"]) (sc := defScope s_law_copy) (by decide +kernel)) (fun _ _ _ _ _ => (pg_name (i := 3) nd (by rfl) (by first | exact Or.inl rfl | exact Or.inr rfl))) (fun _ _ _ _ _ => pts_nil) (fun _ _ _ _ _ => (pe_callF F_law_copy (hr.mono (by omega)) (by rfl) pass0 (pa_cons (pv 3) pa_nil)))))) pss_nil)
    (pss_cons (ps_if (pt_val (pe_callB call_isi (by rfl) T.b_isinstance (by decide +kernel) (pa_cons (pv 0) (pa_cons (pe_bltn (by rfl) T.b_tuple (by decide +kernel) rfl) pa_nil)))) (pss_one (ps_ret (pe_callTy call_tupA (by rfl) T.b_tuple (by decide +kernel) (pa_cons (pe_lc (own := [("item", 3)]) rfl nd (pi_seq (pv 0)) (blkOk_by (own := [("item", 3)]) (N := ["value", "found", "key", "item"]) (sc := defScope s_law_copy) (by decide +kernel)) (fun _ _ _ _ _ => (pg_name (i := 3) nd (by rfl) (by first | exact Or.inl rfl | exact Or.inr rfl))) (fun _ _ _ _ _ => pts_nil) (fun _ _ _ _ _ => (pe_callF F_law_copy (hr.mono (by omega)) (by rfl) pass0 (pa_cons (pv 3) pa_nil)))) pa_nil)))) pss_nil)
    (pss_cons (ps_set (i := 1) nd (by rfl) (Or.inl rfl) (pe_dnewK))
    (pss_cut (ps_if (pt_val (pe_callB call_isi (by rfl) T.b_isinstance (by decide +kernel) (pa_cons (pv 0) (pa_cons (pe_bltn (by rfl) T.b_dict (by decide +kernel) rfl) pa_nil)))) (pss_one (ps_lockW takes_no (fun W2 tk2 => ps_for PassesOwn.never rfl (pi_keys (pv 0)) (pg_name (i := 2) nd (by rfl) (by first | exact Or.inl rfl | exact Or.inr rfl)) (pss_one (ps_asg (pe_callF F_law_copy (hr.mono (by omega)) (by rfl) pass0 (pa_cons (pe_ix (ix_B hu) (pv 0) (pv 2) (fun _ _ => rfl)) pa_nil)) (pg_sub (pv 1) (pv 2) (set_B hu))))))) pss_nil)
    (pss_one (ps_ret (pe_ifExp (pt_val (pe_callB call_isi (by rfl) T.b_isinstance (by decide +kernel) (pa_cons (pv 0) (pa_cons (pe_bltn (by rfl) T.b_dict (by decide +kernel) rfl) pa_nil)))) (pv 1) (pv 0))))))))
theorem ok_law_copy (T : Txt P w K mg) (FD : ∃ fd, FunD K "_law_copy" "_law_copy" (defArgs s_law_copy) (defBody s_law_copy) (defScope s_law_copy) [] [] (He.ga K "_law_copy") fd) (hm : mg "_law_copy" = some (.ref (He.ga K "_law_copy")))   : Fok P w K mg base CX0 6 "_law_copy" ["value"] (sp_law_copy K 6) := by
  obtain ⟨fd, F⟩ := FD
  exact ⟨⟨fd, okf_law_copy T F hm   6, F.bindsN fun _ _ _ _ _ _ us hl => match us, hl with | [_], _ => rfl⟩, hm, F.kp⟩
theorem sc_law_entries : FnScope ["box", "many", "times", "found", "k", "begun", "ended", "kind", "key", "told"] ["box", "many"] (defScope s_law_entries) := ⟨rfl, rfl, rfl, by decide +kernel, rfl, by decide +kernel, by decide +kernel⟩
theorem okf_law_entries {fd : FuncData} (T : Txt P w K mg) (F : FunD K "_law_entries" "_law_entries" (defArgs s_law_entries) (defBody s_law_entries) (defScope s_law_entries) [] [] (He.ga K "_law_entries") fd) (F_law_mixed : Fok P w K mg base CX0 2 "_law_mixed" ["box", "items"] (sp_law_mixed K)) (F_law_take : Fok P w K mg base CX0 1 "_law_take" ["box", "many"] (sp_law_take K))  : FnOk P w K mg base CX0 3 (He.ga K "_law_entries") fd ["box", "many"] (sp_law_entries K) := by
  have nd := sc_law_entries.nd
  refine F.ok (k := 2) sc_law_entries (len_law_entries K) (fun cdv A outer s H vs Q E hr h => ⟨t_law_entries K, PSs.nox ?_, pure_law_entries K vs H Q E h⟩)
  have hu : (A.deeper (envOfC "_law_entries" (defScope s_law_entries) s.heap.objs.size (He.ga K "_law_entries") cdv)).units + 64 < cLine := by
    have h1 := hr.un
    omega
  skip
  exact (pss_cons (ps_par (by rfl) nd rfl rfl (by decide) rfl rfl (pa_cons (pe_callF F_law_mixed (hr.mono (by decide)) (by rfl) pass0 (pa_cons (pv 0) (pa_cons (pe_listRg rfl (by rfl) T.b_list (prg_2 (by rfl) T.b_range (pe_un un_neg (pe_int)) (pe_op op_addA (pe_op op_mulA (pe_int) (pv 1)) (pe_int)))) pa_nil))) (pa_cons (pe_lst pa_nil) pa_nil)) (by rfl))
    (pss_cons (ps_for PassesOwn.never rfl (pi_range1 (by rfl) T.b_range (pa_cons (pv 1) pa_nil)) (pg_name (i := 4) nd (by rfl) (by first | exact Or.inl rfl | exact Or.inr rfl)) (pss_cons (ps_asg (pe_callB (call_sortB rfl) (by rfl) T.b_sorted (by decide +kernel) (pa_cons (pe_lst (pa_cons (pe_bm0W PySem.F.plainAttrs_list PySem.F.slot_list_pop PySem.F.type_list_pop mt_popA (pv 2)) (pa_cons (pe_bm0W PySem.F.plainAttrs_list PySem.F.slot_list_pop PySem.F.type_list_pop mt_popA (pv 2)) pa_nil))) pa_nil)) (pg_tl (by rfl) (pgs_cons (pg_name (i := 5) nd (by rfl) (by first | exact Or.inl rfl | exact Or.inr rfl)) (pgs_cons (pg_name (i := 6) nd (by rfl) (by first | exact Or.inl rfl | exact Or.inr rfl)) pgs_nil))))
    (pss_cons (ps_par (by rfl) nd rfl rfl (by decide) rfl rfl (pa_cons (pe_ix (ix_B hu) (pe_lst (pa_cons (pe_str) (pa_cons (pe_str) (pa_cons (pe_str) (pa_cons (pe_str) (pa_cons (pe_str) pa_nil)))))) (pe_callF F_law_take (hr.mono (by decide)) (by rfl) pass0 (pa_cons (pv 0) (pa_cons (pe_int) pa_nil))) (fun _ _ => rfl)) (pa_cons (pe_ix (ix_B hu) (pe_lst (pa_cons (pe_int) (pa_cons (pe_int) (pa_cons (pe_int) (pa_cons (pe_int) pa_nil))))) (pe_callF F_law_take (hr.mono (by decide)) (by rfl) pass0 (pa_cons (pv 0) (pa_cons (pe_int) pa_nil))) (fun _ _ => rfl)) pa_nil)) (by rfl))
    (pss_cons (ps_set (i := 9) nd (by rfl) (Or.inl rfl) (pe_ifExp (pt_cmpR (op_eqA hu) (pv 7) (pe_str) (nomark _)) (pe_ix (ix_B hu) (pe_lst (pa_cons (pe_str) (pa_cons (pe_str) pa_nil))) (pe_callF F_law_take (hr.mono (by decide)) (by rfl) pass0 (pa_cons (pv 0) (pa_cons (pe_int) pa_nil))) (fun _ _ => rfl)) (pe_callF F_law_take (hr.mono (by decide)) (by rfl) pass0 (pa_cons (pv 0) (pa_cons (pe_int) pa_nil)))))
    (pss_one (ps_expr (pe_bmW PySem.F.plainAttrs_list PySem.F.slot_list_append PySem.F.type_list_append mt_append (pv 3) (pa_cons (pe_tup (pa_cons (pv 5) (pa_cons (pv 6) (pa_cons (pe_tup (pa_cons (pv 7) (pa_cons (pv 8) pa_nil))) (pa_cons (pv 9) pa_nil))))) pa_nil))))))))
    (pss_one (ps_ret (pv 3)))))
theorem ok_law_entries (T : Txt P w K mg) (FD : ∃ fd, FunD K "_law_entries" "_law_entries" (defArgs s_law_entries) (defBody s_law_entries) (defScope s_law_entries) [] [] (He.ga K "_law_entries") fd) (hm : mg "_law_entries" = some (.ref (He.ga K "_law_entries"))) (F_law_mixed : Fok P w K mg base CX0 2 "_law_mixed" ["box", "items"] (sp_law_mixed K)) (F_law_take : Fok P w K mg base CX0 1 "_law_take" ["box", "many"] (sp_law_take K))  : Fok P w K mg base CX0 3 "_law_entries" ["box", "many"] (sp_law_entries K) := by
  obtain ⟨fd, F⟩ := FD
  exact ⟨⟨fd, okf_law_entries T F F_law_mixed F_law_take , F.bindsN fun _ _ _ _ _ _ us hl => match us, hl with | [_, _], _ => rfl⟩, hm, F.kp⟩
theorem sc_law_honest : FnScope ["box", "many", "keys", "there", "found", "at", "k", "kind", "key", "told", "other"] ["box", "many"] (defScope s_law_honest) := ⟨rfl, rfl, rfl, by decide +kernel, rfl, by decide +kernel, by decide +kernel⟩
theorem okf_law_honest {fd : FuncData} (T : Txt P w K mg) (F : FunD K "_law_honest" "_law_honest" (defArgs s_law_honest) (defBody s_law_honest) (defScope s_law_honest) [] [] (He.ga K "_law_honest") fd) (F_law_take : Fok P w K mg base CX0 1 "_law_take" ["box", "many"] (sp_law_take K))  : FnOk P w K mg base CX0 2 (He.ga K "_law_honest") fd ["box", "many"] (sp_law_honest K) := by
  have nd := sc_law_honest.nd
  refine F.ok (k := 1) sc_law_honest (len_law_honest K) (fun cdv A outer s H vs Q E hr h => ⟨t_law_honest K, PSs.nox ?_, pure_law_honest K vs H Q E h⟩)
  have hu : (A.deeper (envOfC "_law_honest" (defScope s_law_honest) s.heap.objs.size (He.ga K "_law_honest") cdv)).units + 64 < cLine := by
    have h1 := hr.un
    omega
  skip
  exact (pss_cons (ps_setLc (own := [("key", 8)]) (i := 2) rfl nd rfl rfl (sw_true rfl rfl rfl (by decide +kernel)) (pi_seq (pe_lst (pa_cons (pe_int) (pa_cons (pe_int) (pa_cons (pe_int) pa_nil))))) (blkOk_by (own := [("key", 8)]) (N := ["box", "many", "keys", "there", "found", "at", "k", "kind", "key", "told", "other"]) (sc := defScope s_law_honest) (by decide +kernel)) (fun _ _ _ _ _ => (pg_name (i := 8) nd (by rfl) (by first | exact Or.inl rfl | exact Or.inr rfl))) (fun _ _ _ _ _ => (pts_one (pt_cmpR (op_eqA hu) (pe_callF F_law_take (hr.mono (by decide)) (by rfl) pass0 (pa_cons (pv 0) (pa_cons (pe_int) pa_nil))) (pe_int) (nomark _)))) (fun _ _ _ _ _ => (pv 8)))
    (pss_cons (ps_par3 (by rfl) nd rfl rfl rfl (by decide) (by decide) (by decide) rfl rfl rfl (pa_cons (pe_callTy call_listA (by rfl) T.b_list (by decide +kernel) (pa_cons (pv 2) pa_nil)) (pa_cons (pe_lst pa_nil) (pa_cons (pe_int) pa_nil))) (by rfl))
    (pss_cons (ps_for PassesOwn.never rfl (pi_range1 (by rfl) T.b_range (pa_cons (pv 1) pa_nil)) (pg_name (i := 6) nd (by rfl) (by first | exact Or.inl rfl | exact Or.inr rfl)) (pss_cons (ps_asg (pe_tup (pa_cons (pe_ix (ix_B hu) (pe_lst (pa_cons (pe_str) (pa_cons (pe_str) (pa_cons (pe_str) (pa_cons (pe_str) (pa_cons (pe_str) pa_nil)))))) (pe_callF F_law_take (hr.mono (by decide)) (by rfl) pass0 (pa_cons (pv 0) (pa_cons (pe_int) pa_nil))) (fun _ _ => rfl)) (pa_cons (pe_ix (ix_B hu) (pe_lst (pa_cons (pe_int) (pa_cons (pe_int) (pa_cons (pe_int) (pa_cons (pe_int) pa_nil))))) (pe_callF F_law_take (hr.mono (by decide)) (by rfl) pass0 (pa_cons (pv 0) (pa_cons (pe_int) pa_nil))) (fun _ _ => rfl)) pa_nil))) (pg_tup (by rfl) (pgs_cons (pg_name (i := 7) nd (by rfl) (by first | exact Or.inl rfl | exact Or.inr rfl)) (pgs_cons (pg_name (i := 8) nd (by rfl) (by first | exact Or.inl rfl | exact Or.inr rfl)) pgs_nil))))
    (pss_cons (ps_set (i := 9) nd (by rfl) (Or.inl rfl) (pe_callTy call_intA (by rfl) T.b_int (by decide +kernel) (pa_cons (pe_cmpR (op_inB hu) (pv 8) (pv 3) (by rfl)) pa_nil)))
    (pss_cut (ps_if (pt_cmpR (op_eqA hu) (pv 7) (pe_str) (nomark _)) (pss_one (ps_set (i := 9) nd (by rfl) (Or.inl rfl) (pe_ifExp (pt_cmpR (op_inB hu) (pv 8) (pv 3) (by rfl)) (pe_str) (pe_str)))) pss_nil)
    (pss_cut (ps_if (pt_cmpR (op_eqA hu) (pv 7) (pe_str) (nomark _)) (pss_one (ps_setLc (own := [("other", 10)]) (i := 3) rfl nd rfl rfl (sw_true rfl rfl rfl (by decide +kernel)) (pi_seq (pv 3)) (blkOk_by (own := [("other", 10)]) (N := ["box", "many", "keys", "there", "found", "at", "k", "kind", "key", "told", "other"]) (sc := defScope s_law_honest) (by decide +kernel)) (fun _ _ _ _ _ => (pg_name (i := 10) nd (by rfl) (by first | exact Or.inl rfl | exact Or.inr rfl))) (fun _ _ _ _ _ => (pts_one (pt_cmpR (op_neA hu) (pv 10) (pv 8) (nomark _)))) (fun _ _ _ _ _ => (pv 10)))) pss_nil)
    (pss_cut (ps_if (PW.pt (pw_and (pt_cmpR (op_eqA hu) (pv 7) (pe_str) (nomark _)) (pw_and1 (pt_cmpR (op_eqA hu) (pv 9) (pe_str) (nomark _))))) (pss_one (ps_expr (pe_bmW PySem.F.plainAttrs_list PySem.F.slot_list_append PySem.F.type_list_append mt_append (pv 3) (pa_cons (pv 8) pa_nil)))) pss_nil)
    (pss_cons (ps_expr (pe_bmW PySem.F.plainAttrs_list PySem.F.slot_list_append PySem.F.type_list_append mt_append (pv 4) (pa_cons (pe_tup (pa_cons (pe_op op_subA (pe_op op_subA (pe_op op_mulA (pe_int) (pv 5)) (pe_op op_mulA (pe_ix (ix_B hu) (pe_lst (pa_cons (pe_int) (pa_cons (pe_int) (pa_cons (pe_int) pa_nil)))) (pe_callF F_law_take (hr.mono (by decide)) (by rfl) pass0 (pa_cons (pv 0) (pa_cons (pe_int) pa_nil))) (fun _ _ => rfl)) (pe_int))) (pv 6)) (pa_cons (pe_op op_addA (pe_op op_addA (pe_op op_mulA (pe_int) (pv 5)) (pe_op op_mulA (pe_ix (ix_B hu) (pe_lst (pa_cons (pe_int) (pa_cons (pe_int) (pa_cons (pe_int) pa_nil)))) (pe_callF F_law_take (hr.mono (by decide)) (by rfl) pass0 (pa_cons (pv 0) (pa_cons (pe_int) pa_nil))) (fun _ _ => rfl)) (pe_int))) (pv 6)) (pa_cons (pe_tup (pa_cons (pv 7) (pa_cons (pv 8) pa_nil))) (pa_cons (pv 9) pa_nil))))) pa_nil)))
    (pss_one (ps_set (i := 5) nd (by rfl) (Or.inl rfl) (pe_op op_addA (pv 5) (pe_int)))))))))))
    (pss_one (ps_ret (pe_tup (pa_cons (pv 2) (pa_cons (pv 4) pa_nil))))))))
theorem ok_law_honest (T : Txt P w K mg) (FD : ∃ fd, FunD K "_law_honest" "_law_honest" (defArgs s_law_honest) (defBody s_law_honest) (defScope s_law_honest) [] [] (He.ga K "_law_honest") fd) (hm : mg "_law_honest" = some (.ref (He.ga K "_law_honest"))) (F_law_take : Fok P w K mg base CX0 1 "_law_take" ["box", "many"] (sp_law_take K))  : Fok P w K mg base CX0 2 "_law_honest" ["box", "many"] (sp_law_honest K) := by
  obtain ⟨fd, F⟩ := FD
  exact ⟨⟨fd, okf_law_honest T F F_law_take , F.bindsN fun _ _ _ _ _ _ us hl => match us, hl with | [_, _], _ => rfl⟩, hm, F.kp⟩
theorem sc_law_have_unlike_times : FnScope ["history", "times", "entry", "time"] ["history"] (defScope s_law_have_unlike_times) := ⟨rfl, rfl, rfl, by decide +kernel, rfl, by decide +kernel, by decide +kernel⟩
theorem okf_law_have_unlike_times {fd : FuncData} (T : Txt P w K mg) (F : FunD K "_law_have_unlike_times" "_law_have_unlike_times" (defArgs s_law_have_unlike_times) (defBody s_law_have_unlike_times) (defScope s_law_have_unlike_times) [] [] (He.ga K "_law_have_unlike_times") fd)   : FnOk P w K mg base CX0 1 (He.ga K "_law_have_unlike_times") fd ["history"] (sp_law_have_unlike_times K) := by
  have nd := sc_law_have_unlike_times.nd
  refine F.ok (k := 0) sc_law_have_unlike_times (len_law_have_unlike_times K) (fun cdv A outer s H vs Q E hr h => ⟨t_law_have_unlike_times K, PSs.nox ?_, pure_law_have_unlike_times K vs H Q E h⟩)
  have hu : (A.deeper (envOfC "_law_have_unlike_times" (defScope s_law_have_unlike_times) s.heap.objs.size (He.ga K "_law_have_unlike_times") cdv)).units + 64 < cLine := by
    have h1 := hr.un
    omega
  skip
  exact (pss_cons (ps_set (i := 1) nd (by rfl) (Or.inl rfl) (pe_op op_addA (pe_lc (own := [("entry", 2)]) rfl nd (pi_seq (pe_ix (ix_B hu) (pv 0) (pe_int) (fun _ _ => rfl))) (blkOk_by (own := [("entry", 2)]) (N := ["history", "times", "entry", "time"]) (sc := defScope s_law_have_unlike_times) (by decide +kernel)) (fun _ _ _ _ _ => (pg_name (i := 2) nd (by rfl) (by first | exact Or.inl rfl | exact Or.inr rfl))) (fun _ _ _ _ _ => pts_nil) (fun _ _ _ _ _ => (pe_ix (ix_B hu) (pv 2) (pe_int) (fun _ _ => rfl)))) (pe_lc (own := [("entry", 2)]) rfl nd (pi_seq (pe_ix (ix_B hu) (pv 0) (pe_int) (fun _ _ => rfl))) (blkOk_by (own := [("entry", 2)]) (N := ["history", "times", "entry", "time"]) (sc := defScope s_law_have_unlike_times) (by decide +kernel)) (fun _ _ _ _ _ => (pg_name (i := 2) nd (by rfl) (by first | exact Or.inl rfl | exact Or.inr rfl))) (fun _ _ _ _ _ => pts_nil) (fun _ _ _ _ _ => (pe_ix (ix_B hu) (pv 2) (pe_int) (fun _ _ => rfl))))))
    (pss_one (ps_ret (pe_cmpR (op_eqA hu) (pe_callB call_lenB (by rfl) T.b_len (by decide +kernel) (pa_cons (pe_callTy (call_dictA rfl) (by rfl) T.b_dict (by decide +kernel) (pa_cons (pe_lc (own := [("time", 3)]) rfl nd (pi_seq (pv 1)) (blkOk_by (own := [("time", 3)]) (N := ["history", "times", "entry", "time"]) (sc := defScope s_law_have_unlike_times) (by decide +kernel)) (fun _ _ _ _ _ => (pg_name (i := 3) nd (by rfl) (by first | exact Or.inl rfl | exact Or.inr rfl))) (fun _ _ _ _ _ => pts_nil) (fun _ _ _ _ _ => (pe_tup (pa_cons (pv 3) (pa_cons (pe_int) pa_nil))))) pa_nil)) pa_nil)) (pe_callB call_lenB (by rfl) T.b_len (by decide +kernel) (pa_cons (pv 1) pa_nil)) (nomark _)))))
theorem ok_law_have_unlike_times (T : Txt P w K mg) (FD : ∃ fd, FunD K "_law_have_unlike_times" "_law_have_unlike_times" (defArgs s_law_have_unlike_times) (defBody s_law_have_unlike_times) (defScope s_law_have_unlike_times) [] [] (He.ga K "_law_have_unlike_times") fd) (hm : mg "_law_have_unlike_times" = some (.ref (He.ga K "_law_have_unlike_times")))   : Fok P w K mg base CX0 1 "_law_have_unlike_times" ["history"] (sp_law_have_unlike_times K) := by
  obtain ⟨fd, F⟩ := FD
  exact ⟨⟨fd, okf_law_have_unlike_times T F  , F.bindsN fun _ _ _ _ _ _ us hl => match us, hl with | [_], _ => rfl⟩, hm, F.kp⟩
theorem sc_law_history : FnScope ["box", "many", "way", "history", "entries", "turn", "at", "begun", "ended", "asked", "told", "key"] ["box"] (defScope s_law_history) := ⟨rfl, rfl, rfl, by decide +kernel, rfl, by decide +kernel, by decide +kernel⟩
theorem okf_law_history {fd : FuncData} (T : Txt P w K mg) (F : FunD K "_law_history" "_law_history" (defArgs s_law_history) (defBody s_law_history) (defScope s_law_history) [] [] (He.ga K "_law_history") fd) (F_law_take : Fok P w K mg base CX0 1 "_law_take" ["box", "many"] (sp_law_take K)) (F_law_entries : Fok P w K mg base CX0 3 "_law_entries" ["box", "many"] (sp_law_entries K)) (F_law_honest : Fok P w K mg base CX0 2 "_law_honest" ["box", "many"] (sp_law_honest K)) (F_law_have_unlike_times : Fok P w K mg base CX0 1 "_law_have_unlike_times" ["history"] (sp_law_have_unlike_times K))  : FnOk P w K mg base CX0 4 (He.ga K "_law_history") fd ["box"] (sp_law_history K) := by
  have nd := sc_law_history.nd
  refine F.ok (k := 3) sc_law_history (len_law_history K) (fun cdv A outer s H vs Q E hr h => ⟨t_law_history K, PSs.nox ?_, pure_law_history K vs H Q E h⟩)
  have hu : (A.deeper (envOfC "_law_history" (defScope s_law_history) s.heap.objs.size (He.ga K "_law_history") cdv)).units + 64 < cLine := by
    have h1 := hr.un
    omega
  skip
  exact (pss_cons (ps_par (by rfl) nd rfl rfl (by decide) rfl rfl (pa_cons (pe_op op_addA (pe_int) (pe_callF F_law_take (hr.mono (by decide)) (by rfl) pass0 (pa_cons (pv 0) (pa_cons (pe_int) pa_nil)))) (pa_cons (pe_callF F_law_take (hr.mono (by decide)) (by rfl) pass0 (pa_cons (pv 0) (pa_cons (pe_int) pa_nil))) pa_nil)) (by rfl))
    (pss_cons (ps_if (pt_cmpR (op_eqA hu) (pv 2) (pe_int) (nomark _)) (pss_one (ps_ret (pe_tup (pa_cons (pe_lc (own := [("key", 11)]) rfl nd (pi_seq (pe_lst (pa_cons (pe_int) (pa_cons (pe_int) (pa_cons (pe_int) pa_nil))))) (blkOk_by (own := [("key", 11)]) (N := ["box", "many", "way", "history", "entries", "turn", "at", "begun", "ended", "asked", "told", "key"]) (sc := defScope s_law_history) (by decide +kernel)) (fun _ _ _ _ _ => (pg_name (i := 11) nd (by rfl) (by first | exact Or.inl rfl | exact Or.inr rfl))) (fun _ _ _ _ _ => (pts_one (pt_cmpR (op_eqA hu) (pe_callF F_law_take (hr.mono (by decide)) (by rfl) pass0 (pa_cons (pv 0) (pa_cons (pe_int) pa_nil))) (pe_int) (nomark _)))) (fun _ _ _ _ _ => (pv 11))) (pa_cons (pe_callF F_law_entries (hr.mono (by decide)) (by rfl) pass0 (pa_cons (pv 0) (pa_cons (pv 1) pa_nil))) pa_nil))))) pss_nil)
    (pss_cons (ps_set (i := 3) nd (by rfl) (Or.inl rfl) (pe_callF F_law_honest (hr.mono (by decide)) (by rfl) pass0 (pa_cons (pv 0) (pa_cons (pv 1) pa_nil))))
    (pss_cons (ps_if (pt_not (pt_val (pe_callF F_law_have_unlike_times (hr.mono (by decide)) (by rfl) pass0 (pa_cons (pv 3) pa_nil)))) (pss_one (ps_ret (pe_tup (pa_cons (pe_ix (ix_B hu) (pv 3) (pe_int) (fun _ _ => rfl)) (pa_cons (pe_callF F_law_entries (hr.mono (by decide)) (by rfl) pass0 (pa_cons (pv 0) (pa_cons (pe_callB (call_minA rfl) (by rfl) T.b_min (by decide +kernel) (pa_cons (pv 1) (pa_cons (pe_int) pa_nil))) pa_nil))) pa_nil))))) pss_nil)
    (pss_cons (ps_set (i := 4) nd (by rfl) (Or.inl rfl) (pe_callTy call_listA (by rfl) T.b_list (by decide +kernel) (pa_cons (pe_ix (ix_B hu) (pv 3) (pe_int) (fun _ _ => rfl)) pa_nil)))
    (pss_cons (ps_for PassesOwn.never rfl (pi_range1 (by rfl) T.b_range (pa_cons (pe_op op_subA (pv 2) (pe_int)) pa_nil)) (pg_name (i := 5) nd (by rfl) (by first | exact Or.inl rfl | exact Or.inr rfl)) (pss_cons (ps_set (i := 6) nd (by rfl) (Or.inl rfl) (pe_callF F_law_take (hr.mono (by decide)) (by rfl) pass0 (pa_cons (pv 0) (pa_cons (pv 1) pa_nil))))
    (pss_cons (ps_asg (pe_ix (ix_B hu) (pv 4) (pv 6) (fun _ _ => rfl)) (pg_tup (by rfl) (pgs_cons (pg_name (i := 7) nd (by rfl) (by first | exact Or.inl rfl | exact Or.inr rfl)) (pgs_cons (pg_name (i := 8) nd (by rfl) (by first | exact Or.inl rfl | exact Or.inr rfl)) (pgs_cons (pg_name (i := 9) nd (by rfl) (by first | exact Or.inl rfl | exact Or.inr rfl)) (pgs_cons (pg_name (i := 10) nd (by rfl) (by first | exact Or.inl rfl | exact Or.inr rfl)) pgs_nil))))))
    (pss_one (ps_asg (pe_tup (pa_cons (pv 7) (pa_cons (pv 8) (pa_cons (pv 9) (pa_cons (pe_ifExp (pt_cmpR (op_eqA hu) (pe_ix (ix_B hu) (pv 9) (pe_int) (fun _ _ => rfl)) (pe_str) (nomark _)) (pe_ix (ix_B hu) (pe_disp (pps_cons (pe_str) (pe_str) (pps_cons (pe_str) (pe_str) pps_nil)) (by rfl) (by rfl) (fun z => by cases z) (by decide)) (pv 10) (fun _ _ => rfl)) (pe_op op_subA (pe_int) (pv 10))) pa_nil))))) (pg_sub (pv 4) (pv 6) (set_B hu)))))))
    (pss_one (ps_ret (pe_tup (pa_cons (pe_ix (ix_B hu) (pv 3) (pe_int) (fun _ _ => rfl)) (pa_cons (pv 4) pa_nil)))))))))))
theorem ok_law_history (T : Txt P w K mg) (FD : ∃ fd, FunD K "_law_history" "_law_history" (defArgs s_law_history) (defBody s_law_history) (defScope s_law_history) [] [] (He.ga K "_law_history") fd) (hm : mg "_law_history" = some (.ref (He.ga K "_law_history"))) (F_law_take : Fok P w K mg base CX0 1 "_law_take" ["box", "many"] (sp_law_take K)) (F_law_entries : Fok P w K mg base CX0 3 "_law_entries" ["box", "many"] (sp_law_entries K)) (F_law_honest : Fok P w K mg base CX0 2 "_law_honest" ["box", "many"] (sp_law_honest K)) (F_law_have_unlike_times : Fok P w K mg base CX0 1 "_law_have_unlike_times" ["history"] (sp_law_have_unlike_times K))  : Fok P w K mg base CX0 4 "_law_history" ["box"] (sp_law_history K) := by
  obtain ⟨fd, F⟩ := FD
  exact ⟨⟨fd, okf_law_history T F F_law_take F_law_entries F_law_honest F_law_have_unlike_times , F.bindsN fun _ _ _ _ _ _ us hl => match us, hl with | [_], _ => rfl⟩, hm, F.kp⟩
theorem sc_law_has_order : FnScope ["keys", "entries", "left", "there", "number", "begun", "ended", "asked", "told", "fits", "after", "other"] ["keys", "entries", "left", "there"] (defScope s_law_has_order) := ⟨rfl, rfl, rfl, by decide +kernel, rfl, by decide +kernel, by decide +kernel⟩
theorem okf_law_has_order {fd : FuncData} (T : Txt P w K mg) (F : FunD K "_law_has_order" "_law_has_order" (defArgs s_law_has_order) (defBody s_law_has_order) (defScope s_law_has_order) [] [] (He.ga K "_law_has_order") fd) (hm : mg "_law_has_order" = some (.ref (He.ga K "_law_has_order")))   : ∀ n : Nat, FnOk P w K mg base CX0 (0 + n) (He.ga K "_law_has_order") fd ["keys", "entries", "left", "there"] (sp_law_has_order K n)
  | 0 => ⟨len_law_has_order K 0, by intros; exact (up_no (by assumption)).elim⟩
  | n + 1 => by
    have F_law_has_order : Fok P w K mg base CX0 (0 + n) "_law_has_order" ["keys", "entries", "left", "there"] (sp_law_has_order K n) := ⟨⟨fd, okf_law_has_order T F hm   n, F.bindsN fun _ _ _ _ _ _ us hl => match us, hl with | [_, _, _, _], _ => rfl⟩, hm, F.kp⟩
    have nd := sc_law_has_order.nd
    refine F.ok (k := 0 + n) sc_law_has_order (len_law_has_order K (n + 1)) (fun cdv A outer s H vs Q E hr h => ⟨t_law_has_order K n, PSs.nox ?_, pure_law_has_order K n vs H Q E h⟩)
    have hu : (A.deeper (envOfC "_law_has_order" (defScope s_law_has_order) s.heap.objs.size (He.ga K "_law_has_order") cdv)).units + 64 < cLine := by
      have h1 := hr.un
      omega
    skip
    exact (pss_cons (ps_if (pt_cmpR (op_eqA hu) (pv 2) (pe_lst pa_nil) (nomark _)) (pss_one (ps_ret (pe_bl))) pss_nil)
    (pss_cons (ps_for PassesOwn.never rfl (pi_seq (pv 2)) (pg_name (i := 4) nd (by rfl) (by first | exact Or.inl rfl | exact Or.inr rfl)) (pss_cons (ps_asg (pe_ix (ix_B hu) (pv 1) (pv 4) (fun _ _ => rfl)) (pg_tup (by rfl) (pgs_cons (pg_name (i := 5) nd (by rfl) (by first | exact Or.inl rfl | exact Or.inr rfl)) (pgs_cons (pg_name (i := 6) nd (by rfl) (by first | exact Or.inl rfl | exact Or.inr rfl)) (pgs_cons (pg_name (i := 7) nd (by rfl) (by first | exact Or.inl rfl | exact Or.inr rfl)) (pgs_cons (pg_name (i := 8) nd (by rfl) (by first | exact Or.inl rfl | exact Or.inr rfl)) pgs_nil))))))
    (pss_cons (ps_if (pt_cmpR (op_neA hu) (pe_lc (own := [("other", 11)]) rfl nd (pi_seq (pv 2)) (blkOk_by (own := [("other", 11)]) (N := ["keys", "entries", "left", "there", "number", "begun", "ended", "asked", "told", "fits", "after", "other"]) (sc := defScope s_law_has_order) (by decide +kernel)) (fun _ _ _ _ _ => (pg_name (i := 11) nd (by rfl) (by first | exact Or.inl rfl | exact Or.inr rfl))) (fun _ _ _ _ _ => (pts_one (pt_cmpR op_ltA (pe_ix (ix_B hu) (pe_ix (ix_B hu) (pv 1) (pv 11) (fun _ _ => rfl)) (pe_int) (fun _ _ => rfl)) (pv 5) (nomark _)))) (fun _ _ _ _ _ => (pv 11))) (pe_lst pa_nil) (nomark _)) (pss_one (ps_continue)) pss_nil)
    (pss_cons (ps_set (i := 9) nd (by rfl) (Or.inl rfl) (pe_ifExp (pt_cmpR (op_eqA hu) (pe_ix (ix_B hu) (pv 7) (pe_int) (fun _ _ => rfl)) (pe_str) (nomark _)) (pe_cmpR (op_eqA hu) (pv 8) (pe_ifExp (pt_val (pv 3)) (pe_str) (pe_str)) (nomark _)) (pe_cmpR (op_eqA hu) (pv 8) (pe_callTy call_intA (by rfl) T.b_int (by decide +kernel) (pa_cons (pv 3) pa_nil)) (nomark _))))
    (pss_cons (ps_set (i := 10) nd (by rfl) (Or.inl rfl) (pe_ifExp (pt_cmpR (op_neA hu) (pe_ix (ix_B hu) (pv 7) (pe_int) (fun _ _ => rfl)) (pe_str) (nomark _)) ((pe_or (pv 3) (pe_one (pe_cmpR (op_eqA hu) (pe_ix (ix_B hu) (pv 7) (pe_int) (fun _ _ => rfl)) (pe_str) (nomark _))))) (pe_bl)))
    (pss_one (ps_if (PW.pt (pw_and (pt_val (pv 9)) (pw_and1 (pt_val (pe_callF F_law_has_order (hr.mono (by omega)) (by rfl) pass0 (pa_cons (pv 0) (pa_cons (pv 1) (pa_cons (pe_lc (own := [("other", 11)]) rfl nd (pi_seq (pv 2)) (blkOk_by (own := [("other", 11)]) (N := ["keys", "entries", "left", "there", "number", "begun", "ended", "asked", "told", "fits", "after", "other"]) (sc := defScope s_law_has_order) (by decide +kernel)) (fun _ _ _ _ _ => (pg_name (i := 11) nd (by rfl) (by first | exact Or.inl rfl | exact Or.inr rfl))) (fun _ _ _ _ _ => (pts_one (pt_cmpR (op_neA hu) (pv 11) (pv 4) (nomark _)))) (fun _ _ _ _ _ => (pv 11))) (pa_cons (pv 10) pa_nil))))))))) (pss_one (ps_ret (pe_bl))) pss_nil)))))))
    (pss_one (ps_ret (pe_bl)))))
theorem ok_law_has_order (T : Txt P w K mg) (FD : ∃ fd, FunD K "_law_has_order" "_law_has_order" (defArgs s_law_has_order) (defBody s_law_has_order) (defScope s_law_has_order) [] [] (He.ga K "_law_has_order") fd) (hm : mg "_law_has_order" = some (.ref (He.ga K "_law_has_order")))   : Fok P w K mg base CX0 9 "_law_has_order" ["keys", "entries", "left", "there"] (sp_law_has_order K 9) := by
  obtain ⟨fd, F⟩ := FD
  exact ⟨⟨fd, okf_law_has_order T F hm   9, F.bindsN fun _ _ _ _ _ _ us hl => match us, hl with | [_, _, _, _], _ => rfl⟩, hm, F.kp⟩
theorem sc_law_bad : FnScope ["history", "keys", "entries", "wanted", "found", "key", "mine", "entry"] ["history"] (defScope s_law_bad) := ⟨rfl, rfl, rfl, by decide +kernel, rfl, by decide +kernel, by decide +kernel⟩
theorem okf_law_bad {fd : FuncData} (T : Txt P w K mg) (F : FunD K "_law_bad" "_law_bad" (defArgs s_law_bad) (defBody s_law_bad) (defScope s_law_bad) [] [] (He.ga K "_law_bad") fd) (F_law_has_order : Fok P w K mg base CX0 9 "_law_has_order" ["keys", "entries", "left", "there"] (sp_law_has_order K 9))  : FnOk P w K mg base CX0 10 (He.ga K "_law_bad") fd ["history"] (sp_law_bad K) := by
  have nd := sc_law_bad.nd
  refine F.ok (k := 9) sc_law_bad (len_law_bad K) (fun cdv A outer s H vs Q E hr h => ⟨t_law_bad K, PSs.nox ?_, pure_law_bad K vs H Q E h⟩)
  have hu : (A.deeper (envOfC "_law_bad" (defScope s_law_bad) s.heap.objs.size (He.ga K "_law_bad") cdv)).units + 64 < cLine := by
    have h1 := hr.un
    omega
  skip
  exact (pss_cons (ps_asg (pv 0) (pg_tup (by rfl) (pgs_cons (pg_name (i := 1) nd (by rfl) (by first | exact Or.inl rfl | exact Or.inr rfl)) (pgs_cons (pg_name (i := 2) nd (by rfl) (by first | exact Or.inl rfl | exact Or.inr rfl)) pgs_nil))))
    (pss_cons (ps_set (i := 3) nd (by rfl) (Or.inl rfl) (pe_callB (call_sortB rfl) (by rfl) T.b_sorted (by decide +kernel) (pa_cons (pe_callTy (call_dictA rfl) (by rfl) T.b_dict (by decide +kernel) (pa_cons (pe_lc (own := [("entry", 7)]) rfl nd (pi_seq (pv 2)) (blkOk_by (own := [("entry", 7)]) (N := ["history", "keys", "entries", "wanted", "found", "key", "mine", "entry"]) (sc := defScope s_law_bad) (by decide +kernel)) (fun _ _ _ _ _ => (pg_name (i := 7) nd (by rfl) (by first | exact Or.inl rfl | exact Or.inr rfl))) (fun _ _ _ _ _ => pts_nil) (fun _ _ _ _ _ => (pe_tup (pa_cons (pe_ix (ix_B hu) (pe_ix (ix_B hu) (pv 7) (pe_int) (fun _ _ => rfl)) (pe_int) (fun _ _ => rfl)) (pa_cons (pe_int) pa_nil))))) pa_nil)) pa_nil)))
    (pss_cons (ps_set (i := 4) nd (by rfl) (Or.inl rfl) (pe_lst pa_nil))
    (pss_cons (ps_for PassesOwn.never rfl (pi_seq (pv 3)) (pg_name (i := 5) nd (by rfl) (by first | exact Or.inl rfl | exact Or.inr rfl)) (pss_cons (ps_setLc (own := [("entry", 7)]) (i := 6) rfl nd rfl rfl (sw_true rfl rfl rfl (by decide +kernel)) (pi_seq (pv 2)) (blkOk_by (own := [("entry", 7)]) (N := ["history", "keys", "entries", "wanted", "found", "key", "mine", "entry"]) (sc := defScope s_law_bad) (by decide +kernel)) (fun _ _ _ _ _ => (pg_name (i := 7) nd (by rfl) (by first | exact Or.inl rfl | exact Or.inr rfl))) (fun _ _ _ _ _ => (pts_one (pt_cmpR (op_eqA hu) (pe_ix (ix_B hu) (pe_ix (ix_B hu) (pv 7) (pe_int) (fun _ _ => rfl)) (pe_int) (fun _ _ => rfl)) (pv 5) (nomark _)))) (fun _ _ _ _ _ => (pv 7)))
    (pss_one (ps_if (pt_not (pt_val (pe_callF F_law_has_order (hr.mono (by decide)) (by rfl) pass0 (pa_cons (pv 1) (pa_cons (pv 6) (pa_cons (pe_listRg rfl (by rfl) T.b_list (prg_1 (by rfl) T.b_range (pe_callB call_lenB (by rfl) T.b_len (by decide +kernel) (pa_cons (pv 6) pa_nil)))) (pa_cons (pe_cmpR (op_inB hu) (pv 5) (pv 1) (by rfl)) pa_nil))))))) (pss_one (ps_expr (pe_bmW PySem.F.plainAttrs_list PySem.F.slot_list_append PySem.F.type_list_append mt_append (pv 4) (pa_cons (pv 5) pa_nil)))) pss_nil))))
    (pss_one (ps_ret (pv 4)))))))
theorem ok_law_bad (T : Txt P w K mg) (FD : ∃ fd, FunD K "_law_bad" "_law_bad" (defArgs s_law_bad) (defBody s_law_bad) (defScope s_law_bad) [] [] (He.ga K "_law_bad") fd) (hm : mg "_law_bad" = some (.ref (He.ga K "_law_bad"))) (F_law_has_order : Fok P w K mg base CX0 9 "_law_has_order" ["keys", "entries", "left", "there"] (sp_law_has_order K 9))  : Fok P w K mg base CX0 10 "_law_bad" ["history"] (sp_law_bad K) := by
  obtain ⟨fd, F⟩ := FD
  exact ⟨⟨fd, okf_law_bad T F F_law_has_order , F.bindsN fun _ _ _ _ _ _ us hl => match us, hl with | [_], _ => rfl⟩, hm, F.kp⟩
theorem sc_law_cell_right : FnScope ["box", "by_name", "history", "due", "given", "found", "whole", "put", "key", "alone", "other", "entry"] ["box"] (defScope s_law_cell_right) := ⟨rfl, rfl, rfl, by decide +kernel, rfl, by decide +kernel, by decide +kernel⟩
theorem okf_law_cell_right {fd : FuncData} (T : Txt P w K mg) (F : FunD K "_law_cell_right" "_law_cell_right" (defArgs s_law_cell_right) (defBody s_law_cell_right) (defScope s_law_cell_right) [] [] (He.ga K "_law_cell_right") fd) (F_law_take : Fok P w K mg base CX0 1 "_law_take" ["box", "many"] (sp_law_take K)) (F_law_history : Fok P w K mg base CX0 4 "_law_history" ["box"] (sp_law_history K)) (F_law_copy : Fok P w K mg base CX0 6 "_law_copy" ["value"] (sp_law_copy K 6)) (F_law_bad : Fok P w K mg base CX0 10 "_law_bad" ["history"] (sp_law_bad K)) (F_bad_keys : Fok P w K mg base (L2.CX P w) 11 "bad_keys" ["history"] (sp_bad_keys K)) (F_law_same : Fok P w K mg base CX0 4 "_law_same" ["given", "due"] (sp_law_same K 4)) (F_order_by_keys : Fok P w K mg base (L2.CX P w) 11 "order_by_keys" ["history"] (sp_order_by_keys K)) (F_serial_order : Fok P w K mg base (L2.CX P w) 11 "serial_order" ["history"] (sp_serial_order K)) (F_explains_history : Fok P w K mg base (L2.CX P w) 5 "explains_history" ["history", "order"] (sp_explains_history K)) (F_law_mixed : Fok P w K mg base CX0 2 "_law_mixed" ["box", "items"] (sp_law_mixed K)) (G_bad_keys_0_history : FokK P w K mg base (L2.CX P w) 11 "bad_keys" ["history"] (sp_bad_keys K) 0 ["history"] [0]) (G_order_by_keys_0_history : FokK P w K mg base (L2.CX P w) 11 "order_by_keys" ["history"] (sp_order_by_keys K) 0 ["history"] [0]) : FnG P w K mg base CX0 12 (He.ga K "_law_cell_right") fd ["box"] (sp_law_cell_right K) := by
  have nd := sc_law_cell_right.nd
  refine okG_of F (k := 11) sc_law_cell_right (len_law_cell_right K) (fun cdv A outer s H vs Q E hA hr h => ⟨t_law_cell_right K, PSs.nox ?_, pure_law_cell_right K vs H Q E h⟩)
  have hu : (A.deeper (envOfC "_law_cell_right" (defScope s_law_cell_right) s.heap.objs.size (He.ga K "_law_cell_right") cdv)).units + 64 < cLine := by
    have h1 := hr.un
    omega
  have hG : (A.deeper (envOfC "_law_cell_right" (defScope s_law_cell_right) s.heap.objs.size (He.ga K "_law_cell_right") cdv)).guards = some [] := hA
  skip
  exact (pss_cons (ps_set (i := 1) nd (by rfl) (Or.inl rfl) (pe_cmpR (op_eqA hu) (pe_callF F_law_take (hr.mono (by decide)) (by rfl) pass0 (pa_cons (pv 0) (pa_cons (pe_int) pa_nil))) (pe_int) (nomark _)))
    (pss_cons (ps_set (i := 2) nd (by rfl) (Or.inl rfl) (pe_callF F_law_history (hr.mono (by decide)) (by rfl) pass0 (pa_cons (pv 0) pa_nil)))
    (pss_cons (ps_par (by rfl) nd rfl rfl (by decide) rfl rfl (pa_cons (pe_callF F_law_bad (hr.mono (by decide)) (by rfl) pass0 (pa_cons (pv 2) pa_nil)) (pa_cons (pe_callF F_law_copy (hr.mono (by decide)) (by rfl) pass0 (pa_cons (pv 2) pa_nil)) pa_nil)) (by rfl))
    (pss_cons (ps_set (i := 5) nd (by rfl) (Or.inl rfl) (pe_ifExp (pt_val (pv 1)) (pe_callP0 G_bad_keys_0_history (hr.mono (by decide)) (by rfl) passAtL (pk_cons (pv 4) pk_nil)) (pe_callF F_bad_keys (hr.mono (by decide)) (by rfl) passL (pa_cons (pv 4) pa_nil))))
    (pss_cons (ps_if (PW.pt (pw_or (pt_not (pt_val (pe_callF F_law_same (hr.mono (by decide)) (by rfl) pass0 (pa_cons (pv 5) (pa_cons (pv 3) pa_nil))))) (pw_or1 (pt_cmpR (op_neA hu) (pe_callB (call_reprA hG hu) (by rfl) T.b_repr (by decide +kernel) (pa_cons (pv 4) pa_nil)) (pe_callB (call_reprA hG hu) (by rfl) T.b_repr (by decide +kernel) (pa_cons (pv 2) pa_nil)) (nomark _))))) (pss_one (ps_ret (pe_bl))) pss_nil)
    (pss_cons (ps_par (by rfl) nd rfl rfl (by decide) rfl rfl (pa_cons (pe_callF F_serial_order (hr.mono (by decide)) (by rfl) passL (pa_cons (pv 2) pa_nil)) (pa_cons (pe_ifExp (pt_val (pv 1)) (pe_callP0 G_order_by_keys_0_history (hr.mono (by decide)) (by rfl) passAtL (pk_cons (pv 4) pk_nil)) (pe_callF F_order_by_keys (hr.mono (by decide)) (by rfl) passL (pa_cons (pv 4) pa_nil))) pa_nil)) (by rfl))
    (pss_cons (ps_if (PW.pt (pw_or (pt_cmpR (op_neA hu) (pe_cmpR op_isA (pv 6) (pe_non) (nomark _)) (pe_cmpR (op_neA hu) (pv 3) (pe_lst pa_nil) (nomark _)) (nomark _)) (pw_or1 (pt_cmpR (op_neA hu) (pe_cmpR op_isA (pv 7) (pe_non) (nomark _)) (pe_cmpR (op_neA hu) (pv 3) (pe_lst pa_nil) (nomark _)) (nomark _))))) (pss_one (ps_ret (pe_bl))) pss_nil)
    (pss_cons (ps_if (PW.pt (pw_and (pt_cmpR op_notA (pv 6) (pe_non) (nomark _)) (pw_and1 (PW.pt (pw_or (pt_cmpR op_notA (pe_callF F_explains_history (hr.mono (by decide)) (by rfl) passL (pa_cons (pv 2) (pa_cons (pv 6) pa_nil))) (pe_bl) (nomark _)) (pw_or1 (pt_cmpR op_notA (pe_callF F_explains_history (hr.mono (by decide)) (by rfl) passL (pa_cons (pv 2) (pa_cons (pv 7) pa_nil))) (pe_bl) (nomark _)))))))) (pss_one (ps_ret (pe_bl))) pss_nil)
    (pss_cons (ps_for PassesOwn.never rfl (pi_keysN (pe_callTy (call_dictA rfl) (by rfl) T.b_dict (by decide +kernel) (pa_cons (pe_lc (own := [("entry", 11)]) rfl nd (pi_seq (pe_ix (ix_B hu) (pv 2) (pe_int) (fun _ _ => rfl))) (blkOk_by (own := [("entry", 11)]) (N := ["box", "by_name", "history", "due", "given", "found", "whole", "put", "key", "alone", "other", "entry"]) (sc := defScope s_law_cell_right) (by decide +kernel)) (fun _ _ _ _ _ => (pg_name (i := 11) nd (by rfl) (by first | exact Or.inl rfl | exact Or.inr rfl))) (fun _ _ _ _ _ => pts_nil) (fun _ _ _ _ _ => (pe_tup (pa_cons (pe_ix (ix_B hu) (pe_ix (ix_B hu) (pv 11) (pe_int) (fun _ _ => rfl)) (pe_int) (fun _ _ => rfl)) (pa_cons (pe_int) pa_nil))))) pa_nil))) (pg_name (i := 8) nd (by rfl) (by first | exact Or.inl rfl | exact Or.inr rfl)) (pss_cons (ps_set (i := 9) nd (by rfl) (Or.inl rfl) (pe_tup (pa_cons (pe_ix (ix_B hu) (pv 2) (pe_int) (fun _ _ => rfl)) (pa_cons (pe_lc (own := [("entry", 11)]) rfl nd (pi_seq (pe_ix (ix_B hu) (pv 2) (pe_int) (fun _ _ => rfl))) (blkOk_by (own := [("entry", 11)]) (N := ["box", "by_name", "history", "due", "given", "found", "whole", "put", "key", "alone", "other", "entry"]) (sc := defScope s_law_cell_right) (by decide +kernel)) (fun _ _ _ _ _ => (pg_name (i := 11) nd (by rfl) (by first | exact Or.inl rfl | exact Or.inr rfl))) (fun _ _ _ _ _ => (pts_one (pt_cmpR (op_eqA hu) (pe_ix (ix_B hu) (pe_ix (ix_B hu) (pv 11) (pe_int) (fun _ _ => rfl)) (pe_int) (fun _ _ => rfl)) (pv 8) (nomark _)))) (fun _ _ _ _ _ => (pv 11))) pa_nil))))
    (pss_one (ps_if (pt_cmpR (op_neA hu) (pe_cmpR op_isA (pe_callF F_serial_order (hr.mono (by decide)) (by rfl) passL (pa_cons (pv 9) pa_nil)) (pe_non) (nomark _)) (pe_cmpR (op_inB hu) (pv 8) (pv 3) (by rfl)) (nomark _)) (pss_one (ps_ret (pe_bl))) pss_nil))))
    (pss_cons (ps_set (i := 10) nd (by rfl) (Or.inl rfl) (pe_tup (pa_cons (pe_callF F_law_mixed (hr.mono (by decide)) (by rfl) pass0 (pa_cons (pv 0) (pa_cons (pe_ix (ix_B hu) (pv 2) (pe_int) (fun _ _ => rfl)) pa_nil))) (pa_cons (pe_callF F_law_mixed (hr.mono (by decide)) (by rfl) pass0 (pa_cons (pv 0) (pa_cons (pe_ix (ix_B hu) (pv 2) (pe_int) (fun _ _ => rfl)) pa_nil))) pa_nil))))
    (pss_one (ps_ret ((pe_and (pe_callF F_law_same (hr.mono (by decide)) (by rfl) pass0 (pa_cons (pe_callF F_bad_keys (hr.mono (by decide)) (by rfl) passL (pa_cons (pv 10) pa_nil)) (pa_cons (pv 3) pa_nil))) (pe_one (pe_cmpR (op_eqA hu) (pe_cmpR op_isA (pe_callF F_order_by_keys (hr.mono (by decide)) (by rfl) passL (pa_cons (pv 10) pa_nil)) (pe_non) (nomark _)) (pe_cmpR (op_neA hu) (pv 3) (pe_lst pa_nil) (nomark _)) (nomark _)))))))))))))))))
theorem ok_law_cell_right (T : Txt P w K mg) (FD : ∃ fd, FunD K "_law_cell_right" "_law_cell_right" (defArgs s_law_cell_right) (defBody s_law_cell_right) (defScope s_law_cell_right) [] [] (He.ga K "_law_cell_right") fd) (hm : mg "_law_cell_right" = some (.ref (He.ga K "_law_cell_right"))) (F_law_take : Fok P w K mg base CX0 1 "_law_take" ["box", "many"] (sp_law_take K)) (F_law_history : Fok P w K mg base CX0 4 "_law_history" ["box"] (sp_law_history K)) (F_law_copy : Fok P w K mg base CX0 6 "_law_copy" ["value"] (sp_law_copy K 6)) (F_law_bad : Fok P w K mg base CX0 10 "_law_bad" ["history"] (sp_law_bad K)) (F_bad_keys : Fok P w K mg base (L2.CX P w) 11 "bad_keys" ["history"] (sp_bad_keys K)) (F_law_same : Fok P w K mg base CX0 4 "_law_same" ["given", "due"] (sp_law_same K 4)) (F_order_by_keys : Fok P w K mg base (L2.CX P w) 11 "order_by_keys" ["history"] (sp_order_by_keys K)) (F_serial_order : Fok P w K mg base (L2.CX P w) 11 "serial_order" ["history"] (sp_serial_order K)) (F_explains_history : Fok P w K mg base (L2.CX P w) 5 "explains_history" ["history", "order"] (sp_explains_history K)) (F_law_mixed : Fok P w K mg base CX0 2 "_law_mixed" ["box", "items"] (sp_law_mixed K)) (G_bad_keys_0_history : FokK P w K mg base (L2.CX P w) 11 "bad_keys" ["history"] (sp_bad_keys K) 0 ["history"] [0]) (G_order_by_keys_0_history : FokK P w K mg base (L2.CX P w) 11 "order_by_keys" ["history"] (sp_order_by_keys K) 0 ["history"] [0]) : FokG P w K mg base CX0 12 "_law_cell_right" ["box"] (sp_law_cell_right K) := by
  obtain ⟨fd, F⟩ := FD
  exact ⟨⟨fd, okf_law_cell_right T F F_law_take F_law_history F_law_copy F_law_bad F_bad_keys F_law_same F_order_by_keys F_serial_order F_explains_history F_law_mixed G_bad_keys_0_history G_order_by_keys_0_history, F.bindsN fun _ _ _ _ _ _ us hl => match us, hl with | [_], _ => rfl⟩, hm, F.kp⟩
theorem sc_law : FnScope ["script", "k"] ["script"] (defScope s_law) := ⟨rfl, rfl, rfl, by decide +kernel, rfl, by decide +kernel, by decide +kernel⟩
theorem okf_law {fd : FuncData} (T : Txt P w K mg) (F : FunD K "law" "law" (defArgs s_law) (defBody s_law) (defScope s_law) [] [] (He.ga K "law") fd) (F_law_cell_right : FokG P w K mg base CX0 12 "_law_cell_right" ["box"] (sp_law_cell_right K)) (F_law_box : Fok P w K mg base CX0 1 "_law_box" ["great"] (sp_law_box K)) (F_law_cell : Fok P w K mg base CX0 1 "_law_cell" ["script", "k"] (sp_law_cell K))  : FnG P w K mg base CX0 13 (He.ga K "law") fd ["script"] (sp_law K) := by
  have nd := sc_law.nd
  refine okG_of F (k := 12) sc_law (len_law K) (fun cdv A outer s H vs Q E hA hr h => ⟨t_law K, PSs.nox ?_, pure_law K vs H Q E h⟩)
  have hu : (A.deeper (envOfC "law" (defScope s_law) s.heap.objs.size (He.ga K "law") cdv)).units + 64 < cLine := by
    have h1 := hr.un
    omega
  have hG : (A.deeper (envOfC "law" (defScope s_law) s.heap.objs.size (He.ga K "law") cdv)).guards = some [] := hA
  skip
  exact (pss_cons (ps_for PassesOwn.never rfl (pi_range1 (by rfl) T.b_range (pa_cons (pe_int) pa_nil)) (pg_name (i := 1) nd (by rfl) (by first | exact Or.inl rfl | exact Or.inr rfl)) (pss_one (ps_if (pt_not (pt_val (pe_callFG F_law_cell_right hG (hr.mono (by decide)) (by rfl) pass0 (pa_cons (pe_callF F_law_box (hr.mono (by decide)) (by rfl) pass0 (pa_cons (pe_callF F_law_cell (hr.mono (by decide)) (by rfl) pass0 (pa_cons (pv 0) (pa_cons (pv 1) pa_nil))) pa_nil)) pa_nil)))) (pss_one (ps_ret (pe_bl))) pss_nil)))
    (pss_one (ps_ret (pe_bl))))
end
theorem all_ok {P : Program} {w : World} {K : PySem.W.Frag} {h : Heap} {mg : Str → Option Value} {f : Addr} (hPf : P.main.file = PySem.Challenge.pw_shiftparts_k45_whole_key_by_key.main.file) (hPs : (P.main.scope.names.lookup ("super" : Str)).isSome = false) (X : K.In h) (G : h.Ns mainGlobals mg) (hfa : mg ("law" : Str) = some (.ref f)) (c : SaysX fa fn fs cu ts pr w K) :
    ∃ fd : FuncData, (∀ (s : Shared) (v : Value), BindsTo s fd ⟨[v], []⟩ [("script", v)]) ∧ ∀ base : Heap, K.In base → base.Ns mainGlobals mg → FnG P w K mg base CX0 13 f fd ["script"] (sp_law K) := by
  have T : Txt P w K mg := ⟨(He.free_ok X G (c.fact 0 (f := .free "abs") rfl)),
    (He.free_ok X G (c.fact 1 (f := .free "all") rfl)),
    (He.free_ok X G (c.fact 2 (f := .free "any") rfl)),
    (He.free_ok X G (c.fact 3 (f := .free "bool") rfl)),
    (He.free_ok X G (c.fact 4 (f := .free "dict") rfl)),
    (He.free_ok X G (c.fact 5 (f := .free "enumerate") rfl)),
    (He.free_ok X G (c.fact 6 (f := .free "int") rfl)),
    (He.free_ok X G (c.fact 7 (f := .free "isinstance") rfl)),
    (He.free_ok X G (c.fact 8 (f := .free "len") rfl)),
    (He.free_ok X G (c.fact 9 (f := .free "list") rfl)),
    (He.free_ok X G (c.fact 10 (f := .free "min") rfl)),
    (He.free_ok X G (c.fact 11 (f := .free "range") rfl)),
    (He.free_ok X G (c.fact 12 (f := .free "repr") rfl)),
    (He.free_ok X G (c.fact 13 (f := .free "set") rfl)),
    (He.free_ok X G (c.fact 14 (f := .free "sorted") rfl)),
    (He.free_ok X G (c.fact 15 (f := .free "str") rfl)),
    (He.free_ok X G (c.fact 16 (f := .free "sum") rfl)),
    (He.free_ok X G (c.fact 17 (f := .free "super") rfl)),
    (He.free_ok X G (c.fact 18 (f := .free "tuple") rfl)),
    (He.glo_ok X G (c.fact 19 (f := .glo "ASKED") rfl)),
    (He.str_ok X G (c.fact 20 (f := .str "DONE" "done") rfl)),
    (He.glo_ok X G (c.fact 21 (f := .glo "InvalidHistory") rfl)),
    (He.int_ok X G (c.fact 22 (f := .int "MOST_ENTRIES" 8) rfl)),
    (He.str_ok X G (c.fact 23 (f := .str "REFUSED" "refused") rfl)),
    (chkvalue_ok (P0 := PySem.Challenge.pw_shiftparts_k45_whole_key_by_key) (He.glo_ok X G (c.fact 21 (f := .glo "InvalidHistory") rfl)) (He.free_ok X G (c.fact 17 (f := .free "super") rfl)) hPf hPs (c.init 0 (f := (("InvalidHistory", some "__init__"), some ("__init__", "InvalidHistory.__init__", (PySem.Sxvalue.iA ⟨6, 17, 6, 21⟩ ⟨6, 23, 6, 28⟩), FuncBody.stmts (PySem.Sxvalue.iB "the value is not a history" ⟨7, 8, 7, 13⟩ ⟨7, 8, 7, 15⟩ ⟨7, 8, 7, 24⟩ ⟨7, 25, 7, 53⟩ ⟨7, 8, 7, 54⟩ ⟨7, 8, 7, 54⟩ ⟨8, 8, 8, 12⟩ ⟨8, 8, 8, 18⟩ ⟨8, 21, 8, 26⟩ ⟨8, 8, 8, 26⟩), PySem.Sxvalue.iS, mainGlobals, [("__class__" : Str)], builtinsNs))) rfl) (by decide) (c.own 0 (f := fun K => Chkvalue PySem.Challenge.pw_shiftparts_k45_whole_key_by_key K "InvalidHistory") rfl)),
    ⟨(fun H => tupK_ok (c.own 1 (f := fun K => tupK K (He.ga K "ASKED") [.str "put", .str "strike", .str "read"]) rfl) H)⟩⟩
  have hml := He.glo_ok X G (c.fact 51 (f := .glo "law") rfl)
  have e := hfa.symm.trans hml
  cases e
  obtain ⟨fdL, FL⟩ := c.def_ 27 (d := ⟨("law", none), "law", "law", defArgs s_law, defBody s_law, defScope s_law, [], []⟩) rfl
  have b := FunD.bindsA (ps := ["script"]) FL fun _ _ _ _ _ _ us hl => match us, hl with | [_], _ => rfl
  refine ⟨fdL, fun s v => b s [v] rfl, fun base _ _ => ?_⟩
  have O_is_integer := ok_is_integer (P := P) (w := w) (base := base) T (c.def_ 0 (d := ⟨("is_integer", none), "is_integer", "is_integer", defArgs s_is_integer, defBody s_is_integer, defScope s_is_integer, [], []⟩) rfl) (He.glo_ok X G (c.fact 24 (f := .glo "is_integer") rfl)) 
  have O_is_entry := ok_is_entry (P := P) (w := w) (base := base) T (c.def_ 1 (d := ⟨("is_entry", none), "is_entry", "is_entry", defArgs s_is_entry, defBody s_is_entry, defScope s_is_entry, [], []⟩) rfl) (He.glo_ok X G (c.fact 25 (f := .glo "is_entry") rfl)) O_is_integer
  have O_is_history := ok_is_history (P := P) (w := w) (base := base) T (c.def_ 2 (d := ⟨("is_history", none), "is_history", "is_history", defArgs s_is_history, defBody s_is_history, defScope s_is_history, [], []⟩) rfl) (He.glo_ok X G (c.fact 26 (f := .glo "is_history") rfl)) O_is_integer O_is_entry
  have O_need_history := ok_need_history (P := P) (w := w) (base := base) T (c.def_ 3 (d := ⟨("need_history", none), "need_history", "need_history", defArgs s_need_history, defBody s_need_history, defScope s_need_history, [], []⟩) rfl) (He.glo_ok X G (c.fact 27 (f := .glo "need_history") rfl)) O_is_history
  have O_fits_now := ok_fits_now (P := P) (w := w) (base := base) T (c.def_ 4 (d := ⟨("fits_now", none), "fits_now", "fits_now", defArgs s_fits_now, defBody s_fits_now, defScope s_fits_now, [], []⟩) rfl) (He.glo_ok X G (c.fact 28 (f := .glo "fits_now") rfl)) 
  have O_row_after := ok_row_after (P := P) (w := w) (base := base) T (c.def_ 5 (d := ⟨("row_after", none), "row_after", "row_after", defArgs s_row_after, defBody s_row_after, defScope s_row_after, [], []⟩) rfl) (He.glo_ok X G (c.fact 29 (f := .glo "row_after") rfl)) 
  have O_may_come := ok_may_come (P := P) (w := w) (base := base) T (c.def_ 6 (d := ⟨("may_come", none), "may_come", "may_come", defArgs s_may_come, defBody s_may_come, defScope s_may_come, [], []⟩) rfl) (He.glo_ok X G (c.fact 30 (f := .glo "may_come") rfl)) 
  have O_order_from := ok_order_from (P := P) (w := w) (base := base) T (c.def_ 7 (d := ⟨("order_from", none), "order_from", "order_from", defArgs s_order_from, defBody s_order_from, defScope s_order_from, [], []⟩) rfl) (He.glo_ok X G (c.fact 31 (f := .glo "order_from") rfl)) O_may_come O_fits_now O_row_after
  have O_serial_order := ok_serial_order (P := P) (w := w) (base := base) T (c.def_ 8 (d := ⟨("serial_order", none), "serial_order", "serial_order", defArgs s_serial_order, defBody s_serial_order, defScope s_serial_order, [], []⟩) rfl) (He.glo_ok X G (c.fact 32 (f := .glo "serial_order") rfl)) O_need_history O_order_from
  have O_numbers_of := ok_numbers_of (P := P) (w := w) (base := base) T (c.def_ 9 (d := ⟨("numbers_of", none), "numbers_of", "numbers_of", defArgs s_numbers_of, defBody s_numbers_of, defScope s_numbers_of, [], []⟩) rfl) (He.glo_ok X G (c.fact 33 (f := .glo "numbers_of") rfl)) 
  have O_bad_keys := ok_bad_keys (P := P) (w := w) (base := base) T (c.def_ 10 (d := ⟨("bad_keys", none), "bad_keys", "bad_keys", defArgs s_bad_keys, defBody s_bad_keys, defScope s_bad_keys, [], []⟩) rfl) (He.glo_ok X G (c.fact 34 (f := .glo "bad_keys") rfl)) O_need_history O_order_from O_numbers_of
  have O_bad_keys_0_history := okkG_bad_keys_0_history (P := P) (w := w) (base := base) T (c.def_ 10 (d := ⟨("bad_keys", none), "bad_keys", "bad_keys", defArgs s_bad_keys, defBody s_bad_keys, defScope s_bad_keys, [], []⟩) rfl) (He.glo_ok X G (c.fact 34 (f := .glo "bad_keys") rfl)) O_need_history O_order_from O_numbers_of
  have O_explains_history := ok_explains_history (P := P) (w := w) (base := base) T (c.def_ 11 (d := ⟨("explains_history", none), "explains_history", "explains_history", defArgs s_explains_history, defBody s_explains_history, defScope s_explains_history, [], []⟩) rfl) (He.glo_ok X G (c.fact 35 (f := .glo "explains_history") rfl)) O_need_history O_is_integer O_may_come O_fits_now O_row_after
  have O_merged_order := ok_merged_order (P := P) (w := w) (base := base) T (c.def_ 12 (d := ⟨("merged_order", none), "merged_order", "merged_order", defArgs s_merged_order, defBody s_merged_order, defScope s_merged_order, [], []⟩) rfl) (He.glo_ok X G (c.fact 36 (f := .glo "merged_order") rfl)) O_may_come
  have O_order_by_keys := ok_order_by_keys (P := P) (w := w) (base := base) T (c.def_ 13 (d := ⟨("order_by_keys", none), "order_by_keys", "order_by_keys", defArgs s_order_by_keys, defBody s_order_by_keys, defScope s_order_by_keys, [], []⟩) rfl) (He.glo_ok X G (c.fact 37 (f := .glo "order_by_keys") rfl)) O_need_history O_order_from O_numbers_of O_merged_order
  have O_order_by_keys_0_history := okkG_order_by_keys_0_history (P := P) (w := w) (base := base) T (c.def_ 13 (d := ⟨("order_by_keys", none), "order_by_keys", "order_by_keys", defArgs s_order_by_keys, defBody s_order_by_keys, defScope s_order_by_keys, [], []⟩) rfl) (He.glo_ok X G (c.fact 37 (f := .glo "order_by_keys") rfl)) O_need_history O_order_from O_numbers_of O_merged_order
  have O_law_cell := ok_law_cell (P := P) (w := w) (base := base) T (c.def_ 14 (d := ⟨("_law_cell", none), "_law_cell", "_law_cell", defArgs s_law_cell, defBody s_law_cell, defScope s_law_cell, [], []⟩) rfl) (He.glo_ok X G (c.fact 38 (f := .glo "_law_cell") rfl)) 
  have O_law_box := ok_law_box (P := P) (w := w) (base := base) T (c.def_ 15 (d := ⟨("_law_box", none), "_law_box", "_law_box", defArgs s_law_box, defBody s_law_box, defScope s_law_box, [], []⟩) rfl) (He.glo_ok X G (c.fact 39 (f := .glo "_law_box") rfl)) 
  have O_law_take := ok_law_take (P := P) (w := w) (base := base) T (c.def_ 16 (d := ⟨("_law_take", none), "_law_take", "_law_take", defArgs s_law_take, defBody s_law_take, defScope s_law_take, [], []⟩) rfl) (He.glo_ok X G (c.fact 40 (f := .glo "_law_take") rfl)) 
  have O_law_mixed := ok_law_mixed (P := P) (w := w) (base := base) T (c.def_ 17 (d := ⟨("_law_mixed", none), "_law_mixed", "_law_mixed", defArgs s_law_mixed, defBody s_law_mixed, defScope s_law_mixed, [], []⟩) rfl) (He.glo_ok X G (c.fact 41 (f := .glo "_law_mixed") rfl)) O_law_take
  have O_law_same := ok_law_same (P := P) (w := w) (base := base) T (c.def_ 18 (d := ⟨("_law_same", none), "_law_same", "_law_same", defArgs s_law_same, defBody s_law_same, defScope s_law_same, [], []⟩) rfl) (He.glo_ok X G (c.fact 42 (f := .glo "_law_same") rfl)) 
  have O_law_copy := ok_law_copy (P := P) (w := w) (base := base) T (c.def_ 19 (d := ⟨("_law_copy", none), "_law_copy", "_law_copy", defArgs s_law_copy, defBody s_law_copy, defScope s_law_copy, [], []⟩) rfl) (He.glo_ok X G (c.fact 43 (f := .glo "_law_copy") rfl)) 
  have O_law_entries := ok_law_entries (P := P) (w := w) (base := base) T (c.def_ 20 (d := ⟨("_law_entries", none), "_law_entries", "_law_entries", defArgs s_law_entries, defBody s_law_entries, defScope s_law_entries, [], []⟩) rfl) (He.glo_ok X G (c.fact 44 (f := .glo "_law_entries") rfl)) O_law_mixed O_law_take
  have O_law_honest := ok_law_honest (P := P) (w := w) (base := base) T (c.def_ 21 (d := ⟨("_law_honest", none), "_law_honest", "_law_honest", defArgs s_law_honest, defBody s_law_honest, defScope s_law_honest, [], []⟩) rfl) (He.glo_ok X G (c.fact 45 (f := .glo "_law_honest") rfl)) O_law_take
  have O_law_have_unlike_times := ok_law_have_unlike_times (P := P) (w := w) (base := base) T (c.def_ 22 (d := ⟨("_law_have_unlike_times", none), "_law_have_unlike_times", "_law_have_unlike_times", defArgs s_law_have_unlike_times, defBody s_law_have_unlike_times, defScope s_law_have_unlike_times, [], []⟩) rfl) (He.glo_ok X G (c.fact 46 (f := .glo "_law_have_unlike_times") rfl)) 
  have O_law_history := ok_law_history (P := P) (w := w) (base := base) T (c.def_ 23 (d := ⟨("_law_history", none), "_law_history", "_law_history", defArgs s_law_history, defBody s_law_history, defScope s_law_history, [], []⟩) rfl) (He.glo_ok X G (c.fact 47 (f := .glo "_law_history") rfl)) O_law_take O_law_entries O_law_honest O_law_have_unlike_times
  have O_law_has_order := ok_law_has_order (P := P) (w := w) (base := base) T (c.def_ 24 (d := ⟨("_law_has_order", none), "_law_has_order", "_law_has_order", defArgs s_law_has_order, defBody s_law_has_order, defScope s_law_has_order, [], []⟩) rfl) (He.glo_ok X G (c.fact 48 (f := .glo "_law_has_order") rfl)) 
  have O_law_bad := ok_law_bad (P := P) (w := w) (base := base) T (c.def_ 25 (d := ⟨("_law_bad", none), "_law_bad", "_law_bad", defArgs s_law_bad, defBody s_law_bad, defScope s_law_bad, [], []⟩) rfl) (He.glo_ok X G (c.fact 49 (f := .glo "_law_bad") rfl)) O_law_has_order
  have O_law_cell_right := ok_law_cell_right (P := P) (w := w) (base := base) T (c.def_ 26 (d := ⟨("_law_cell_right", none), "_law_cell_right", "_law_cell_right", defArgs s_law_cell_right, defBody s_law_cell_right, defScope s_law_cell_right, [], []⟩) rfl) (He.glo_ok X G (c.fact 50 (f := .glo "_law_cell_right") rfl)) O_law_take O_law_history O_law_copy O_law_bad O_bad_keys O_law_same O_order_by_keys O_serial_order O_explains_history O_law_mixed O_bad_keys_0_history O_order_by_keys_0_history
  exact okf_law (P := P) (w := w) (base := base) T FL O_law_cell_right O_law_box O_law_cell
end Z
open PySem PySem.W PySem.Calls PyProof.Rows
theorem PySem.Challenge.cw_shiftparts_k45_whole_key_by_key_holds : PySem.Challenge.rw_shiftparts_k45_whole_key_by_key.Holds := by
  w_on; o_law
  refine HandSHeadRun.head_any (r := OpenLaw.row PySem.Challenge.rw_shiftparts_k45_whole_key_by_key) (q := view (OpenLaw.row PySem.Challenge.rw_shiftparts_k45_whole_key_by_key).prog [40]) (H := Z.hk) (ob := Z.ob) (M := 4000) (loose := Z.loose) (d := HandSHeadRun.topDef (OpenLaw.row PySem.Challenge.rw_shiftparts_k45_whole_key_by_key).prog 40) (kwd := []) Z.ob_eq
    (by kernel_rfl) (fun s => by kernel_rfl) Z.run (by kernel_rfl) (by kernel_rfl) (by kernel_rfl) (by rfl) (by first | assumption | decide +kernel) (by decide +kernel) ⟨rfl, rfl, rfl, rfl, rfl, by decide +kernel⟩ ?hw ?hc
  case hw => w_witness2
  case hc =>
    refine Z.walk_ofG (l := PySem.Challenge.rw_shiftparts_k45_whole_key_by_key) (n := 63) (k := 13) (x := "script") (CX := L2.CX0) rfl (by decide) (by kernel_rfl) ⟨rfl, by decide, by decide⟩ ?F (fun _ _ _ _ z => z)
    intro w mg fa h Y G hmg0
    obtain ⟨K, KX, c⟩ := Y
    have hmg : mg ("law" : PySem.Str) = some (.ref fa) := by
      have e : (HandSHeadRun.topDef (OpenLaw.row PySem.Challenge.rw_shiftparts_k45_whole_key_by_key).prog 40).name = ("law" : PySem.Str) := by kernel_rfl
      rw [← e]
      exact hmg0
    obtain ⟨fd, hb, hF⟩ := Z.all_ok (P := (PySem.Challenge.rw_shiftparts_k45_whole_key_by_key).prog) (w := w) (by rfl) (by decide +kernel) KX G hmg c
    exact ⟨K, fd, Z.sp_law0 K, KX, hb, fun H a ns hl _ hS => ⟨a, ns, rfl, hS, hl, fun _ => rfl⟩, fun b h1 h2 => (hF b h1 h2).imp (Z.law_up K Z.law_true)⟩
#print axioms PySem.Challenge.cw_shiftparts_k45_whole_key_by_key_holds
