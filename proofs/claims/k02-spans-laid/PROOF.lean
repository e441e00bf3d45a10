import PyProof.Rows.All
import Wide.All
import OpenK.AllK
import Wide.FinOn
import HandS.ForMost
import HandS.Flow
import HandS.Style
import HandS.Wide
import HandS.WideMore
import HandS.IsInst
import HandS.Evl
import HandS.Walk
import HandS.Defaults
import HandS.Head0
import HandS.Head1
import HandS.Head2
import HandS.HeadEnd
import HandS.HeadHook1
import HandS.HeadHook2
import KE.KExcSuper
import KE.KExcPX
import HandS.Exc
import HandS.ExcSuper
import HandS.ExcInit
import HandS.ExcField
import HandS.TryMany
import HandS.TryOnly
import HandS.RaiseFrom
import HandS.FStr
import HandS.TupAny
import HandS.WordsExc
import PySem.Challenge.RW_shiftparts_k02_spans_laid_over_one_anoth
set_option Elab.async false
set_option linter.all false
set_option maxRecDepth 100000
set_option maxHeartbeats 4000000
/-! == and != of data at any depth: items by identity or by ==, lists and tuples of any length -/
namespace Z
open PySem PySem.Spec PyProof.Rows L2 Evl
def scB : V → V → Bool
  | .non, .non | .non, .int _ | .int _, .non | .non, .bl _ | .bl _, .non | .non, .str _ | .str _, .non => true
  | .int _, .int _ | .bl _, .bl _ | .str _, .str _ | .int _, .str _ | .str _, .int _ | .bl _, .str _ | .str _, .bl _ => true
  | _, _ => false
def isS : V → Bool
  | .non | .bl _ | .int _ | .str _ => true
  | _ => false
/-- items one by one, as far as both go -/
inductive EqZ (E : V → V → Bool → Prop) : List V → List V → List Bool → Prop
  | nil : EqZ E [] [] []
  | nilL {y : V} {ys : List V} : EqZ E [] (y :: ys) []
  | nilR {x : V} {xs : List V} : EqZ E (x :: xs) [] []
  | cons {x y : V} {xs ys : List V} {b : Bool} {e : List Bool} : E x y b → EqZ E xs ys e → EqZ E (x :: xs) (y :: ys) (b :: e)
/-- x == y gives b, items by E -/
inductive EqR (K : PySem.W.Frag) (H : Hp) (E : V → V → Bool → Prop) : V → V → Bool → Prop
  | sc {x y : V} : scB x y = true → EqR K H E x y (decide (x = y))
  | bi (a : Bool) (j : Int) : EqR K H E (.bl a) (.int j) ((if a then 1 else 0) == j)
  | ib (i : Int) (b : Bool) : EqR K H E (.int i) (.bl b) (i == (if b then 1 else 0))
  | ll {a b : Addr} {xs ys : List V} : SqL K H a xs → SqL K H b ys → xs.length ≠ ys.length → EqR K H E (.ref a) (.ref b) false
  | lst {a b : Addr} {xs ys : List V} {e : List Bool} : SqL K H a xs → SqL K H b ys → xs.length = ys.length → EqZ E xs ys e → EqR K H E (.ref a) (.ref b) (e.all id)
  | tup {a b : Addr} {xs ys : List V} {e : List Bool} : SqT K H a xs → SqT K H b ys → EqZ E xs ys e → EqR K H E (.ref a) (.ref b) (e.all id && decide (xs.length = ys.length))
  | lt {a b : Addr} {xs ys : List V} : SqL K H a xs → SqT K H b ys → EqR K H E (.ref a) (.ref b) false
  | tl {a b : Addr} {xs ys : List V} : SqT K H a xs → SqL K H b ys → EqR K H E (.ref a) (.ref b) false
  | ls {a : Addr} {xs : List V} {y : V} : SqL K H a xs → isS y = true → EqR K H E (.ref a) y false
  | sl {a : Addr} {xs : List V} {y : V} : SqL K H a xs → isS y = true → EqR K H E y (.ref a) false
  | ts {a : Addr} {xs : List V} {y : V} : SqT K H a xs → isS y = true → EqR K H E (.ref a) y false
  | st {a : Addr} {xs : List V} {y : V} : SqT K H a xs → isS y = true → EqR K H E y (.ref a) false
/-- two items: the same object, or equal by == -/
def EqI (K : PySem.W.Frag) (H : Hp) : Nat → V → V → Bool → Prop
  | 0 => fun _ _ _ => False
  | n + 1 => fun x y b => (∃ a, x = .ref a ∧ y = .ref a ∧ b = true) ∨ (EqR K H (EqI K H n) x y b ∧ ∀ a, x = .ref a → y ≠ .ref a)
theorem EqI.same {K : PySem.W.Frag} {H : Hp} {n : Nat} (a : Addr) : EqI K H (n + 1) (.ref a) (.ref a) true := .inl ⟨a, rfl, rfl, rfl⟩
theorem EqI.sc {K : PySem.W.Frag} {H : Hp} {n : Nat} {x y : V} (h : scB x y = true) : EqI K H (n + 1) x y (decide (x = y)) := .inr ⟨.sc h, fun a e => by
  subst e
  cases h⟩
theorem EqI.rc {K : PySem.W.Frag} {H : Hp} {n : Nat} {a b : Addr} {k : Bool} (h : EqR K H (EqI K H n) (.ref a) (.ref b) k) (ne : a ≠ b) : EqI K H (n + 1) (.ref a) (.ref b) k := .inr ⟨h, fun c e f => by
  injection e with e
  injection f with f
  exact ne (e.trans f.symm)⟩
section
variable {X : Cx} {pins : List (Addr × Obj)} {σ : L2.St} {H : Hp} {s : Shared}
theorem sc_rc {A : Around} {x y : V} {v u : Value} (h : scB x y = true) (rx : RelV x v) (ry : RelV y u) : SeqAt.RcAt A s v u (decide (x = y)) := by
  have beqd : ∀ (a b : Bool), decide (V.bl a = V.bl b) = (a == b) := fun a b => by cases a <;> cases b <;> rfl
  have beqi : ∀ (a b : Int), decide (V.int a = V.int b) = (a == b) := fun a b => by
    rw [Bool.beq_eq_decide_eq]
    simp
  have beqs : ∀ (a b : Str), decide (V.str a = V.str b) = (a == b) := fun a b => by
    rw [Bool.beq_eq_decide_eq]
    simp
  cases x <;> cases y <;> first | (exact absurd (show false = true from h) Bool.false_ne_true) | skip
  · cases rx; cases ry; exact SeqAt.RcAt.none_none
  · cases rx; cases ry; exact SeqAt.RcAt.none_bool _
  · cases rx; obtain ⟨t, rfl⟩ := ry; exact SeqAt.RcAt.none_int _ _
  · cases rx; obtain ⟨t, rfl⟩ := ry; exact SeqAt.RcAt.none_str _ _
  · cases rx; cases ry; exact SeqAt.RcAt.bool_none _
  · cases rx; cases ry; rw [beqd]; exact SeqAt.RcAt.bool_bool _ _
  · cases rx; obtain ⟨t, rfl⟩ := ry; exact SeqAt.RcAt.bool_str _ _ _
  · cases ry; obtain ⟨t, rfl⟩ := rx; exact SeqAt.RcAt.int_none _ _
  · obtain ⟨t, rfl⟩ := rx; obtain ⟨t', rfl⟩ := ry; rw [beqi]; exact SeqAt.RcAt.int_int _ _ _ _
  · obtain ⟨t, rfl⟩ := rx; obtain ⟨t', rfl⟩ := ry; exact SeqAt.RcAt.int_str _ _ _ _
  · cases ry; obtain ⟨t, rfl⟩ := rx; exact SeqAt.RcAt.str_none _ _
  · cases ry; obtain ⟨t, rfl⟩ := rx; exact SeqAt.RcAt.str_bool _ _ _
  · obtain ⟨t, rfl⟩ := rx; obtain ⟨t', rfl⟩ := ry; exact SeqAt.RcAt.str_int _ _ _ _
  · obtain ⟨t, rfl⟩ := rx; obtain ⟨t', rfl⟩ := ry; rw [beqs]; exact SeqAt.RcAt.str_str _ _ _ _
theorem sc_eq {A : Around} {x y : V} {v u : Value} (h : scB x y = true) (rx : RelV x v) (ry : RelV y u) : SeqAt.EqAt A s v u (decide (x = y)) := by
  have beqd : ∀ (a b : Bool), decide (V.bl a = V.bl b) = (a == b) := fun a b => by cases a <;> cases b <;> rfl
  have beqi : ∀ (a b : Int), decide (V.int a = V.int b) = (a == b) := fun a b => by
    rw [Bool.beq_eq_decide_eq]
    simp
  have beqs : ∀ (a b : Str), decide (V.str a = V.str b) = (a == b) := fun a b => by
    rw [Bool.beq_eq_decide_eq]
    simp
  cases x <;> cases y <;> first | (exact absurd (show false = true from h) Bool.false_ne_true) | skip
  · cases rx; cases ry; exact SeqAt.EqAt.same _
  · cases rx; cases ry; exact SeqAt.EqAt.none_bool _
  · cases rx; obtain ⟨t, rfl⟩ := ry; exact SeqAt.EqAt.none_int _ _
  · cases rx; obtain ⟨t, rfl⟩ := ry; exact SeqAt.EqAt.none_str _ _
  · cases rx; cases ry; exact SeqAt.EqAt.bool_none _
  · cases rx; cases ry; rw [beqd]; exact SeqAt.EqAt.bool_bool _ _
  · cases rx; obtain ⟨t, rfl⟩ := ry; exact SeqAt.EqAt.bool_str _ _ _
  · cases ry; obtain ⟨t, rfl⟩ := rx; exact SeqAt.EqAt.int_none _ _
  · obtain ⟨t, rfl⟩ := rx; obtain ⟨t', rfl⟩ := ry; rw [beqi]; exact SeqAt.EqAt.int_int _ _ _ _
  · obtain ⟨t, rfl⟩ := rx; obtain ⟨t', rfl⟩ := ry; exact SeqAt.EqAt.int_str _ _ _ _
  · cases ry; obtain ⟨t, rfl⟩ := rx; exact SeqAt.EqAt.str_none _ _
  · cases ry; obtain ⟨t, rfl⟩ := rx; exact SeqAt.EqAt.str_bool _ _ _
  · obtain ⟨t, rfl⟩ := rx; obtain ⟨t', rfl⟩ := ry; exact SeqAt.EqAt.str_int _ _ _ _
  · obtain ⟨t, rfl⟩ := rx; obtain ⟨t', rfl⟩ := ry; rw [beqs]; exact SeqAt.EqAt.str_str _ _ _ _
theorem sc_ne {A : Around} {x y : V} {v u : Value} (h : scB x y = true) (rx : RelV x v) (ry : RelV y u) : SeqAt.RcNeAt A s v u (!decide (x = y)) := by
  have beqd : ∀ (a b : Bool), decide (V.bl a = V.bl b) = (a == b) := fun a b => by cases a <;> cases b <;> rfl
  have beqi : ∀ (a b : Int), decide (V.int a = V.int b) = (a == b) := fun a b => by
    rw [Bool.beq_eq_decide_eq]
    simp
  have beqs : ∀ (a b : Str), decide (V.str a = V.str b) = (a == b) := fun a b => by
    rw [Bool.beq_eq_decide_eq]
    simp
  cases x <;> cases y <;> first | (exact absurd (show false = true from h) Bool.false_ne_true) | skip
  · cases rx; cases ry; exact SeqAt.RcNeAt.none_none
  · cases rx; cases ry; exact SeqAt.RcNeAt.none_bool _
  · cases rx; obtain ⟨t, rfl⟩ := ry; exact SeqAt.RcNeAt.none_int _ _
  · cases rx; obtain ⟨t, rfl⟩ := ry; exact SeqAt.RcNeAt.none_str _ _
  · cases rx; cases ry; exact SeqAt.RcNeAt.bool_none _
  · cases rx; cases ry; rw [beqd]; exact SeqAt.RcNeAt.bool_bool _ _
  · cases rx; obtain ⟨t, rfl⟩ := ry; exact SeqAt.RcNeAt.bool_str _ _ _
  · cases ry; obtain ⟨t, rfl⟩ := rx; exact SeqAt.RcNeAt.int_none _ _
  · obtain ⟨t, rfl⟩ := rx; obtain ⟨t', rfl⟩ := ry; rw [beqi]; exact SeqAt.RcNeAt.int_int _ _ _ _
  · obtain ⟨t, rfl⟩ := rx; obtain ⟨t', rfl⟩ := ry; exact SeqAt.RcNeAt.int_str _ _ _ _
  · cases ry; obtain ⟨t, rfl⟩ := rx; exact SeqAt.RcNeAt.str_none _ _
  · cases ry; obtain ⟨t, rfl⟩ := rx; exact SeqAt.RcNeAt.str_bool _ _ _
  · obtain ⟨t, rfl⟩ := rx; obtain ⟨t', rfl⟩ := ry; exact SeqAt.RcNeAt.str_int _ _ _ _
  · obtain ⟨t, rfl⟩ := rx; obtain ⟨t', rfl⟩ := ry; rw [beqs]; exact SeqAt.RcNeAt.str_str _ _ _ _
theorem range_all : ∀ e : List Bool, (List.range e.length).all (fun i => e.getD i false) = e.all id
  | [] => rfl
  | b :: e => by
    rw [List.length_cons, List.range_succ_eq_map, List.all_cons, List.all_map, List.all_cons, ← range_all e]
    rfl
theorem EqZ.len {E : V → V → Bool → Prop} {xs ys : List V} {e : List Bool} (h : EqZ E xs ys e) : e.length = min xs.length ys.length := by
  induction h with
  | nil => rfl
  | nilL => simp
  | nilR => simp
  | cons _ _ ih =>
    simp only [List.length_cons]
    omega
theorem EqZ.run {E : V → V → Bool → Prop} {A : Around} (ih : ∀ {x y : V} {b : Bool} {v u : Value}, E x y b → RelV x v → RelV y u → SeqAt.EqAt A s v u b) {xs ys : List V} {e : List Bool} (h : EqZ E xs ys e) : ∀ {us ws : List Value}, Vals xs us → Vals ys ws →
    ∀ j (h1 : j < us.length) (h2 : j < ws.length), SeqAt.EqAt A s us[j] ws[j] (e.getD j false) := by
  induction h with
  | nil => intro us ws r1 r2 j h1 h2; cases r1; exact absurd h1 (Nat.not_lt_zero j)
  | nilL => intro us ws r1 r2 j h1 h2; cases r1; exact absurd h1 (Nat.not_lt_zero j)
  | nilR => intro us ws r1 r2 j h1 h2; cases r2; exact absurd h2 (Nat.not_lt_zero j)
  | cons h _ k =>
    intro us ws r1 r2 j h1 h2
    cases r1 with
    | cons a1 b1 =>
      cases r2 with
      | cons a2 b2 =>
        cases j with
        | zero => exact ih h a1 a2
        | succ j => exact k b1 b2 j (Nat.lt_of_succ_lt_succ h1) (Nat.lt_of_succ_lt_succ h2)
theorem EqR.run (I : Inv X pins σ H s) {E : V → V → Bool → Prop} {A : Around} (hu : A.units < cLine) (ih : ∀ {x y : V} {b : Bool} {v u : Value}, E x y b → RelV x v → RelV y u → SeqAt.EqAt A.in1 s v u b)
    {x y : V} {b : Bool} {v u : Value} (h : EqR X.K H E x y b) (rx : RelV x v) (ry : RelV y u) : SeqAt.RcAt A s v u b := by
  cases h with
  | sc h => exact sc_rc h rx ry
  | bi a j => cases rx; obtain ⟨t, rfl⟩ := ry; exact SeqAt.RcAt.bool_int _ _ _
  | ib i b => cases ry; obtain ⟨t, rfl⟩ := rx; exact SeqAt.RcAt.int_bool _ _ _
  | ll h1 h2 hn =>
    cases rx; cases ry
    obtain ⟨i1, r1, p1, _⟩ := I.list h1
    obtain ⟨i2, r2, p2, _⟩ := I.list h2
    refine SeqAt.RcAt.lists_lengths p1.isList p2.isList ?_ hu
    have e1 := r1.length
    have e2 := r2.length
    simp only [List.size_toArray, bne_iff_ne]
    omega
  | @lst a b xs ys e h1 h2 hl hz =>
    cases rx; cases ry
    obtain ⟨i1, r1, p1, _⟩ := I.list h1
    obtain ⟨i2, r2, p2, _⟩ := I.list h2
    have e1 := r1.length
    have e2 := r2.length
    have el := hz.len
    have q := SeqAt.RcAt.lists (A := A) (e := fun i => e.getD i false) p1.isList p2.isList (by simp only [List.size_toArray]; omega) hu
      (fun j h1 h2 => hz.run ih r1 r2 j (by simpa using h1) (by simpa using h2))
    rw [show i1.toArray.size = e.length by simp only [List.size_toArray]; omega, range_all] at q
    exact q
  | @tup a b xs ys e h1 h2 hz =>
    cases rx; cases ry
    obtain ⟨i1, r1, p1, _⟩ := I.tuple h1
    obtain ⟨i2, r2, p2, _⟩ := I.tuple h2
    have e1 := r1.length
    have e2 := r2.length
    have el := hz.len
    have q := SeqAt.RcAt.tuples (A := A) (e := fun i => e.getD i false) p1 p2 hu
      (fun j h1 h2 => hz.run ih r1 r2 j (by simpa using h1) (by simpa using h2))
    rw [show min i1.toArray.size i2.toArray.size = e.length by simp only [List.size_toArray]; omega, range_all] at q
    have q2 : (i1.toArray.size == i2.toArray.size) = decide (xs.length = ys.length) := by
      rw [Bool.beq_eq_decide_eq]
      simp only [List.size_toArray]
      rw [e1, e2]
    rw [q2] at q
    exact q
  | lt h1 h2 =>
    cases rx; cases ry
    obtain ⟨i1, r1, p1, _⟩ := I.list h1
    obtain ⟨i2, r2, p2, _⟩ := I.tuple h2
    exact SeqAt.RcAt.list_tuple p1.isList p2 hu
  | tl h1 h2 =>
    cases rx; cases ry
    obtain ⟨i1, r1, p1, _⟩ := I.tuple h1
    obtain ⟨i2, r2, p2, _⟩ := I.list h2
    exact SeqAt.RcAt.tuple_list p1 p2.isList hu
  | ls h1 hs =>
    cases rx
    obtain ⟨i1, r1, p1, _⟩ := I.list h1
    cases y with
    | non => cases ry; exact SeqAt.RcAt.list_none p1.isList hu
    | bl b => cases ry; exact SeqAt.RcAt.list_bool _ p1.isList hu
    | int i => obtain ⟨t, rfl⟩ := ry; exact SeqAt.RcAt.list_int _ _ p1.isList hu
    | str z => obtain ⟨t, rfl⟩ := ry; exact SeqAt.RcAt.list_str _ _ p1.isList hu
    | _ => cases hs
  | sl h1 hs =>
    cases ry
    obtain ⟨i1, r1, p1, _⟩ := I.list h1
    cases x with
    | non => cases rx; exact SeqAt.RcAt.none_list p1.isList hu
    | bl b => cases rx; exact SeqAt.RcAt.bool_list _ p1.isList hu
    | int i => obtain ⟨t, rfl⟩ := rx; exact SeqAt.RcAt.int_list _ _ p1.isList hu
    | str z => obtain ⟨t, rfl⟩ := rx; exact SeqAt.RcAt.str_list _ _ p1.isList hu
    | _ => cases hs
  | ts h1 hs =>
    cases rx
    obtain ⟨i1, r1, p1, _⟩ := I.tuple h1
    cases y with
    | non => cases ry; exact SeqAt.RcAt.tuple_none p1 hu
    | bl b => cases ry; exact SeqAt.RcAt.tuple_bool _ p1 hu
    | int i => obtain ⟨t, rfl⟩ := ry; exact SeqAt.RcAt.tuple_int _ _ p1 hu
    | str z => obtain ⟨t, rfl⟩ := ry; exact SeqAt.RcAt.tuple_str _ _ p1 hu
    | _ => cases hs
  | st h1 hs =>
    cases ry
    obtain ⟨i1, r1, p1, _⟩ := I.tuple h1
    cases x with
    | non => cases rx; exact SeqAt.RcAt.none_tuple p1 hu
    | bl b => cases rx; exact SeqAt.RcAt.bool_tuple _ p1 hu
    | int i => obtain ⟨t, rfl⟩ := rx; exact SeqAt.RcAt.int_tuple _ _ p1 hu
    | str z => obtain ⟨t, rfl⟩ := rx; exact SeqAt.RcAt.str_tuple _ _ p1 hu
    | _ => cases hs
theorem EqR.runNe (I : Inv X pins σ H s) {E : V → V → Bool → Prop} {A : Around} (hu : A.units < cLine) (ih : ∀ {x y : V} {b : Bool} {v u : Value}, E x y b → RelV x v → RelV y u → SeqAt.EqAt A.in1 s v u b)
    {x y : V} {b : Bool} {v u : Value} (h : EqR X.K H E x y b) (rx : RelV x v) (ry : RelV y u) : SeqAt.RcNeAt A s v u (!b) := by
  cases h with
  | sc h => exact sc_ne h rx ry
  | bi a j => cases rx; obtain ⟨t, rfl⟩ := ry; exact SeqAt.RcNeAt.bool_int _ _ _
  | ib i b => cases ry; obtain ⟨t, rfl⟩ := rx; exact SeqAt.RcNeAt.int_bool _ _ _
  | ll h1 h2 hn =>
    cases rx; cases ry
    obtain ⟨i1, r1, p1, _⟩ := I.list h1
    obtain ⟨i2, r2, p2, _⟩ := I.list h2
    refine SeqAt.RcNeAt.lists_lengths p1.isList p2.isList ?_ hu
    have e1 := r1.length
    have e2 := r2.length
    simp only [List.size_toArray, bne_iff_ne]
    omega
  | @lst a b xs ys e h1 h2 hl hz =>
    cases rx; cases ry
    obtain ⟨i1, r1, p1, _⟩ := I.list h1
    obtain ⟨i2, r2, p2, _⟩ := I.list h2
    have e1 := r1.length
    have e2 := r2.length
    have el := hz.len
    have q := SeqAt.RcNeAt.lists (A := A) (e := fun i => e.getD i false) p1.isList p2.isList (by simp only [List.size_toArray]; omega) hu
      (fun j h1 h2 => hz.run ih r1 r2 j (by simpa using h1) (by simpa using h2))
    rw [show i1.toArray.size = e.length by simp only [List.size_toArray]; omega, range_all] at q
    exact q
  | @tup a b xs ys e h1 h2 hz =>
    cases rx; cases ry
    obtain ⟨i1, r1, p1, _⟩ := I.tuple h1
    obtain ⟨i2, r2, p2, _⟩ := I.tuple h2
    have e1 := r1.length
    have e2 := r2.length
    have el := hz.len
    have q := SeqAt.RcNeAt.tuples (A := A) (e := fun i => e.getD i false) p1 p2 hu
      (fun j h1 h2 => hz.run ih r1 r2 j (by simpa using h1) (by simpa using h2))
    rw [show min i1.toArray.size i2.toArray.size = e.length by simp only [List.size_toArray]; omega, range_all] at q
    have q2 : (i1.toArray.size == i2.toArray.size) = decide (xs.length = ys.length) := by
      rw [Bool.beq_eq_decide_eq]
      simp only [List.size_toArray]
      rw [e1, e2]
    rw [q2] at q
    exact q
  | lt h1 h2 =>
    cases rx; cases ry
    obtain ⟨i1, r1, p1, _⟩ := I.list h1
    obtain ⟨i2, r2, p2, _⟩ := I.tuple h2
    exact SeqAt.RcNeAt.list_tuple p1.isList p2 hu
  | tl h1 h2 =>
    cases rx; cases ry
    obtain ⟨i1, r1, p1, _⟩ := I.tuple h1
    obtain ⟨i2, r2, p2, _⟩ := I.list h2
    exact SeqAt.RcNeAt.tuple_list p1 p2.isList hu
  | ls h1 hs =>
    cases rx
    obtain ⟨i1, r1, p1, _⟩ := I.list h1
    cases y with
    | non => cases ry; exact SeqAt.RcNeAt.list_none p1.isList hu
    | bl b => cases ry; exact SeqAt.RcNeAt.list_bool _ p1.isList hu
    | int i => obtain ⟨t, rfl⟩ := ry; exact SeqAt.RcNeAt.list_int _ _ p1.isList hu
    | str z => obtain ⟨t, rfl⟩ := ry; exact SeqAt.RcNeAt.list_str _ _ p1.isList hu
    | _ => cases hs
  | sl h1 hs =>
    cases ry
    obtain ⟨i1, r1, p1, _⟩ := I.list h1
    cases x with
    | non => cases rx; exact SeqAt.RcNeAt.none_list p1.isList hu
    | bl b => cases rx; exact SeqAt.RcNeAt.bool_list _ p1.isList hu
    | int i => obtain ⟨t, rfl⟩ := rx; exact SeqAt.RcNeAt.int_list _ _ p1.isList hu
    | str z => obtain ⟨t, rfl⟩ := rx; exact SeqAt.RcNeAt.str_list _ _ p1.isList hu
    | _ => cases hs
  | ts h1 hs =>
    cases rx
    obtain ⟨i1, r1, p1, _⟩ := I.tuple h1
    cases y with
    | non => cases ry; exact SeqAt.RcNeAt.tuple_none p1 hu
    | bl b => cases ry; exact SeqAt.RcNeAt.tuple_bool _ p1 hu
    | int i => obtain ⟨t, rfl⟩ := ry; exact SeqAt.RcNeAt.tuple_int _ _ p1 hu
    | str z => obtain ⟨t, rfl⟩ := ry; exact SeqAt.RcNeAt.tuple_str _ _ p1 hu
    | _ => cases hs
  | st h1 hs =>
    cases ry
    obtain ⟨i1, r1, p1, _⟩ := I.tuple h1
    cases x with
    | non => cases rx; exact SeqAt.RcNeAt.none_tuple p1 hu
    | bl b => cases rx; exact SeqAt.RcNeAt.bool_tuple _ p1 hu
    | int i => obtain ⟨t, rfl⟩ := rx; exact SeqAt.RcNeAt.int_tuple _ _ p1 hu
    | str z => obtain ⟨t, rfl⟩ := rx; exact SeqAt.RcNeAt.str_tuple _ _ p1 hu
    | _ => cases hs
theorem EqI.run (I : Inv X pins σ H s) : ∀ {n : Nat} {A : Around}, A.units + n < cLine → ∀ {x y : V} {b : Bool} {v u : Value}, EqI X.K H n x y b → RelV x v → RelV y u → SeqAt.EqAt A s v u b
  | 0, _, _, _, _, _, _, _, h, _, _ => h.elim
  | n + 1, A, hu, x, y, b, v, u, h, rx, ry => by
    have hu1 : A.units < cLine := by omega
    rcases h with ⟨a, rfl, rfl, rfl⟩ | ⟨h, hn⟩
    · cases rx; cases ry; exact SeqAt.EqAt.same _
    · have ih : ∀ {x y : V} {b : Bool} {v u : Value}, EqI X.K H n x y b → RelV x v → RelV y u → SeqAt.EqAt A.in1 s v u b := EqI.run I (by show A.units + 1 + n < cLine; omega)
      by_cases hr : ∃ a b, x = V.ref a ∧ y = V.ref b
      · obtain ⟨a, b, rfl, rfl⟩ := hr
        have k := h.run I hu1 ih rx ry
        cases rx; cases ry
        exact SeqAt.EqAt.of_refs (fun e => hn a rfl (by rw [e])) k
      · have hu := hu1
        cases h with
        | sc h => exact sc_eq h rx ry
        | bi a j => cases rx; obtain ⟨t, rfl⟩ := ry; exact SeqAt.EqAt.bool_int _ _ _
        | ib i b => cases ry; obtain ⟨t, rfl⟩ := rx; exact SeqAt.EqAt.int_bool _ _ _
        | ll _ _ _ => exact absurd ⟨_, _, rfl, rfl⟩ hr
        | lst _ _ _ _ => exact absurd ⟨_, _, rfl, rfl⟩ hr
        | tup _ _ _ => exact absurd ⟨_, _, rfl, rfl⟩ hr
        | lt _ _ => exact absurd ⟨_, _, rfl, rfl⟩ hr
        | tl _ _ => exact absurd ⟨_, _, rfl, rfl⟩ hr
        | ls h1 hs =>
          cases rx
          obtain ⟨i1, r1, p1, _⟩ := I.list h1
          cases y with
          | non => cases ry; exact SeqAt.EqAt.list_none p1.isList hu
          | bl b => cases ry; exact SeqAt.EqAt.list_bool _ p1.isList hu
          | int i => obtain ⟨t, rfl⟩ := ry; exact SeqAt.EqAt.list_int _ _ p1.isList hu
          | str z => obtain ⟨t, rfl⟩ := ry; exact SeqAt.EqAt.list_str _ _ p1.isList hu
          | _ => cases hs
        | sl h1 hs =>
          cases ry
          obtain ⟨i1, r1, p1, _⟩ := I.list h1
          cases x with
          | non => cases rx; exact SeqAt.EqAt.none_list p1.isList hu
          | bl b => cases rx; exact SeqAt.EqAt.bool_list _ p1.isList hu
          | int i => obtain ⟨t, rfl⟩ := rx; exact SeqAt.EqAt.int_list _ _ p1.isList hu
          | str z => obtain ⟨t, rfl⟩ := rx; exact SeqAt.EqAt.str_list _ _ p1.isList hu
          | _ => cases hs
        | ts h1 hs =>
          cases rx
          obtain ⟨i1, r1, p1, _⟩ := I.tuple h1
          cases y with
          | non => cases ry; exact SeqAt.EqAt.tuple_none p1 hu
          | bl b => cases ry; exact SeqAt.EqAt.tuple_bool _ p1 hu
          | int i => obtain ⟨t, rfl⟩ := ry; exact SeqAt.EqAt.tuple_int _ _ p1 hu
          | str z => obtain ⟨t, rfl⟩ := ry; exact SeqAt.EqAt.tuple_str _ _ p1 hu
          | _ => cases hs
        | st h1 hs =>
          cases ry
          obtain ⟨i1, r1, p1, _⟩ := I.tuple h1
          cases x with
          | non => cases rx; exact SeqAt.EqAt.none_tuple p1 hu
          | bl b => cases rx; exact SeqAt.EqAt.bool_tuple _ p1 hu
          | int i => obtain ⟨t, rfl⟩ := rx; exact SeqAt.EqAt.int_tuple _ _ p1 hu
          | str z => obtain ⟨t, rfl⟩ := rx; exact SeqAt.EqAt.str_tuple _ _ p1 hu
          | _ => cases hs

/-- x == y, x != y -/
def rEqG (K : PySem.W.Frag) : R2 := fun x y H Q => ∃ b, EqR K H (EqI K H 60) x y b ∧ Q (.bl b) H
def rNeG (K : PySem.W.Frag) : R2 := fun x y H Q => ∃ b, EqR K H (EqI K H 60) x y b ∧ Q (.bl (!b)) H
theorem op_eqG (hu : X.A.units + 64 < cLine) : OpR X (compareOp .Eq) (rEqG X.K) := by
  intro pins s σ H x y v u Q I rx ry h
  obtain ⟨b, e, q⟩ := h
  exact e.run I (A := X.A) (by omega) (EqI.run I (by show X.A.units + 1 + 60 < cLine; omega)) rx ry X.prog X.w _ _ ⟨.bl b, H, I, rfl, q⟩
theorem op_neG (hu : X.A.units + 64 < cLine) : OpR X (compareOp .NotEq) (rNeG X.K) := by
  intro pins s σ H x y v u Q I rx ry h
  obtain ⟨b, e, q⟩ := h
  exact e.runNe I (A := X.A) (by omega) (EqI.run I (by show X.A.units + 1 + 60 < cLine; omega)) rx ry X.prog X.w _ _ ⟨.bl (!b), H, I, rfl, q⟩
end
end Z

/-! L3: wide rules (one rule a construct, whatever the kinds of its operands), and steps for their readings -/
namespace Z
open PySem PySem.Spec PyProof.Rows L2 Evl

/-! ### wide relations -/
def rAddA (K : PySem.W.Frag) : R2 := fun x y H Q => (∃ i j, x = .int i ∧ y = .int j ∧ Q (.int (i + j)) H) ∨ (∃ i j, x = .str i ∧ y = .str j ∧ i.length + j.length ≤ sizeLine ∧ Q (.str (i ++ j)) H) ∨ rCat x y H Q ∨ L2.rCatA K x y H Q
def rSubA : R2 := fun x y H Q => ∃ i j, x = .int i ∧ y = .int j ∧ Q (.int (i - j)) H
def rMulS : R2 := fun x y H Q => ∃ z n, x = .str z ∧ y = .int n ∧ MulOk z n ∧ Q (.str (Txt.mul z n)) H
def rMulA : R2 := fun x y H Q => (∃ i j, x = .int i ∧ y = .int j ∧ CMulW i j ∧ Q (.int (i * j)) H) ∨ rMulS x y H Q ∨ rRep x y H Q
def rDivA : R2 := fun x y H Q => ∃ i j, x = .int i ∧ y = .int j ∧ CDivW i j ∧ Q (.int (i / j)) H
def rModA : R2 := fun x y H Q => ∃ i j, x = .int i ∧ y = .int j ∧ 0 < j ∧ Q (.int (i % j)) H
def rPowA : R2 := fun x y H Q => ∃ i j, x = .int i ∧ y = .int j ∧ CPow i j ∧ Q (.int (i ^ j.toNat)) H
def rEqA (K : PySem.W.Frag) : R2 := fun x y H Q => rEq x y H Q ∨ rEqG K x y H Q ∨ rEqD K x y H Q
def rNeA (K : PySem.W.Frag) : R2 := fun x y H Q => rNe x y H Q ∨ rNeG K x y H Q ∨ rNeD K x y H Q
def rLtA : R2 := fun x y H Q => (∃ i j, x = .int i ∧ y = .int j ∧ Q (.bl (decide (i < j))) H) ∨ (∃ i j, x = .str i ∧ y = .str j ∧ Q (.bl (decide (i.cps.toList < j.cps.toList))) H)
def rLeA : R2 := fun x y H Q => (∃ i j, x = .int i ∧ y = .int j ∧ Q (.bl (decide (i ≤ j))) H) ∨ (∃ i j, x = .str i ∧ y = .str j ∧ Q (.bl (!decide (j.cps.toList < i.cps.toList))) H)
def rGtA : R2 := fun x y H Q => (∃ i j, x = .int i ∧ y = .int j ∧ Q (.bl (decide (j < i))) H) ∨ (∃ i j, x = .str i ∧ y = .str j ∧ Q (.bl (decide (j.cps.toList < i.cps.toList))) H)
def rGeA : R2 := fun x y H Q => (∃ i j, x = .int i ∧ y = .int j ∧ Q (.bl (decide (j ≤ i))) H) ∨ (∃ i j, x = .str i ∧ y = .str j ∧ Q (.bl (!decide (i.cps.toList < j.cps.toList))) H)
def rIsA : R2 := fun x y H Q => (y = .non ∧ Q (.bl (decide (x = .non))) H) ∨ rIsB x y H Q ∨ (∃ a b oa ob, x = .ref a ∧ y = .ref b ∧ H a = some oa ∧ isObj oa = true ∧ H b = some ob ∧ isObj ob = true ∧ Q (.bl (decide (a = b))) H)
def rNotA : R2 := fun x y H Q => (y = .non ∧ Q (.bl (!decide (x = .non))) H) ∨ rNotB x y H Q ∨ (∃ a b oa ob, x = .ref a ∧ y = .ref b ∧ H a = some oa ∧ isObj oa = true ∧ H b = some ob ∧ isObj ob = true ∧ Q (.bl (!decide (a = b))) H)
def rInA (K : PySem.W.Frag) : R2 := fun x y H Q => (∃ (c : Nat) (z : Str), x = .str ⟨#[c]⟩ ∧ y = .str z ∧ Q (.bl (decide (c ∈ z.cps.toList))) H) ∨ rIn K false x y H Q ∨ (∃ i j, x = .str i ∧ y = .str j ∧ Q (.bl (!(Builtin.Str.occurrences j i 0 j.length 1).isEmpty)) H)
def rNinA (K : PySem.W.Frag) : R2 := fun x y H Q => (∃ (c : Nat) (z : Str), x = .str ⟨#[c]⟩ ∧ y = .str z ∧ Q (.bl (!decide (c ∈ z.cps.toList))) H) ∨ rIn K true x y H Q ∨ (∃ i j, x = .str i ∧ y = .str j ∧ Q (.bl (!(!(Builtin.Str.occurrences j i 0 j.length 1).isEmpty))) H)
def rSlA (K : PySem.W.Frag) : V → Option Int → Option Int → Hp → VK → Prop := fun x lo hi H Q => rSlS x lo hi H Q ∨ rSlL K x lo hi H Q ∨ L2.rSlA K x lo hi H Q
def rLenA (K : PySem.W.Frag) : List V → Hp → VK → Prop := fun xs H Q => (∃ x n, xs = [x] ∧ LenV K x H n ∧ Q (.int n) H) ∨ (∃ a kvs, xs = [V.ref a] ∧ H a = some (.dK kvs) ∧ Q (.int kvs.length) H)
def rMaxA (K : PySem.W.Frag) : List V → Hp → VK → Prop := fun xs H Q => (∃ i j, xs = [.int i, .int j] ∧ Q (.int (if j > i then j else i)) H) ∨ rMax K xs H Q
def rMinA (K : PySem.W.Frag) : List V → Hp → VK → Prop := fun xs H Q => (∃ i j, xs = [.int i, .int j] ∧ Q (.int (if j < i then j else i)) H) ∨ rMin K xs H Q
def rJoinA (K : PySem.W.Frag) : V → List V → Hp → VK → Prop := fun x xs H Q => ∃ a p, ∃ ys : List Str, x = .str a ∧ xs = [.ref p] ∧ (SqL K H p (ys.map V.str) ∨ SqT K H p (ys.map V.str)) ∧ (ys.map (·.length)).sum + ys.length * a.length ≤ 16777216 ∧ Q (.str (Txt.join a ys)) H
def rUpper : V → List V → Hp → VK → Prop := fun x xs H Q => ∃ a, x = .str a ∧ xs = [] ∧ a.length ≤ 5592405 ∧ Q (.str (Txt.upper a)) H
def iAny (K : PySem.W.Frag) (te : TE) : TI := fun σ H R => iList K te σ H R ∨ iTup K te σ H R ∨ iStr te σ H R

section
variable {X : Cx}
theorem op_addA : OpR X (binaryOp .Add) (rAddA X.K) := op_add.or (op_add_str.or (op_cat.or op_catA))
theorem op_subA : OpR X (binaryOp .Sub) rSubA := op_sub
theorem op_mulS : OpR X (binaryOp .Mult) rMulS := by
  intro pins s σ H x y v u Q I rx ry h
  obtain ⟨i, j, rfl, rfl, hz, q⟩ := h
  obtain ⟨t, rfl⟩ := rx
  obtain ⟨t', rfl⟩ := ry
  exact SB.mul hz fun t' k => ⟨.str _, H, I.tok _, ⟨_, rfl⟩, q⟩
theorem op_mulA : OpR X (binaryOp .Mult) rMulA := op_mulW.or (op_mulS.or op_rep)
theorem op_divA : OpR X (binaryOp .FloorDiv) rDivA := op_fdivW
theorem op_modA : OpR X (binaryOp .Mod) rModA := op_mod
theorem op_powA : OpR X (binaryOp .Pow) rPowA := op_pow
theorem op_eqA (hu : X.A.units + 64 < cLine) : OpR X (compareOp .Eq) (rEqA X.K) := op_eq.or ((op_eqG hu).or (op_eqD hu))
theorem op_neA (hu : X.A.units + 64 < cLine) : OpR X (compareOp .NotEq) (rNeA X.K) := op_ne.or ((op_neG hu).or (op_neD hu))
theorem op_ltA : OpR X (compareOp .Lt) rLtA := op_lt.or op_lt_str
theorem op_leA : OpR X (compareOp .LtE) rLeA := op_le.or op_le_str
theorem op_gtA : OpR X (compareOp .Gt) rGtA := op_gt.or op_gt_str
theorem op_geA : OpR X (compareOp .GtE) rGeA := op_ge.or op_ge_str
theorem op_isA : OpR X (compareOp .Is) rIsA := op_isN.or (op_isBl.or op_is_ref)
theorem op_notA : OpR X (compareOp .IsNot) rNotA := op_notN.or (op_notBl.or op_isnot_ref)
theorem op_inA : OpR X (compareOp .In) (rInA X.K) := op_in_sign.or (op_in_seq.or op_in_str)
theorem op_ninA : OpR X (compareOp .NotIn) (rNinA X.K) := op_notIn_sign.or (op_notIn_seq.or op_notIn_str)
theorem sl_A : SlR X (rSlA X.K) := sl_str.or (sl_list.or sl_tupA)
theorem call_lenA : CallR X (.builtin "len") (rLenA X.K) := call_len.or call_lenD
theorem call_maxA (hc : X.calm = true) : CallR X (.builtin "max") (rMaxA X.K) := (call_max2 hc).or (cr_max hc)
theorem call_minA (hc : X.calm = true) : CallR X (.builtin "min") (rMinA X.K) := (call_min2 hc).or (cr_min hc)
theorem PI.or {tg iter : Expr} {w1 w2 : TI} (h1 : PI X tg iter w1) (h2 : PI X tg iter w2) : PI X tg iter (fun σ H R => w1 σ H R ∨ w2 σ H R) :=
  ⟨fun pins s σ H R I h => h.elim (h1.run pins s σ H R I) (h2.run pins s σ H R I)⟩
theorem pi_any {tg e : Expr} {te : TE} (he : PE X e te) : PI X tg e (iAny X.K te) := PI.or (pi_list he) (PI.or (pi_tup he) (pi_str he))
theorem pe_gint {x : Str} {i : Int} {pos : Pos} (hg : Gl X x) (hm : ∃ t, X.mg x = some (.int i t)) (hd : (x == ("__debug__" : Str)) = false := by decide) : PE X (.Name x pos) (tC (.int i)) :=
  let ⟨t, h⟩ := hm
  pe_glob hg h ⟨t, rfl⟩ hd
theorem pe_gstr {x : Str} {i : Str} {pos : Pos} (hg : Gl X x) (hm : ∃ t, X.mg x = some (.str i t)) (hd : (x == ("__debug__" : Str)) = false := by decide) : PE X (.Name x pos) (tC (.str i)) :=
  let ⟨t, h⟩ := hm
  pe_glob hg h ⟨t, rfl⟩ hd
end

/-! ### a def behind the top, its promise -/
structure Fok (P : Program) (w : World) (K : PySem.W.Frag) (mg : Str → Option Value) (base : Heap) (CX : CXT) (k : Nat) (x : Str) (ps : List Str) (sp : Sp) : Prop where
  ex : ∃ fd, FnOk P w K mg base CX k (He.ga K x) fd ps sp ∧ Binds K fd ps []
  hm : mg x = some (.ref (He.ga K x))
  kp : PySem.W.keepIn K (.ref (He.ga K x)) = true
theorem pe_callF {X : Cx} {CX : CXT} {k : Nat} {x : Str} {ps : List Str} {sp : Sp} {E : XK} {e : Expr} {es : List Expr} {t : TA} {p pos : Pos} (F : Fok X.prog X.w X.K X.mg X.base CX k x ps sp) (hr : Room k X.A) (hg : Gl X x) (hx : Passes CX X E)
    (ha : PA X (e :: es) t) (hdb : (x == ("__debug__" : Str)) = false := by decide) (he : starEach (e :: es) X.env = (false, eval e X.env) :: starEach es X.env := by rfl) (hpl : (backTo pos (starEach es X.env)).any (·.1) = false := by rfl) :
    PE X (.Call (.Name x p) (e :: es) [] pos) (tCall sp [] E t) :=
  let ⟨_, h1, h2⟩ := F.ex
  pe_call h1 hr hg F.hm F.kp h2 .nil hx ha hdb he hpl

/-! ### heaps -/
/-- all but the object at p is as it was -/
def But (p : Addr) (H H' : Hp) : Prop := ∀ a o, H a = some o → a ≠ p → H' a = some o
theorem Ex.but {p : Addr} {H H' : Hp} (e : Ex H H') : But p H H' := fun a o h _ => e a o h
theorem But.refl {p : Addr} {H : Hp} : But p H H := fun _ _ h _ => h
theorem But.trans {p : Addr} {H H1 H2 : Hp} (a : But p H H1) (b : But p H1 H2) : But p H H2 := fun x o h n => b x o (a x o h n) n
theorem But.ex {p : Addr} {H H1 H2 : Hp} (a : But p H H1) (b : Ex H1 H2) : But p H H2 := fun x o h n => b x o (a x o h n)
theorem But.new {p q : Addr} {H H1 : Hp} {o : HO} (a : But p H H1) (h : H1 q = none) : But p H (upd H1 q o) := a.ex (Ex.new h)
theorem But.set {p : Addr} {H H1 : Hp} {o : HO} (a : But p H H1) : But p H (upd H1 p o) := fun x o h n => by
  rw [upd_ne n]
  exact a x o h n
theorem look_new {H : Hp} {a b : Addr} {o u : HO} (h : H a = some o) (hn : H b = none) : upd H b u a = some o := Ex.new hn _ _ h
theorem look_mut {H : Hp} {a b : Addr} {o u : HO} (h : H a = some o) (hn : a ≠ b) : upd H b u a = some o := by
  rw [upd_ne hn]
  exact h
theorem look_ex {H H' : Hp} {a : Addr} {o : HO} (s : Ex H H') (h : H a = some o) : H' a = some o := s _ _ h
theorem look_but {H H' : Hp} {a p : Addr} {o : HO} (s : But p H H') (h : H a = some o) (n : a ≠ p) : H' a = some o := s _ _ h n
theorem ne_back {H : Hp} {a b : Addr} {o : HO} (h : H a = some o) (h' : H b = none) : b ≠ a := fun e => ne_of_none h h' e.symm

theorem len_ok {n : Nat} (h : n ≤ 16777216) : n ≤ sizeLine := by
  rw [sizeLine_eq]
  exact h
/-! ### steps -/
section
variable {K : PySem.W.Frag} {σ : L2.St} {H : Hp} {Q : VK} {ta tb : TE} {x y v : V}
theorem s_var {i : Nat} (h : σ[i]? = some (some v)) (q : Q v H) : tVar i σ H Q := ⟨v, h, q⟩
theorem s_c (q : Q v H) : tC v σ H Q := q
theorem s_op {r : R2} (h : ta σ H fun x H1 => tb σ H1 fun y H2 => r x y H2 Q) : tOp r ta tb σ H Q := h
theorem s_un {r : V → Hp → VK → Prop} (h : ta σ H fun x H1 => r x H1 Q) : tUn r ta σ H Q := h
theorem s_rU {g : Int → V} {i : Int} (q : Q (g i) H) : rU g (.int i) H Q := ⟨i, rfl, q⟩
theorem s_cb {r : List V → Hp → VK → Prop} {t : TA} (h : t σ H fun vs H1 => r vs H1 Q) : tCB r t σ H Q := h
theorem s_call {sp : Sp} {E : XK} {t : TA} (h : t σ H fun vs H1 => sp vs H1 Q E) : tCall sp [] E t σ H Q := by
  show t σ H fun vs H1 => sp (vs ++ []) H1 Q E
  simp only [List.append_nil]
  exact h
theorem s_if {t : TT} (h : t σ H fun c H1 => if c = true then ta σ H1 Q else tb σ H1 Q) : tIf t ta tb σ H Q := h
theorem s_andV (h : ta σ H fun x H1 => ∃ c, x = .bl c ∧ if c = true then tb σ H1 Q else Q (.bl false) H1) : tAndV ta tb σ H Q := h
theorem s_orV (h : ta σ H fun x H1 => ∃ c, x = .bl c ∧ if c = true then Q (.bl true) H1 else tb σ H1 Q) : tOrV ta tb σ H Q := h
theorem s_notV (h : ta σ H fun x H1 => ∃ c, x = .bl c ∧ Q (.bl (!c)) H1) : tNotV ta σ H Q := h
theorem s_bl {c : Bool} {R : Bool → Prop} (h : R c) : ∃ d, V.bl c = .bl d ∧ R d := ⟨c, rfl, h⟩
theorem s_chain {r r' : R2} {tc : TE} (h : ta σ H fun x H1 => tb σ H1 fun y H2 => r x y H2 fun z H3 => ∃ k, z = .bl k ∧ (if k = true then tc σ H3 fun w' H4 => r' y w' H4 Q else Q (.bl false) H3)) : tChain r r' ta tb tc σ H Q := h
theorem s_lst {t : TA} (h : t σ H fun xs H1 => xs.length ≤ sizeLine ∧ ∀ p, H1 p = none → Q (.ref p) (upd H1 p (.lst xs))) : tLst t σ H Q := h
theorem s_tup {t : TA} (h : t σ H fun xs H1 => xs.length ≤ sizeLine ∧ ∀ p, H1 p = none → Q (.ref p) (upd H1 p (.tup xs))) : tTup t σ H Q := h
theorem s_sl {r : V → Option Int → Option Int → Hp → VK → Prop} {tl th : TO} (h : ta σ H fun x H1 => tl σ H1 fun l H2 => th σ H2 fun u H3 => r x l u H3 Q) : tSl r ta tl th σ H Q := h
theorem s_m0 {r : V → List V → Hp → VK → Prop} {z : Str} (h : r (.str z) [] H Q) : (fun (x : V) H1 => (∃ a, x = .str a) ∧ r x [] H1 Q) (.str z) H := ⟨⟨z, rfl⟩, h⟩
section
variable {R : Bool → Hp → Prop} {t u : TT}
theorem s_test (h : ta σ H fun x H' => ∃ k, x = .bl k ∧ R k H') : tTest ta σ H R := h
theorem s_B (h : ta σ H fun x H' => ∃ k, x = .bl k ∧ R k H') : tB ta σ H R := h
theorem s_and (h : t σ H fun c H1 => if c = true then u σ H1 R else R false H1) : tAnd t u σ H R := h
theorem s_or (h : t σ H fun c H1 => if c = true then R true H1 else u σ H1 R) : tOr t u σ H R := h
theorem s_not (h : t σ H fun c H1 => R (!c) H1) : tNot t σ H R := h
theorem s_yes (h : R true H) : tYes σ H R := h
end
section
variable {R : List V → Hp → Prop} {t : TA}
theorem s_nil (h : R [] H) : tNil σ H R := h
theorem s_cons (h : ta σ H fun x H1 => t σ H1 fun xs H2 => R (x :: xs) H2) : tCons ta t σ H R := h
end
section
variable {R : Option Int → Hp → Prop}
theorem s_nopart (h : R none H) : tNoPart σ H R := h
theorem s_part (h : ta σ H fun x H1 => ∃ i, x = .int i ∧ R (some i) H1) : tPart ta σ H R := h
theorem s_int {i : Int} {R : Int → Prop} (h : R i) : ∃ j, V.int i = .int j ∧ R j := ⟨i, rfl, h⟩
end
theorem s_itet {b : Bool} {A B : Prop} (e : b = true) (h : A) : if b = true then A else B := by
  rw [if_pos e]
  exact h
theorem s_itef {b : Bool} {A B : Prop} (e : b = false) (h : B) : if b = true then A else B := by
  rw [e]
  exact iteF h
/-- what a part gives, whatever follows -/
theorem via {te : TE} (R : V → Hp → Prop) (h : ∀ F : VK, (∀ v H', R v H' → F v H') → te σ H F) (q : ∀ v H', R v H' → Q v H') : te σ H Q := h Q q
theorem ite_via {c : Prop} [Decidable c] {t1 t2 : TE} (R : V → Hp → Prop) (h1 : c → ∀ F : VK, (∀ v H', R v H' → F v H') → t1 σ H F) (h2 : ¬ c → ∀ F : VK, (∀ v H', R v H' → F v H') → t2 σ H F) (q : ∀ v H', R v H' → Q v H') :
    if c then t1 σ H Q else t2 σ H Q := ite2 (fun h => h1 h Q q) (fun h => h2 h Q q)
/-! operators by kinds -/
theorem s_addI {i j : Int} (q : Q (.int (i + j)) H) : rAddA K (.int i) (.int j) H Q := .inl ⟨i, j, rfl, rfl, q⟩
theorem s_addS {i j : Str} (h : i.length + j.length ≤ sizeLine) (q : Q (.str (i ++ j)) H) : rAddA K (.str i) (.str j) H Q := .inr (.inl ⟨i, j, rfl, rfl, h, q⟩)
theorem s_addL {a b : Addr} {xs ys : List V} (ha : H a = some (.lst xs)) (hb : H b = some (.lst ys)) (h : xs.length + ys.length ≤ sizeLine) (q : ∀ p, H p = none → Q (.ref p) (upd H p (.lst (xs ++ ys)))) : rAddA K (.ref a) (.ref b) H Q :=
  .inr (.inr (.inl ⟨a, b, xs, ys, rfl, rfl, ha, hb, h, q⟩))
theorem s_addT {a b : Addr} {xs ys : List V} (ha : H a = some (.tup xs)) (hb : H b = some (.tup ys)) (hx : xs ≠ []) (hy : ys ≠ []) (h : xs.length + ys.length ≤ sizeLine) (q : ∀ p, H p = none → Q (.ref p) (upd H p (.tup (xs ++ ys)))) : rAddA K (.ref a) (.ref b) H Q :=
  .inr (.inr (.inr ⟨a, b, xs, ys, rfl, rfl, SqT.of ha, SqT.of hb, h, fun e => absurd e hx, fun _ e => absurd e hy, fun _ _ => q⟩))
theorem s_subI {i j : Int} (q : Q (.int (i - j)) H) : rSubA (.int i) (.int j) H Q := ⟨i, j, rfl, rfl, q⟩
theorem s_mulI {i j : Int} (h : CMulW i j) (q : Q (.int (i * j)) H) : rMulA (.int i) (.int j) H Q := .inl ⟨i, j, rfl, rfl, h, q⟩
theorem s_mulS {z : Str} {n : Int} (h : MulOk z n) (q : Q (.str (Txt.mul z n)) H) : rMulA (.str z) (.int n) H Q := .inr (.inl ⟨z, n, rfl, rfl, h, q⟩)
theorem s_divI {i j : Int} (h : CDivW i j) (q : Q (.int (i / j)) H) : rDivA (.int i) (.int j) H Q := ⟨i, j, rfl, rfl, h, q⟩
theorem s_modI {i j : Int} (h : 0 < j) (q : Q (.int (i % j)) H) : rModA (.int i) (.int j) H Q := ⟨i, j, rfl, rfl, h, q⟩
theorem s_powI {i j : Int} (h : CPow i j) (q : Q (.int (i ^ j.toNat)) H) : rPowA (.int i) (.int j) H Q := ⟨i, j, rfl, rfl, h, q⟩
theorem s_eqS (h : scal x y = true) (q : Q (.bl (decide (x = y))) H) : rEqA K x y H Q := .inl ⟨h, q⟩
theorem s_neS (h : scal x y = true) (q : Q (.bl (!decide (x = y))) H) : rNeA K x y H Q := .inl ⟨h, q⟩
theorem s_eqD {d e : PyData} (hd : Dp K H x d) (he : Dp K H y e) (sd : SeqAt.shaped d = true) (se : SeqAt.shaped e = true) (q : Q (.bl (PyData.eqv d e)) H) : rEqA K x y H Q := .inr (.inr ⟨d, e, hd, he, sd, se, q⟩)
theorem s_neD {d e : PyData} (hd : Dp K H x d) (he : Dp K H y e) (sd : SeqAt.shaped d = true) (se : SeqAt.shaped e = true) (q : Q (.bl (!PyData.eqv d e)) H) : rNeA K x y H Q := .inr (.inr ⟨d, e, hd, he, sd, se, q⟩)
theorem s_eqG {b : Bool} (h : EqR K H (EqI K H 60) x y b) (q : Q (.bl b) H) : rEqA K x y H Q := .inr (.inl ⟨b, h, q⟩)
theorem s_neG {b : Bool} (h : EqR K H (EqI K H 60) x y b) (q : Q (.bl (!b)) H) : rNeA K x y H Q := .inr (.inl ⟨b, h, q⟩)
/-- a list against the empty one -/
theorem eq_nil {K : PySem.W.Frag} {H : Hp} {a b : Addr} {xs : List V} {E : V → V → Bool → Prop} (ha : H a = some (.lst xs)) (hb : H b = some (.lst [])) : EqR K H E (.ref a) (.ref b) xs.isEmpty := by
  cases xs with
  | nil => exact .lst (e := []) (SqL.of ha) (SqL.of hb) rfl .nil
  | cons x xs => exact .ll (SqL.of ha) (SqL.of hb) (by simp)
theorem s_eqNil {a b : Addr} {xs : List V} (ha : H a = some (.lst xs)) (hb : H b = some (.lst [])) (q : Q (.bl xs.isEmpty) H) : rEqA K (.ref a) (.ref b) H Q := s_eqG (eq_nil ha hb) q
theorem s_neNil {a b : Addr} {xs : List V} (ha : H a = some (.lst xs)) (hb : H b = some (.lst [])) (q : Q (.bl (!xs.isEmpty)) H) : rNeA K (.ref a) (.ref b) H Q := s_neG (eq_nil ha hb) q
theorem s_ltI {i j : Int} (q : Q (.bl (decide (i < j))) H) : rLtA (.int i) (.int j) H Q := .inl ⟨i, j, rfl, rfl, q⟩
theorem s_leI {i j : Int} (q : Q (.bl (decide (i ≤ j))) H) : rLeA (.int i) (.int j) H Q := .inl ⟨i, j, rfl, rfl, q⟩
theorem s_gtI {i j : Int} (q : Q (.bl (decide (j < i))) H) : rGtA (.int i) (.int j) H Q := .inl ⟨i, j, rfl, rfl, q⟩
theorem s_geI {i j : Int} (q : Q (.bl (decide (j ≤ i))) H) : rGeA (.int i) (.int j) H Q := .inl ⟨i, j, rfl, rfl, q⟩
theorem s_isN (q : Q (.bl (decide (x = .non))) H) : rIsA x .non H Q := .inl ⟨rfl, q⟩
theorem s_notN (q : Q (.bl (!decide (x = .non))) H) : rNotA x .non H Q := .inl ⟨rfl, q⟩
theorem s_isB {a b : Bool} (q : Q (.bl (decide (a = b))) H) : rIsA (.bl a) (.bl b) H Q := .inr (.inl ⟨a, b, rfl, rfl, q⟩)
theorem s_notB {a b : Bool} (q : Q (.bl (!decide (a = b))) H) : rNotA (.bl a) (.bl b) H Q := .inr (.inl ⟨a, b, rfl, rfl, q⟩)
theorem s_in1 {c : Nat} {z : Str} (q : Q (.bl (decide (c ∈ z.cps.toList))) H) : rInA K (.str ⟨#[c]⟩) (.str z) H Q := .inl ⟨c, z, rfl, rfl, q⟩
theorem s_nin1 {c : Nat} {z : Str} (q : Q (.bl (!decide (c ∈ z.cps.toList))) H) : rNinA K (.str ⟨#[c]⟩) (.str z) H Q := .inl ⟨c, z, rfl, rfl, q⟩
theorem s_ixL {p : Addr} {xs : List V} {i : Int} (h : H p = some (.lst xs)) (ha : atI xs i = some v) (q : Q v H) : rIx K (.ref p) (.int i) H Q := .inl ⟨p, xs, i, v, rfl, rfl, SqL.of h, ha, q⟩
theorem s_ixLK {p : Addr} {xs : List V} {i : Int} (h : SqL K H p xs) (ha : atI xs i = some v) (q : Q v H) : rIx K (.ref p) (.int i) H Q := .inl ⟨p, xs, i, v, rfl, rfl, h, ha, q⟩
theorem s_ixT {p : Addr} {xs : List V} {i : Int} (h : H p = some (.tup xs)) (ha : atI xs i = some v) (q : Q v H) : rIx K (.ref p) (.int i) H Q := .inr (.inl ⟨p, xs, i, v, rfl, rfl, SqT.of h, ha, q⟩)
theorem s_ixS {z : Str} {i : Int} {c : Nat} (h : z.length ≤ sizeLine) (ha : atI z.cps.toList i = some c) (q : Q (.str ⟨#[c]⟩) H) : rIx K (.str z) (.int i) H Q := .inr (.inr ⟨z, i, c, rfl, rfl, h, ha, q⟩)
theorem s_slS {z : Str} {lo hi : Option Int} (h : z.length ≤ sizeLine) (q : Q (.str (cutS z lo hi)) H) : rSlA K (.str z) lo hi H Q := .inl ⟨z, rfl, h, q⟩
theorem s_lenS {z : Str} (h : z.length ≤ sizeLine) (q : Q (.int z.length) H) : rLenA K [.str z] H Q := .inl ⟨_, _, rfl, ⟨h, rfl⟩, q⟩
theorem s_lenL {p : Addr} {xs : List V} (h : H p = some (.lst xs)) (q : Q (.int xs.length) H) : rLenA K [.ref p] H Q := .inl ⟨_, _, rfl, .inl ⟨xs, SqL.of h, rfl⟩, q⟩
theorem s_lenLK {p : Addr} {xs : List V} (h : SqL K H p xs) (q : Q (.int xs.length) H) : rLenA K [.ref p] H Q := .inl ⟨_, _, rfl, .inl ⟨xs, h, rfl⟩, q⟩
theorem s_lenT {p : Addr} {xs : List V} (h : H p = some (.tup xs)) (q : Q (.int xs.length) H) : rLenA K [.ref p] H Q := .inl ⟨_, _, rfl, .inr ⟨xs, SqT.of h, rfl⟩, q⟩
theorem s_max2 {i j : Int} (q : Q (.int (if j > i then j else i)) H) : rMaxA K [.int i, .int j] H Q := .inl ⟨i, j, rfl, q⟩
theorem s_min2 {i j : Int} (q : Q (.int (if j < i then j else i)) H) : rMinA K [.int i, .int j] H Q := .inl ⟨i, j, rfl, q⟩
/-! statements -/
section
variable {D : Ends} {t u : TS} {c : TT} {g : TG}
theorem s_seq (h : t { D with nx := u D } σ H) : tSeq t u D σ H := h
theorem s_cut (Mid : L2.St → Hp → Prop) (h : t { D with nx := Mid } σ H) (k : ∀ σ' H', Mid σ' H' → u D σ' H') : tCut t u D σ H := ⟨Mid, h, k⟩
theorem s_ifS (h : c σ H fun b H1 => if b = true then t D σ H1 else u D σ H1) : tIfS c t u D σ H := h
theorem s_ret (h : ta σ H D.rt) : tRet ta D σ H := h
theorem s_retN (h : D.rt .non H) : tRetN D σ H := h
theorem s_next (h : D.nx σ H) : tNext D σ H := h
theorem s_drop (h : ta σ H fun _ H1 => D.nx σ H1) : tDrop ta D σ H := h
theorem s_asg (h : ta σ H fun x H1 => g x σ H1 D.nx) : tAsg ta g D σ H := h
theorem s_gTup {n : Nat} {gs : TGs} {a : Addr} {xs : List V} {R : L2.St → Hp → Prop} (h : H a = some (.tup xs)) (hn : xs.length = n) (q : gs xs σ H R) : gTup K n gs (.ref a) σ H R := ⟨a, xs, rfl, SqT.of h, hn, q⟩
theorem s_gCons {gs : TGs} {vs : List V} {R : L2.St → Hp → Prop} (q : g v σ H fun σ' H' => gs vs σ' H' R) : gCons g gs (v :: vs) σ H R := ⟨v, vs, rfl, q⟩
theorem s_gNil {R : L2.St → Hp → Prop} (q : R σ H) : gNil [] σ H R := ⟨rfl, q⟩
theorem s_gSub {to ti : TE} {st : TSet} {R : L2.St → Hp → Prop} (q : to σ H fun o H1 => ti σ H1 fun i H2 => st o i v H2 fun H3 => R σ H3) : gSub to ti st v σ H R := q
theorem s_setL {p : Addr} {k : Int} {xs : List V} {j : Nat} {R : Hp → Prop} (h : H p = some (.lst xs)) (hj : ixN xs.length k = some j) (q : R (upd H p (.lst (xs.set j v)))) : rSetL (.ref p) (.int k) v H R := ⟨p, xs, k, j, rfl, rfl, h, hj, q⟩
theorem s_gName {i : Nat} {R : L2.St → Hp → Prop} (h : R (σ.set i (some v)) H) : gName i v σ H R := h
end
end
/-- an item of a menu by a draw -/
theorem at_mem {α : Type} {xs : List α} {d : Int} (h0 : 0 ≤ d) (h1 : d < (xs.length : Int)) : ∃ v, v ∈ xs ∧ atI xs d = some v := by
  have hj : d.toNat < xs.length := by omega
  refine ⟨xs[d.toNat], List.getElem_mem hj, ?_⟩
  have e : ∀ (z : Int) (j : Nat) (v : α), z = (j : Int) → xs[j]? = some v → atI xs z = some v := fun z j v e h => by
    rw [e]
    exact atI_nat h
  exact e d d.toNat _ (by omega) (by simp [hj])
theorem s_menuL {K : PySem.W.Frag} {H : Hp} {Q : VK} {p : Addr} {xs : List V} {i : Int} (h : H p = some (.lst xs)) (h0 : 0 ≤ i) (h1 : i < (xs.length : Int)) (q : ∀ v, v ∈ xs → Q v H) : rIx K (.ref p) (.int i) H Q := by
  obtain ⟨v, hv, e⟩ := at_mem h0 h1
  exact s_ixL h e (q v hv)
theorem s_menuS {K : PySem.W.Frag} {H : Hp} {Q : VK} {z : Str} {i : Int} (h : z.length ≤ sizeLine) (h0 : 0 ≤ i) (h1 : i < (z.cps.toList.length : Int)) (q : ∀ c, c ∈ z.cps.toList → Q (.str ⟨#[c]⟩) H) : rIx K (.str z) (.int i) H Q := by
  obtain ⟨v, hv, e⟩ := at_mem h0 h1
  exact s_ixS h e (q v hv)
end Z

/-! ### facts of one's own in the hook -/
namespace Z
open PySem PySem.Spec PyProof.Rows L2
def eqB {α : Type} [DecidableEq α] (a b : α) : Bool := decide (a = b)
theorem eqB_ok {α : Type} [DecidableEq α] {a b : α} (h : eqB a b = true) : a = b := of_decide_eq_true h
/-- a class over ValueError, by whatever classes of the module -/
def clsB (K : PySem.W.Frag) (C : Addr) : Bool := match K.lookup C with
  | some ⟨.type "type", _, .cls cd, sl⟩ => (match cd.mro, sl.toList with
    | .ref C' :: bm, [_, _, _, _, some (.builtin n), _] => C' == C && (n == "ValueError.__new__" && (!cd.hasDel && (cd.hasDict && PySem.HandSPX.refsVE bm)))
    | _, _ => false)
  | _ => false
theorem clsB_ok {K : PySem.W.Frag} {C : Addr} (q : clsB K C = true) : ∃ nm q N bs bm sn sub ab col dd k0 k1 k2 k3 k5, K.lookup C = some (excClassObj nm q C N bs bm true sn sub ab col dd k0 k1 k2 k3 k5 "ValueError.__new__") ∧ PySem.HandSPX.refsVE bm = true := by
  unfold clsB at q
  split at q
  · rename_i dd cd sl ho
    split at q
    · rename_i C' bm k0 k1 k2 k3 n k5 hm hs
      simp only [Bool.and_eq_true, beq_iff_eq, Bool.not_eq_true'] at q
      obtain ⟨rfl, rfl, hdel, hdict, ht⟩ := q
      obtain ⟨nm, bs, mro, ns, qn, hd, sn, sub, ab, col, del⟩ := cd
      dsimp only at hm hdel hdict
      subst hm hdel hdict
      have hsl : sl = #[k0, k1, k2, k3, some (.builtin "ValueError.__new__"), k5] := by
        obtain ⟨l⟩ := sl
        simp only at hs
        rw [hs]
      subst hsl
      exact ⟨nm, qn, ns, bs, bm, sn, sub, ab, col, dd, k0, k1, k2, k3, k5, ho, ht⟩
    · cases q
  · cases q
abbrev FnS : Type := Option (Str × Str × Arguments × FuncBody × Scope × Addr × List Str × Addr)
/-- a function that closes over cells: the cells' names -/
def fnS (K : PySem.W.Frag) (p : Str × Option Str) : FnS := match K.lookup (He.fAd K p) with
  | some ⟨_, _, .func fd, _⟩ => some (fd.name, fd.qualname, fd.params, fd.body, fd.scope, fd.globals, fd.closure.map (·.1), fd.builtins)
  | _ => none
def initC (P0 : Program) (K : PySem.W.Frag) (C fI : Addr) : Bool := match K.lookup fI with
  | some ⟨_, _, .func fd, _⟩ => (match fd.code, fd.closure, fd.defaults, fd.kwdefaults with
    | .ref cda, [(_, cc)], .none, .none => PySem.W.codeIn K (.ref cda) fd.qualname && ((match K.lookup cc with
      | some ⟨_, _, .cell (some (.ref D)), _⟩ => D == C
      | _ => false) && (match K.lookup cda with
      | some ⟨_, _, .fields vs, _⟩ => (match (vs : Array Value)[2]? with
        | some (Value.str file _) => (P0.main.file : Str) == file
        | _ => false)
      | _ => false))
    | _, _, _, _ => false)
  | _ => false
def initB (P0 : Program) (K : PySem.W.Frag) (x : Str) : Bool :=
  eqB (PySem.W.findIn K (.ref (He.ga K x)) "__init__") (some (some (.ref (He.ma K (He.ga K x) "__init__")))) && (eqB (PySem.W.typeIn K (.ref (He.ma K (He.ga K x) "__init__"))) (some (.type "function")) &&
  ((PySem.W.keepIn K (.ref (He.ga K x)) && (eqB (PySem.W.subIn K (.ref (He.ga K x)) (.type "BaseException")) (some true) && (eqB (PySem.W.subIn K (.ref (He.ga K x)) (.type "ValueError")) (some true) && (eqB (PySem.W.typeIn K (.ref (He.ga K x))) (some (.type "type")) &&
    (eqB (PySem.W.mroIn K (He.ga K x) (.ref (He.ga K x))) (some true) && (eqB (PySem.W.nsIn K cStatics "thirdparty.any") (some none) && eqB (PySem.W.ks_superIn K (He.ga K x) (He.ga K x) "__init__") (some (some (.builtin "ValueError.__init__"))))))))) && initC P0 K (He.ga K x) (He.ma K (He.ga K x) "__init__")))
theorem initB_ok {P0 : Program} {K : PySem.W.Frag} {x : Str} (c : initB P0 K x = true) :
    PySem.W.findIn K (.ref (He.ga K x)) "__init__" = some (some (.ref (He.ma K (He.ga K x) "__init__"))) ∧ PySem.W.typeIn K (.ref (He.ma K (He.ga K x) "__init__")) = some (.type "function") ∧ True ∧ True ∧ True ∧
    (PySem.W.keepIn K (.ref (He.ga K x)) = true ∧ PySem.W.subIn K (.ref (He.ga K x)) (.type "BaseException") = some true ∧ PySem.W.subIn K (.ref (He.ga K x)) (.type "ValueError") = some true ∧ PySem.W.typeIn K (.ref (He.ga K x)) = some (.type "type") ∧
      PySem.W.mroIn K (He.ga K x) (.ref (He.ga K x)) = some true ∧ PySem.W.nsIn K cStatics "thirdparty.any" = some none ∧ PySem.W.ks_superIn K (He.ga K x) (He.ga K x) "__init__" = some (some (.builtin "ValueError.__init__"))) ∧
    ∀ (nm qu : Str) (ps : Arguments) (body : List Stmt) (sc : Scope), fnS K (x, some "__init__") = some (nm, qu, ps, FuncBody.stmts body, sc, mainGlobals, [("__class__" : Str)], builtinsNs) →
      ∃ oc od osl doc pm an cda ct cc, K.lookup (He.ma K (He.ga K x) "__init__") = some ⟨oc, od, .func (PySem.W.ksFn nm qu ps body sc .none .none doc pm an (.ref cda) ct cc), osl⟩ ∧ PySem.W.codeIn K (.ref cda) qu = true ∧
        (∃ cl cld csl, K.lookup cc = some ⟨cl, cld, .cell (some (.ref (He.ga K x))), csl⟩) ∧ (∃ ccl cdd vs ccs file tf, K.lookup cda = some ⟨ccl, cdd, .fields vs, ccs⟩ ∧ vs[2]? = some (.str file tf) ∧ ((P0.main.file : Str) == file) = true) := by
  obtain ⟨c1, c⟩ := He.ba c
  obtain ⟨c2, c⟩ := He.ba c
  obtain ⟨c3, c4⟩ := He.ba c
  obtain ⟨k1, c3⟩ := He.ba c3
  obtain ⟨k2, c3⟩ := He.ba c3
  obtain ⟨k3, c3⟩ := He.ba c3
  obtain ⟨k4, c3⟩ := He.ba c3
  obtain ⟨k5, c3⟩ := He.ba c3
  obtain ⟨k6, k7⟩ := He.ba c3
  refine ⟨eqB_ok c1, eqB_ok c2, trivial, trivial, trivial, ⟨k1, eqB_ok k2, eqB_ok k3, eqB_ok k4, eqB_ok k5, eqB_ok k6, eqB_ok k7⟩, fun nm qu ps body sc e => ?_⟩
  unfold initC at c4
  unfold fnS He.fAd at e
  dsimp only at e
  cases q : K.lookup (He.ma K (He.ga K x) "__init__") with
  | none =>
    rw [q] at c4
    cases c4
  | some o =>
    obtain ⟨oc, od, dt, osl⟩ := o
    rw [q] at c4 e
    cases dt with
    | func fd =>
      obtain ⟨n1, n2, n3, n4, n5, n6, n7, n8, n9, n10, n11, n12, n13, n14, n15⟩ := fd
      have e2 : (some (n1, n2, n3, n4, n5, n6, n7.map (·.1), n15) : FnS) = some (nm, qu, ps, FuncBody.stmts body, sc, mainGlobals, [("__class__" : Str)], builtinsNs) := e
      simp only [Option.some.injEq, Prod.mk.injEq] at e2
      obtain ⟨h1, h2, h3, h4, h5, h6, h7, h8⟩ := e2
      subst h1 h2 h3 h4 h5 h6 h8
      dsimp only at c4
      split at c4
      · rename_i cda cn cc
        obtain ⟨m1, c4⟩ := He.ba c4
        obtain ⟨m2, m3⟩ := He.ba c4
        have hcn : cn = "__class__" := by simpa using h7
        subst hcn
        refine ⟨oc, od, osl, n10, n11, n12, cda, n14, cc, rfl, m1, ?_, ?_⟩
        · split at m2
          · rename_i cl cld D csl hc
            have hD : D = He.ga K x := by simpa using m2
            rw [hD] at hc
            exact ⟨_, _, _, hc⟩
          · cases m2
        · split at m3
          · rename_i ccl cdd vs ccs hc
            split at m3
            · rename_i file tf hv
              exact ⟨_, _, _, _, _, _, hc, hv, m3⟩
            · cases m3
          · cases m3
      · cases c4
    | _ => cases c4
/-! ### the hook -/
abbrev AlX : Type := Bool × (List He.FnW × List FnS)
/-- fs: functions that close over cells, with what they must be; cu: facts of one's own -/
def obsX (fa : List He.Fa) (fn : List He.DefD) (fs : List ((Str × Option Str) × FnS)) (cu : List (PySem.W.Frag → Bool)) (K : PySem.W.Frag) : AlX :=
  ((fa.all fun f => f.ok K) && ((fn.all fun d => d.ok K) && cu.all fun c => c K), (fn.map fun d => He.fnW K d.at_, fs.map fun f => fnS K f.1))
def valX (fn : List He.DefD) (fs : List ((Str × Option Str) × FnS)) : AlX := (true, (fn.map He.DefD.val, fs.map (·.2)))
def SaysX (fa : List He.Fa) (fn : List He.DefD) (fs : List ((Str × Option Str) × FnS)) (cu : List (PySem.W.Frag → Bool)) (K : PySem.W.Frag) : Prop := obsX fa fn fs cu K = valX fn fs
def obsXG (n : Nat) (fa : List He.Fa) (fn : List He.DefD) (fs : List ((Str × Option Str) × FnS)) (cu : List (PySem.W.Frag → Bool)) (g : Addr → Option Obj) : AlX := obsX fa fn fs cu (He.frG g (cStatics :: He.asD g n))
def hookX (n : Nat) (fa : List He.Fa) (fn : List He.DefD) (fs : List ((Str × Option Str) × FnS)) (cu : List (PySem.W.Frag → Bool)) : PySem.W.Hook where
  α := AlX
  obs := fun s => obsXG n fa fn fs cu s.heap.get?
  val := fun _ => valX fn fs
  says := fun _ h => ∃ K : PySem.W.Frag, K.In h ∧ SaysX fa fn fs cu K
  of := fun _ _ e => ⟨_, He.frG_in, e⟩
  keeps := fun _ _ _ ⟨K, hK, c⟩ k => ⟨K, PySem.W.Frag.In.keeps hK k, c⟩
theorem obsXG_eq {n : Nat} {fa : List He.Fa} {fn : List He.DefD} {fs : List ((Str × Option Str) × FnS)} {cu : List (PySem.W.Frag → Bool)} {g : Addr → Option Obj} {s : Shared} (h : ∀ a, g a = s.heap.get? a) : obsXG n fa fn fs cu g = (hookX n fa fn fs cu).obs s := by
  have e : g = s.heap.get? := funext h
  rw [e] <;> rfl
section
variable {fa : List He.Fa} {fn : List He.DefD} {fs : List ((Str × Option Str) × FnS)} {cu : List (PySem.W.Frag → Bool)} {K : PySem.W.Frag}
theorem SaysX.all (c : SaysX fa fn fs cu K) : (fa.all fun f => f.ok K) = true ∧ (fn.all fun d => d.ok K) = true ∧ (cu.all fun c => c K) = true := by
  have c1 : ((fa.all fun f => f.ok K) && ((fn.all fun d => d.ok K) && cu.all fun c => c K)) = true := congrArg (fun z : AlX => z.1) c
  obtain ⟨a, b⟩ := He.ba c1
  obtain ⟨b, d⟩ := He.ba b
  exact ⟨a, b, d⟩
theorem SaysX.fact (c : SaysX fa fn fs cu K) (i : Nat) {f : He.Fa} (h : fa[i]? = some f := by rfl) : f.ok K = true := List.all_eq_true.mp c.all.1 f (List.mem_of_getElem? h)
theorem SaysX.own (c : SaysX fa fn fs cu K) (i : Nat) {f : PySem.W.Frag → Bool} (h : cu[i]? = some f := by rfl) : f K = true := List.all_eq_true.mp c.all.2.2 f (List.mem_of_getElem? h)
theorem SaysX.init (c : SaysX fa fn fs cu K) (i : Nat) {f : (Str × Option Str) × FnS} (h : fs[i]? = some f := by rfl) : fnS K f.1 = f.2 := by
  have e : fs.map (fun f => fnS K f.1) = fs.map (·.2) := congrArg (fun z : AlX => z.2.2) c
  have e2 : (fs.map fun f => fnS K f.1)[i]? = (fs.map (·.2))[i]? := by rw [e]
  rw [List.getElem?_map, List.getElem?_map, h] at e2
  exact Option.some.inj e2
theorem SaysX.def_ (c : SaysX fa fn fs cu K) (i : Nat) {d : He.DefD} (h : fn[i]? = some d := by rfl) : ∃ fd, FunD K d.name d.qual d.params d.body d.scope (d.dvs K) (d.kws K) (He.fAd K d.at_) fd := by
  have e : fn.map (fun d => He.fnW K d.at_) = fn.map He.DefD.val := congrArg (fun z : AlX => z.2.1) c
  have e2 : (fn.map fun d => He.fnW K d.at_)[i]? = (fn.map He.DefD.val)[i]? := by rw [e]
  rw [List.getElem?_map, List.getElem?_map, h] at e2
  exact He.DefD.funD (Option.some.inj e2) (List.all_eq_true.mp c.all.2.1 d (List.mem_of_getElem? h))
end
end Z

/-! ### try with clauses of both kinds: except X, except X as n -/
namespace Z
open PySem PySem.Spec PyProof.Rows L2 Evl
/-- behind «except .. as n»: slot i, n's, is empty -/
def unb (i : Option Nat) (D : Ends) : Ends := match i with
  | none => D
  | some i => { nx := fun σ' H' => D.nx (σ'.set i none) H', rt := D.rt, bk := fun σ' H' => D.bk (σ'.set i none) H', ct := fun σ' H' => D.ct (σ'.set i none) H' }
def bnd (i : Option Nat) (a : Addr) (σ : L2.St) : L2.St := match i with
  | none => σ
  | some i => σ.set i (some (.ref a))
abbrev Hd : Type := Value × Option Nat × (Addr → Value → Option Addr → TS)
/-- what the clauses wish of an exception of the body, one after the other -/
def wMix (K : PySem.W.Frag) (Wout : WX) (D : Ends) : List Hd → WX
  | [] => Wout
  | (c, i, ts) :: r => fun cls d σ H => ∃ b, PySem.W.exmOne K cls c = some b ∧ (b = true → ∀ a, H a = none → ts a cls d (unb i D) (bnd i a σ) H) ∧ (b = false → wMix K Wout D r cls d σ H)
inductive HdZ (X : Cx) : List ExceptHandler → List Hd → Prop
  | nil : HdZ X [] []
  | only {x : Str} {c : Value} {ts : Addr → Value → Option Addr → TS} {b₀ : Stmt} {suite : List Stmt} {np pos' : Pos} {hds : List ExceptHandler} {l : List Hd} (hc : Names X x c)
      (hsu : ∀ (a : Addr) (oe : Obj) (cls : Value) (d : Option Addr) (pn : List (Addr × Obj)), Zc cls d oe → (∃ vs, oe.data = .fields vs) → PSs (X.suite a ((a, oe) :: pn)) (b₀ :: suite) (ts a cls d)) (r : HdZ X hds l) :
      HdZ X (.ExceptHandler (some (.Name x np)) none (b₀ :: suite) pos' :: hds) ((c, none, ts) :: l)
  | as_ {x n : Str} {i : Nat} {c : Value} {ts : Addr → Value → Option Addr → TS} {b₀ : Stmt} {suite : List Stmt} {np pos' : Pos} {hds : List ExceptHandler} {l : List Hd} (hN : X.N.Nodup) (hi : X.N[i]? = some n) (hln : X.env.kindOf n = some .local) (hc : Names X x c)
      (hsu : ∀ (a : Addr) (oe : Obj) (cls : Value) (d : Option Addr) (pn : List (Addr × Obj)), Zc cls d oe → (∃ vs, oe.data = .fields vs) → PSs (X.suite a ((a, oe) :: pn)) (b₀ :: suite) (ts a cls d)) (r : HdZ X hds l) :
      HdZ X (.ExceptHandler (some (.Name x np)) (some n) (b₀ :: suite) pos' :: hds) ((c, some i, ts) :: l)
section
variable {prog : Program} {w : World} {A : Around} {E : Value → Shared → Prop} {s : Shared} {K : PySem.W.Frag} {B : Heap} {env : Env} {outer : List Env} {L a : Addr} {cls c : Value} {d : Option Addr} {t : Expr} {n : Str} {b₀ : Stmt} {suite : List Stmt} {pos : Pos} {rest : List ExceptHandler} {Q : Flow → Shared → Prop}
theorem cl_as (X : K.In s.heap) (fl : HandSPX.FlyingZ B (env :: outer) a (Zc cls d) s.heap) (hm : PySem.W.exmOne K cls c = some true)
    (test : ∀ {Q' : Value → Shared → Prop} {E' : Value → Shared → Prop}, Q' c s → wpAny (model prog w) (A.mark (some (.ref a))) (eval t env) Q' E' s)
    (k : ∀ h', HandSPX.FlyingZ B (env :: outer) a (Zc cls d) h' → s.heap.UpToSlots h' → wpAny (model prog w) (A.mark (some (.ref a))) (storeName env n (.ref a))
      (fun _ s₂ => wpAny (model prog w) (A.mark (some (.ref a))) (execs (b₀ :: suite) env) (fun f s₃ => wpAny (model prog w) A (do bindName env n .none; unbindBehindTheSuite env n pos) (fun _ s₄ => Q f s₄) E s₃) (fun _ _ => False) s₂) (fun _ _ => False) { s with heap := h' }) :
    wpAny (model prog w) A (handleBy (.ref a) env (.ExceptHandler (some t) (some n) (b₀ :: suite) pos :: rest)) Q E s := by
  obtain ⟨oe, vs, he, hz, _⟩ := fl.there
  refine wpAny_handleBy_cons (codeAny_handlers_test ?_) (by intro q; cases q)
  have LT : PySem.W.Looks (model prog w) s.heap (typeOf (.ref a)) cls := fun A Q E s k q => wpAny_typeOf_ref (k _ _ he) (by rw [hz.1]; exact q)
  refine test ((PySem.W.exm_one (M := model prog w) X LT hm).here ?_)
  refine codeAny_handlers_suite_as (HandSPX.lands_againZ fl fun h4 fl4 up4 => ?_)
  exact wpAny_mono (k h4 fl4 up4) (fun _ s₂ h₂ => wpAny_mono h₂ (fun f s₃ h₃ => h₃) fun _ _ z => z.elim) fun _ _ z => z.elim
theorem cl_only (X : K.In s.heap) (fl : HandSPX.FlyingZ B (env :: outer) a (Zc cls d) s.heap) (hm : PySem.W.exmOne K cls c = some true)
    (test : ∀ {Q' : Value → Shared → Prop} {E' : Value → Shared → Prop}, Q' c s → wpAny (model prog w) (A.mark (some (.ref a))) (eval t env) Q' E' s)
    (k : ∀ h', HandSPX.FlyingZ B (env :: outer) a (Zc cls d) h' → s.heap.UpToSlots h' → wpAny (model prog w) (A.mark (some (.ref a))) (execs (b₀ :: suite) env) Q (fun _ _ => False) { s with heap := h' }) :
    wpAny (model prog w) A (handleBy (.ref a) env (.ExceptHandler (some t) none (b₀ :: suite) pos :: rest)) Q E s := by
  obtain ⟨oe, vs, he, hz, _⟩ := fl.there
  refine wpAny_handleBy_cons (codeAny_handlers_test ?_) (by intro q; cases q)
  have LT : PySem.W.Looks (model prog w) s.heap (typeOf (.ref a)) cls := fun A Q E s k q => wpAny_typeOf_ref (k _ _ he) (by rw [hz.1]; exact q)
  refine test ((PySem.W.exm_one (M := model prog w) X LT hm).here ?_)
  refine codeAny_handlers_suite (HandSPX.lands_againZ fl fun h4 fl4 up4 => ?_)
  exact wpAny_mono (k h4 fl4 up4) (fun f s₂ h₂ => h₂) fun _ _ z => z.elim
theorem cl_pass {nm : Option Str} {body : List Stmt} (X : K.In s.heap) (fl : HandSPX.FlyingZ B (env :: outer) a (Zc cls d) s.heap) (hm : PySem.W.exmOne K cls c = some false)
    (test : ∀ {Q' : Value → Shared → Prop} {E' : Value → Shared → Prop}, Q' c s → wpAny (model prog w) (A.mark (some (.ref a))) (eval t env) Q' E' s)
    (k : wpAny (model prog w) A (handleBy (.ref a) env rest) Q E s) :
    wpAny (model prog w) A (handleBy (.ref a) env (.ExceptHandler (some t) nm body pos :: rest)) Q E s := by
  obtain ⟨oe, vs, he, hz, _⟩ := fl.there
  refine wpAny_handleBy_cons (codeAny_handlers_test ?_) (by intro q; cases q)
  have LT : PySem.W.Looks (model prog w) s.heap (typeOf (.ref a)) cls := fun A Q E s k q => wpAny_typeOf_ref (k _ _ he) (by rw [hz.1]; exact q)
  exact test ((PySem.W.exm_one (M := model prog w) X LT hm).here k)
theorem cl_none (hf : env.frame = some L) (fl : HandSPX.FlyingZ B (env :: outer) a (Zc cls d) s.heap) (k : ∀ h', HandSPX.HeldZ B (env :: outer) a (Zc cls d) L h' → s.heap.UpToSlots h' → E (.ref a) { s with heap := h' }) :
    wpAny (model prog w) A (handleBy (.ref a) env []) Q E s := by
  refine wpAny_handleBy_nil ?_
  obtain ⟨k1, k2, k3, oe, vs, T, oT, ts', he, hz, hd, h1, hr⟩ := id fl
  unfold PySem.passOn
  refine wpAny_bind (wpAny_field he hd h1 ?_)
  rw [if_neg (show ¬ ((Value.ref T == Value.none) = true) from by simp)]
  have fin : wpAny (model prog w) A (setFlight (.ref a) env.frame) (fun _ s4 => wpAny (model prog w) A (throw (.ref a) : Sem Flow) Q E s4) E s := by
    rw [hf]
    exact HandSPX.setFlight_upZ fl fun h4 hh4 up4 => wpAny_throw (k h4 hh4 up4)
  first
    | exact wpAny_bind (wpAny_pure (wpAny_bind fin))
    | exact wpAny_bind fin
end
section
variable {X : Cx} {body : List Stmt} {h₀ : ExceptHandler} {hds : List ExceptHandler} {l : List Hd} {pos : Pos} {tb : WX → TS} {Wout : WX}
theorem ps_try_mix (hs : X.stack = X.env :: X.outer) (hf : X.env.frame = some X.env.locals) (tk : Takes X Wout)
    (hb : ∀ (W : WX) (pn : List (Addr × Obj)) (xe : Value → Shared → Prop), Takes (X.tr pn xe) W → PassesOwn (model X.prog X.w) X.A X.env xe → PSs (X.tr pn xe) body (tb W))
    (hh : HdZ X (h₀ :: hds) l) : PS X (.Try body (h₀ :: hds) [] [] pos) (fun D σ H => tb (wMix X.K Wout D l) D σ H) := by
  refine ⟨fun pins s σ H D I h => ?_⟩
  have ok := I.ok
  have hfr : X.A.frames = some (X.env :: X.outer) := by rw [ok.frames, hs]
  refine wpAny_Try_except ?_
  refine wpAny_mono ((hb (wMix X.K Wout D l) (X.pn ++ pins) (fun e s₁ => wpAny (model X.prog X.w) X.A (noteFrame e X.env) (fun _ s₂ => wpAny (model X.prog X.w) X.A (setFlight e none) (fun _ s₃ =>
    wpAny (model X.prog X.w) X.A (handleBy e X.env (h₀ :: hds)) (SP X pins D) X.xe s₃) X.xe s₂) X.xe s₁) (fun u s' xx => ?_) PassesOwn.looking).run [] s σ H D (I.toTry _) h) (fun f s1 hsp => ?_) (fun e s1 he => he)
  · obtain ⟨a, B, sI, pins', σ', H', cls, d, rfl, J', nb, up, sky, na, os, ag, w⟩ := xx
    have J : Inv X pins σ' H' sI := J'.ofTry ok
    have sky' : Sky B (X.env :: X.outer) a (Zc cls d) X.env.locals s'.heap := by rw [← hs]; exact sky
    show wpAny (model X.prog X.w) X.A (noteFrame (.ref a) X.env) _ _ _
    refine Sky.land Zc.steady hfr hf sky' fun h3 fl3 up3 => ?_
    -- through the clauses, whatever the heap's traceback marks
    have go : ∀ {hds' : List ExceptHandler} {l' : List Hd}, HdZ X hds' l' → ∀ h3 : Heap, HandSPX.FlyingZ B (X.env :: X.outer) a (Zc cls d) h3 → sI.heap.UpToSlots h3 ∨ True → (∀ {h4 : Heap}, HandSPX.FlyingZ B (X.env :: X.outer) a (Zc cls d) h4 → h3.UpToSlots h4 → Inv X pins σ' H' { s' with heap := h4 }) → Inv X pins σ' H' { s' with heap := h3 } →
        (∀ {h4 : Heap}, HandSPX.HeldZ B (X.env :: X.outer) a (Zc cls d) X.env.locals h4 → h3.UpToSlots h4 → ∀ W : WX, Takes X W → W cls d σ' H' → X.xe (.ref a) { s' with heap := h4 }) → wMix X.K Wout D l' cls d σ' H' →
        wpAny (model X.prog X.w) X.A (handleBy (.ref a) X.env hds') (SP X pins D) X.xe { s' with heap := h3 } := by
      intro hds' l' hk
      induction hk with
      | nil =>
        intro h3 fl3 _ _ _ out w
        exact cl_none hf fl3 fun h4 hh4 up4 => out hh4 up4 _ tk w
      | @only x c ts b₀ suite np pos' hds2 l2 hc hsu r ih =>
        intro h3 fl3 u0 inv J3 out w
        obtain ⟨oe3, vs3, he3, hz3, hd3⟩ := fl3.there
        have nfr : a ∉ frs (X.env :: X.outer) := fun hm => by
          obtain ⟨_, o', e', hnf⟩ := fl3.2.2.1.mem hm
          rw [he3] at e'; cases e'
          exact hnf _ hd3
        have nL : a ≠ X.env.locals := fun z => nfr (List.mem_filterMap.mpr ⟨X.env, List.mem_cons_self, by rw [hf, z]⟩)
        have nF : a ∉ X.fs := fun hm => by
          obtain ⟨e, he, q⟩ := List.mem_filterMap.mp hm
          exact nfr (List.mem_filterMap.mpr ⟨e, List.mem_cons_of_mem _ he, q⟩)
        have S3 := J3.suite he3 hd3 na nL nF
        have test : ∀ {Q : Value → Shared → Prop} {E : Value → Shared → Prop}, Q c { s' with heap := h3 } → wpAny (model X.prog X.w) (X.A.mark (some (.ref a))) (eval (.Name x np) X.env) Q E { s' with heap := h3 } := fun {Q E} q => by
          obtain ⟨hg, hdbg, hm | ⟨hm, hv, hnn⟩⟩ := hc
          · exact ld_glob (X := X.suite a ((a, oe3) :: (X.pn ++ pins))) S3 hg hm q hdbg
          · exact ld_blt (X := X.suite a ((a, oe3) :: (X.pn ++ pins))) S3 hg hm hv q hnn hdbg
        obtain ⟨b, hb1, hyes, hno⟩ := w
        cases b with
        | true =>
          refine cl_only J3.kIn fl3 hb1 test fun h4 fl4 up4 => ?_
          obtain ⟨oe4, vs4, he4, hz4, hd4⟩ := fl4.there
          have S4 := (inv fl4 up4).suite he4 hd4 na nL nF
          refine wpAny_mono ((hsu a oe4 cls d (X.pn ++ pins) hz4 ⟨_, hd4⟩).run [] _ _ H' _ S4 (hyes rfl a na)) (fun f s6 hsp => ?_) (fun _ _ z => z)
          cases f with
          | ret u =>
            obtain ⟨v6, σ6, H6, S6, r6, q6⟩ := hsp
            exact ⟨_, _, _, S6.unsuite ok, r6, q6⟩
          | _ =>
            obtain ⟨σ6, H6, S6, q6⟩ := hsp
            exact ⟨_, _, S6.unsuite ok, q6⟩
        | false => exact cl_pass J3.kIn fl3 hb1 test (ih h3 fl3 u0 inv J3 out (hno rfl))
      | @as_ x n i c ts b₀ suite np pos' hds2 l2 hN hi hln hc hsu r ih =>
        intro h3 fl3 u0 inv J3 out w
        obtain ⟨oe3, vs3, he3, hz3, hd3⟩ := fl3.there
        have nfr : a ∉ frs (X.env :: X.outer) := fun hm => by
          obtain ⟨_, o', e', hnf⟩ := fl3.2.2.1.mem hm
          rw [he3] at e'; cases e'
          exact hnf _ hd3
        have nL : a ≠ X.env.locals := fun z => nfr (List.mem_filterMap.mpr ⟨X.env, List.mem_cons_self, by rw [hf, z]⟩)
        have nF : a ∉ X.fs := fun hm => by
          obtain ⟨e, he, q⟩ := List.mem_filterMap.mp hm
          exact nfr (List.mem_filterMap.mpr ⟨e, List.mem_cons_of_mem _ he, q⟩)
        have S3 := J3.suite he3 hd3 na nL nF
        have test : ∀ {Q : Value → Shared → Prop} {E : Value → Shared → Prop}, Q c { s' with heap := h3 } → wpAny (model X.prog X.w) (X.A.mark (some (.ref a))) (eval (.Name x np) X.env) Q E { s' with heap := h3 } := fun {Q E} q => by
          obtain ⟨hg, hdbg, hm | ⟨hm, hv, hnn⟩⟩ := hc
          · exact ld_glob (X := X.suite a ((a, oe3) :: (X.pn ++ pins))) S3 hg hm q hdbg
          · exact ld_blt (X := X.suite a ((a, oe3) :: (X.pn ++ pins))) S3 hg hm hv q hnn hdbg
        obtain ⟨b, hb1, hyes, hno⟩ := w
        cases b with
        | true =>
          refine cl_as J3.kIn fl3 hb1 test fun h4 fl4 up4 => ?_
          obtain ⟨oe4, vs4, he4, hz4, hd4⟩ := fl4.there
          have S4 := (inv fl4 up4).suite he4 hd4 na nL nF
          refine store_ok (X := X.suite a ((a, oe4) :: (X.pn ++ pins))) (v := .ref a) S4 hN hi (.inl hln) rfl (fun s5 S5 => ?_) (.inr hln)
          refine wpAny_mono ((hsu a oe4 cls d (X.pn ++ pins) hz4 ⟨_, hd4⟩).run [] s5 _ H' _ S5 (hyes rfl a na)) (fun f s6 hsp => ?_) (fun _ _ z => z)
          have end_ : ∀ {σ6 : L2.St} {H6 : Hp} {Q : Shared → Prop}, Inv (X.suite a ((a, oe4) :: (X.pn ++ pins))) [] σ6 H6 s6 → (∀ s7, Inv X pins (σ6.set i none) H6 s7 → Q s7) →
              wpAny (model X.prog X.w) X.A (do bindName X.env n .none; unbindBehindTheSuite X.env n pos') (fun _ s7 => Q s7) X.xe s6 := fun {σ6 H6 Q} S6 hq => gone_ok (S6.unsuite ok) hN hi hln hq
          cases f with
          | next =>
            obtain ⟨σ6, H6, S6, q6⟩ := hsp
            exact end_ S6 fun s7 J7 => ⟨_, _, J7, q6⟩
          | brk =>
            obtain ⟨σ6, H6, S6, q6⟩ := hsp
            exact end_ S6 fun s7 J7 => ⟨_, _, J7, q6⟩
          | cont =>
            obtain ⟨σ6, H6, S6, q6⟩ := hsp
            exact end_ S6 fun s7 J7 => ⟨_, _, J7, q6⟩
          | ret u =>
            obtain ⟨v6, σ6, H6, S6, r6, q6⟩ := hsp
            exact end_ S6 fun s7 J7 => ⟨_, _, _, J7, r6, q6⟩
        | false => exact cl_pass J3.kIn fl3 hb1 test (ih h3 fl3 u0 inv J3 out (hno rfl))
    refine go hh h3 fl3 (.inr trivial) (fun {h4} fl4 up4 => J.landed nb fl4.1 ((up.trans up3).trans up4) os ag) (J.landed nb fl3.1 (up.trans up3) os ag) (fun {h4} hh4 up4 W tkW w' => tkW _ _ ?_) w
    exact ⟨a, B, sI, pins, σ', H', cls, d, rfl, J, nb, (up.trans up3).trans up4, .inr (.inr (by rw [hs]; exact hh4)), na, os, ag, w'⟩
  · cases f with
    | next =>
      obtain ⟨σ', H', J', q⟩ := hsp
      exact wpAny_execs_nil ⟨σ', H', J'.ofTry ok, q⟩
    | brk =>
      obtain ⟨σ', H', J', q⟩ := hsp
      exact ⟨σ', H', J'.ofTry ok, q⟩
    | cont =>
      obtain ⟨σ', H', J', q⟩ := hsp
      exact ⟨σ', H', J'.ofTry ok, q⟩
    | ret u =>
      obtain ⟨v, σ', H', J', r, q⟩ := hsp
      exact ⟨v, σ', H', J'.ofTry ok, r, q⟩
end
/-- a call of a def that may raise, by its promise (Fok); W: what is wanted of the exception -/
theorem pe_callG {X : Cx} {W : WX} {k : Nat} {x : Str} {ps : List Str} {sp : Sp} {e : Expr} {es : List Expr} {t : TA} {p pos : Pos} (F : Fok X.prog X.w X.K X.mg X.base (L2.CX X.prog X.w) k x ps sp) (hr : Room k X.A) (hg : Gl X x) (tk : Takes X W)
    (ha : PA X (e :: es) t) (hdb : (x == ("__debug__" : Str)) = false := by decide) (he : starEach (e :: es) X.env = (false, eval e X.env) :: starEach es X.env := by rfl) (hpl : (backTo pos (starEach es X.env)).any (·.1) = false := by rfl) :
    PE X (.Call (.Name x p) (e :: es) [] pos) (tCallS sp (WE W) t) :=
  let ⟨_, h1, h2⟩ := F.ex
  pe_callS h1 hr hg F.hm F.kp h2 (fun σ => passAt tk σ) ha hdb he hpl
/-- what an exception's way out is owed: of the class x, its field f holding v, all that was there kept -/
def Rz (K : PySem.W.Frag) (x f : Str) (v : V) (H : Hp) (E : XK) : Prop := ∀ H' d, Ex H H' → H' d = some (.xd [(f, v)]) → E (.ref (He.ga K x)) (some d) H'
end Z

/-! ### calls with keywords: the values in the order that they are written (positional ones, then the keywords'), put in the parameters' order by places -/
namespace Z
open PySem PySem.Spec PyProof.Rows L2 Evl
def perm {α : Type} (p : List Nat) (l : List α) : List α := p.filterMap fun i => l[i]?
theorem perm_rel {vs : List V} {us : List Value} (r : Vals vs us) : ∀ p : List Nat, Vals (perm p vs) (perm p us)
  | [] => .nil
  | i :: p => by
    have ih := perm_rel r p
    unfold perm at ih ⊢
    rw [List.filterMap_cons, List.filterMap_cons]
    cases e : vs[i]? with
    | none =>
      have hl : us[i]? = none := by
        rw [List.getElem?_eq_none_iff] at e ⊢
        rw [← r.length]
        exact e
      rw [hl]
      exact ih
    | some v =>
      obtain ⟨u, hu, ru⟩ := Vals.get r e
      rw [hu]
      exact .cons ru ih
structure FokK (P : Program) (w : World) (K : PySem.W.Frag) (mg : Str → Option Value) (base : Heap) (CX : CXT) (k : Nat) (x : Str) (ps : List Str) (sp : Sp) (n : Nat) (ks : List Str) (p : List Nat) : Prop where
  ex : ∃ fd, FnOk P w K mg base CX k (He.ga K x) fd ps sp ∧ ∀ (s : Shared) (us ws : List Value), us.length = n → ws.length = ks.length → BindsTo s fd ⟨us, ks.zip ws⟩ (ps.zip (perm p (us ++ ws)))
  hm : mg x = some (.ref (He.ga K x))
  kp : PySem.W.keepIn K (.ref (He.ga K x)) = true
theorem kbinds {K : PySem.W.Frag} {x qual : Str} {params : Arguments} {body : List Stmt} {scope : Scope} {kws : List (Str × V)} {f : Addr} {fd : FuncData} {ps ks : List Str} {n : Nat} {p : List Nat} (F : FunD K x qual params body scope [] kws f fd)
    (h : ∀ (kV doc pm : Value) (an : Option Addr) (cdv ct : Value) (us ws : List Value), us.length = n → ws.length = ks.length → bindArgs (PySem.W.fnOf x qual params body scope .none kV doc pm an cdv ct) ⟨us, ks.zip ws⟩ = pure (ps.zip (perm p (us ++ ws)))) :
    ∀ (s : Shared) (us ws : List Value), us.length = n → ws.length = ks.length → BindsTo s fd ⟨us, ks.zip ws⟩ (ps.zip (perm p (us ++ ws))) := by
  obtain ⟨oc, od, dV, kV, doc, pm, an, cdv, ct, osl, rfl, lk, hcd, hD, hK⟩ := F.ex
  rcases hD with ⟨_, rfl⟩ | ⟨e, _⟩
  · exact fun s us ws l1 l2 => BindsTo.of_eq (h kV doc pm an cdv ct us ws l1 l2)
  · exact absurd rfl e
/-- f(e, .., k = v, ..) -/
def tCallP (p : List Nat) (n m : Nat) (sp : Sp) (E : L2.St → XK) (t tk : TA) : TE := fun σ H Q => t σ H fun vs H1 => tk σ H1 fun zs H2 => vs.length = n ∧ zs.length = m ∧ sp (perm p (vs ++ zs)) H2 Q (E σ)
section
variable {X : Cx} {CX : CXT} {k n : Nat} {ps ks : List Str} {sp : Sp} {E : L2.St → XK} {x : Str} {p pos : Pos} {e : Expr} {es : List Expr} {kws : List Keyword} {t tk : TA} {pm : List Nat}
theorem run_fnP {pins : List (Addr × Obj)} {σ : L2.St} {H : Hp} {s : Shared} {Q : VK} {us ws : List Value} {vs zs : List V} (F : FokK X.prog X.w X.K X.mg X.base CX k x ps sp n ks pm) (hr : Room k X.A) (hx : PassesAt CX X σ (E σ))
    (I : Inv X pins σ H s) (r : Vals vs us) (rz : Vals zs ws) (l1 : vs.length = n) (l2 : zs.length = ks.length) (h : sp (perm pm (vs ++ zs)) H Q (E σ)) : wpAny (model X.prog X.w) X.A (call (.ref (He.ga X.K x)) us (ks.zip ws)) (EP X pins σ Q) X.xe s := by
  obtain ⟨fd, F1, b⟩ := F.ex
  refine wpAny_call (codeAny_mono (F1.run X.A X.stack s H ⟨us, ks.zip ws⟩ (perm pm (us ++ ws)) (perm pm (vs ++ zs)) Q (E σ) hr I.env0 (b s us ws (r.length.symm.trans l1) (rz.length.symm.trans l2)) (perm_rel (r.append rz) pm) h) fun r s' hq => ?_)
  cases r with
  | error e => exact hx pins H s e s' I hq
  | ok fl =>
    cases fl with
    | ret u => exact I.after hq
    | next => exact False.elim hq
    | brk => exact False.elim hq
    | cont => exact False.elim hq
theorem pe_callP (F : FokK X.prog X.w X.K X.mg X.base CX k x ps sp n ks pm) (hr : Room k X.A) (hg : Gl X x) (hx : ∀ σ, PassesAt CX X σ (E σ))
    (ha : PA X (e :: es) t) (hkw : PK X kws tk) (hall : (backToKw pos (keywordEach kws X.env)).all (·.1.isSome) = true := by rfl) (hks : (backToKw pos (keywordEach kws X.env)).filterMap (·.1) = ks := by rfl)
    (hdb : (x == ("__debug__" : Str)) = false := by decide) (he : starEach (e :: es) X.env = (false, eval e X.env) :: starEach es X.env := by rfl)
    (hpl : ((backTo pos (starEach (e :: es) X.env)).any (·.1) || (backToKw pos (keywordEach kws X.env)).any (·.1.isNone)) = false := by rfl) {m : Nat} (hm : ks.length = m := by rfl) :
    PE X (.Call (.Name x p) (e :: es) kws pos) (tCallP pm n m sp E t tk) := by
  subst hm
  refine ⟨fun pins s σ H Q I h => ?_⟩
  refine wpAny_Call_Name_kw (ld_glob I hg F.hm ?_ hdb)
  refine PySem.W.callWith_KW (h₀ := X.base) I.ok.mod.kin F.kp hall (thn (ha.run pos pins s σ H _ I h) fun us s1 ⟨vs, H1, I1, r, q⟩ => ?_) hpl he
  refine thn (hkw.run pos pins s1 σ H1 _ I1 q) fun ws s2 ⟨zs, H2, I2, rz, l1, l2, q2⟩ => ⟨I2.kIn, ?_⟩
  rw [hks]
  exact run_fnP F hr (hx σ) I2 r rz l1 l2 q2
/-- f(k = v, ..) -/
theorem pe_callP0 (F : FokK X.prog X.w X.K X.mg X.base CX k x ps sp 0 ks pm) (hr : Room k X.A) (hg : Gl X x) (hx : ∀ σ, PassesAt CX X σ (E σ))
    (hkw : PK X kws tk) (hall : (backToKw pos (keywordEach kws X.env)).all (·.1.isSome) = true := by rfl) (hks : (backToKw pos (keywordEach kws X.env)).filterMap (·.1) = ks := by rfl)
    (hdb : (x == ("__debug__" : Str)) = false := by decide)
    (hpl : ((backTo pos (starEach [] X.env)).any (·.1) || (backToKw pos (keywordEach kws X.env)).any (·.1.isNone)) = false := by rfl) {m : Nat} (hm : ks.length = m := by rfl) :
    PE X (.Call (.Name x p) [] kws pos) (tCallP pm 0 m sp E tNil tk) := by
  subst hm
  refine ⟨fun pins s σ H Q I h => ?_⟩
  refine wpAny_Call_Name_kw (ld_glob I hg F.hm ?_ hdb)
  refine PySem.W.callWith_KW0 (h₀ := X.base) I.ok.mod.kin F.kp hall ?_ hpl
  have h' : tk σ H fun zs H2 => ([] : List V).length = 0 ∧ zs.length = ks.length ∧ sp (perm pm ([] ++ zs)) H2 Q (E σ) := h
  refine thn (hkw.run pos pins s σ H _ I h') fun ws s2 ⟨zs, H2, I2, rz, l1, l2, q2⟩ => ⟨I2.kIn, ?_⟩
  rw [hks]
  exact run_fnP F hr (hx σ) I2 .nil rz l1 l2 q2
theorem passAt0 (σ : L2.St) : PassesAt CX0 X σ E0 := fun _ _ _ _ _ _ h => h.elim
end
theorem s_callS {sp : Sp} {E : L2.St → XK} {t : TA} {σ : L2.St} {H : Hp} {Q : VK} (h : t σ H fun vs H1 => sp vs H1 Q (E σ)) : tCallS sp E t σ H Q := h
theorem s_callP {pm : List Nat} {n m : Nat} {sp : Sp} {E : L2.St → XK} {t tk : TA} {σ : L2.St} {H : Hp} {Q : VK} (h : t σ H fun vs H1 => tk σ H1 fun zs H2 => vs.length = n ∧ zs.length = m ∧ sp (perm pm (vs ++ zs)) H2 Q (E σ)) : tCallP pm n m sp E t tk σ H Q := h
end Z
namespace Z
open PySem PySem.Spec PyProof.Rows L2 Evl
theorem passAtL {X : Cx} (σ : L2.St) : PassesAt (L2.CX X.prog X.w) X σ E0 := fun pins H s e s' I h => passL pins σ H s e s' I h
def tTry (K : PySem.W.Frag) (tb : WX → TS) (Wout : WX) (l : List Hd) : TS := fun D σ H => tb (wMix K Wout D l) D σ H
end Z

/-! steps: exceptions, calls with keywords -/
namespace Z
open PySem PySem.Spec PyProof.Rows L2 Evl
section
variable {K : PySem.W.Frag} {σ : L2.St} {H : Hp} {Q : VK} {D : Ends}
theorem s_try {tb : WX → TS} {Wout : WX} {l : List Hd} (h : tb (wMix K Wout D l) D σ H) : tTry K tb Wout l D σ H := h
theorem mix_hit {Wout : WX} {c cls : Value} {i : Option Nat} {ts : Addr → Value → Option Addr → TS} {r : List Hd} {d : Option Addr} (e : PySem.W.exmOne K cls c = some true) (h : ∀ a, H a = none → ts a cls d (unb i D) (bnd i a σ) H) :
    wMix K Wout D ((c, i, ts) :: r) cls d σ H := ⟨true, e, (fun _ => h), fun z => by cases z⟩
theorem mix_miss {Wout : WX} {c cls : Value} {i : Option Nat} {ts : Addr → Value → Option Addr → TS} {r : List Hd} {d : Option Addr} (e : PySem.W.exmOne K cls c = some false) (h : wMix K Wout D r cls d σ H) :
    wMix K Wout D ((c, i, ts) :: r) cls d σ H := ⟨false, e, (fun z => by cases z), fun _ => h⟩
theorem s_xf {a : Addr} {cls : Value} {d : Option Addr} {C : Addr} {f : Str} {te : TE} (h : te σ H fun x H1 => x = .ref a ∧ cls = .ref C ∧ ∃ (dd : Addr) (fs : List (Str × V)) (v : V), d = some dd ∧ H1 dd = some (.xd fs) ∧ fs.lookup f = some v ∧ Q v H1) : tXf a cls d C f te σ H Q := h
theorem xf_at {a C dd : Addr} {f : Str} {v : V} {R : V → Prop} (h : H dd = some (.xd [(f, v)])) (q : R v) :
    V.ref a = .ref a ∧ (Value.ref C) = .ref C ∧ ∃ (d2 : Addr) (fs : List (Str × V)) (w : V), some dd = some d2 ∧ H d2 = some (.xd fs) ∧ fs.lookup f = some w ∧ R w := ⟨rfl, rfl, dd, _, v, rfl, h, by simp [List.lookup], q⟩
end
theorem Rz.of {K : PySem.W.Frag} {x f : Str} {v : V} {H H1 : Hp} {E : XK} (h : Rz K x f v H E) (e : Ex H H1) : Rz K x f v H1 E := fun H' d e' hd => h H' d (e.trans e') hd
end Z
namespace Z
open PySem PySem.Spec PyProof.Rows L2 Evl
theorem s_par {i j : Nat} {t : TA} {D : Ends} {σ : L2.St} {H : Hp} (h : t σ H fun vs H1 => ∃ x y, vs = [x, y] ∧ D.nx ((σ.set i (some x)).set j (some y)) H1) : tPar i j t D σ H := h
end Z

/-! ### an exception class of the package: `__init__(self, value)` says super().__init__(text), then self.value = value -/
namespace PySem
namespace Sxvalue
open PySem.W PySem.Calls PyProof.Rows PySem.HandSPX
def iA (p1 p2 : Pos) : Arguments := { posonlyargs := [], args := [{ arg := "self", annotation := none, pos := p1 }, { arg := "value", annotation := none, pos := p2 }], vararg := none, kwonlyargs := [], kw_defaults := [], kwarg := none, defaults := [] }
def iB (txt : Str) (q1 q2 q3 q4 q5 q6 r1 r2 r3 r4 : Pos) : List Stmt := [.Expr (.Call (.Attribute (.Call (.Name "super" q1) [] [] q2) "__init__" q3) [.Constant (.str txt) 0 q4] [] q5) q6, .Assign [.Attribute (.Name "self" r1) "value" r2] (.Name "value" r3) r4]
def iS : Scope := { kind := .function, names := [(PySem.Str.ofString "self", .local), (PySem.Str.ofString "value", .local), (PySem.Str.ofString "__class__", .free), (PySem.Str.ofString "super", .globalImplicit)], isGenerator := false, isCoroutine := false, more := [] }
/-- what the written part says of the class x at C, of its `__init__` at fI -/
structure Txt (P : Program) (K : Frag) (mg : Str → Option Value) (x : Str) (C fI : Addr) : Prop where
  gC : mg x = some (.ref C)
  noS : mg "super" = none
  cls : ∃ nm q N bs bm sn sub ab col dd k0 k1 k2 k3 k5, K.lookup C = some (excClassObj nm q C N bs bm true sn sub ab col dd k0 k1 k2 k3 k5 "ValueError.__new__") ∧ refsVE bm = true
  sa : findIn K (.ref C) "__setattr__" = some (some (.builtin "object.__setattr__"))
  noN : findIn K (.ref C) "value" = some none
  iC : findIn K (.ref C) "__init__" = some (some (.ref fI))
  tC : typeIn K (.ref fI) = some (.type "function")
  kC : keepIn K (.ref C) = true
  exC : subIn K (.ref C) (.type "BaseException") = some true
  veC : subIn K (.ref C) (.type "ValueError") = some true
  tyC : typeIn K (.ref C) = some (.type "type")
  mroC : mroIn K C (.ref C) = some true
  opq : nsIn K cStatics "thirdparty.any" = some none
  sup : ks_superIn K C C "__init__" = some (some (.builtin "ValueError.__init__"))
  top : (P.main.scope.names.lookup ("super" : Str)).isSome = false
  fn : ∃ (qu txt : Str) (oc : Value) (od : Option Addr) (doc pm : Value) (an : Option Addr) (cda : Addr) (ct : Value) (osl : Array (Option Value)) (cc : Addr) (p1 p2 q1 q2 q3 q4 q5 q6 r1 r2 r3 r4 : Pos),
    K.lookup fI = some ⟨oc, od, .func (ksFn "__init__" qu (iA p1 p2) (iB txt q1 q2 q3 q4 q5 q6 r1 r2 r3 r4) iS .none .none doc pm an (.ref cda) ct cc), osl⟩ ∧ codeIn K (.ref cda) qu = true ∧
    (∃ cl cld csl, K.lookup cc = some ⟨cl, cld, .cell (some (.ref C)), csl⟩) ∧ (∃ ccl cdd vs ccs file tf, K.lookup cda = some ⟨ccl, cdd, .fields vs, ccs⟩ ∧ vs[2]? = some (.str file tf) ∧ ((P.main.file : Str) == file) = true) ∧ (q3.endLine == q5.line) = true
theorem one_size (v : Value) : [v].length ≤ sizeLine := by
  rw [sizeLine_eq]
  exact (by decide : 1 ≤ 16777216)
theorem he_of {env : Env} {txt : Str} {q1 q2 q3 q4 q5 : Pos} (hl : (q3.endLine == q5.line) = true) :
    eval (.Call (.Attribute (.Call (.Name "super" q1) [] [] q2) "__init__" q3) [.Constant (.str txt) 0 q4] [] q5) env = (do
      let ov ← attributeBase (.Call (.Name "super" q1) [] [] q2) "__init__" env (eval (.Call (.Name "super" q1) [] [] q2) env)
      standAt q3.atName
      let (f, first) ← holding [ov] (getMethod ov "__init__" (do return (← importBound (.Call (.Name "super" q1) [] [] q2) env).getD true))
      callWith q5 f first (backTo q5 (starEach [.Constant (.str txt) 0 q4] env)) []) := by
  have hp : methodCallPos true (.Call (.Name "super" q1) [] [] q2) env q3 q5 = pure q5 := by
    unfold methodCallPos
    rw [if_pos (by rw [hl]; rfl)]
  show (do
      let ov ← attributeBase (.Call (.Name "super" q1) [] [] q2) "__init__" env (eval (.Call (.Name "super" q1) [] [] q2) env)
      standAt q3.atName
      let (f, first) ← holding [ov] (getMethod ov "__init__" (do return (← importBound (.Call (.Name "super" q1) [] [] q2) env).getD true))
      let p ← methodCallPos true (.Call (.Name "super" q1) [] [] q2) env q3 q5
      callWith p f first (backTo q5 (starEach [.Constant (.str txt) 0 q4] env)) []) = _
  rw [hp]
  rfl
structure InitEnd (h h' : Heap) (x C dx t1 : Addr) (v : Value) : Prop where
  keep : ∀ b o, b ≠ x → h.get? b = some o → h'.get? b = some o
  obj : h'.get? x = some { cls := .ref C, dict := some dx, data := .fields #[.ref t1, .none, .none, .none, .bool false, .none] }
  dbig : h.objs.size ≤ dx
  dne : dx ≠ x
  ns : h'.Ns1 dx (fun y => if y = "value" then some v else none)
structure OwnMade (h h' : Heap) (e C d : Addr) (v : Value) : Prop where
  keep : ∀ b o, h.get? b = some o → h'.get? b = some o
  new : h.objs.size ≤ e
  obj : ∃ oe vs, h'.get? e = some oe ∧ oe.cls = .ref C ∧ oe.dict = some d ∧ oe.data = .fields vs ∧ vs[1]? = some .none
  dbig : h.objs.size ≤ d
  dne : d ≠ e
  ns : h'.Ns1 d (fun y => if y = "value" then some v else none)
section
variable {prog : Program} {w : World} {A : Around} {E : Value → Shared → Prop} {R : Result → Shared → Prop} {s : Shared} {K : Frag} {mg mb : Str → Option Value} {C fI : Addr} {n : Str}
theorem init (T : Txt prog K mg n C fI) {x t0 : Addr} {v : Value} (X : K.In s.heap) (hG : s.heap.Ns mainGlobals mg) (hB : s.heap.Ns builtinsNs mb) (hb : mb "super" = some (.type "super")) (hlim : s.heap.NoLimit) (hx : s.heap.get? x = some (excO C t0)) (hnx : K.lookup x = none) (hroom : A.depth < recursionLimit)
    (hq : ∀ h' tk t1 dx, InitEnd s.heap h' x C dx t1 v → R (.ok (.ret .none)) { s with heap := h', toks := tk }) :
    codeAny (model prog w) A (.call (.ref fI) ⟨[.ref x, v], []⟩) R s := by
  obtain ⟨qu, txt, oc, od, doc, pm, an, cda, ct, osl, cc, p1, p2, q1, q2, q3, q4, q5, q6, r1, r2, r3, r4, ho, hcd, ⟨cl, cld, csl, hcell⟩, ⟨ccl, cdd, vs, ccs, file, tf, hcode, hvs, hfile⟩, hline⟩ := T.fn
  obtain ⟨nm, q, N, bs, bm, sn, sub, ab, col, dd, k0, k1, k2, k3, k5, hC, hbm⟩ := T.cls
  have hcl : clsIn K C = some { name := nm, bases := bs, mro := .ref C :: bm, ns := N, qualname := q, hasDict := true, slotNames := sn, subclasses := sub, abstract := ab, collection := col, hasDel := false } := by unfold clsIn; rw [hC] <;> rfl
  have hsup := T.sup
  have hxC : x ≠ C := fun z => by
    have y := X _ _ hC
    rw [← z, hx] at y
    cases y
  refine ks_codeAny_call_defAt (fd := ksFn "__init__" qu (iA p1 p2) (iB txt q1 q2 q3 q4 q5 q6 r1 r2 r3 r4) iS .none .none doc pm an (.ref cda) ct cc) (body := iB txt q1 q2 q3 q4 q5 q6 r1 r2 r3 r4) (binds := [("self", .ref x), ("value", v)]) hroom (X _ _ ho) rfl hlim (codeRec_of X hcd) rfl
    (BindsTo.of_eq (by first | rfl | with_unfolding_all rfl)) (by show ∀ x ∈ iS.names, x.2 ≠ NameKind.cell; decide) (by exact locs rfl) (fun h₁ hns k₁ => ?_) rfl rfl rfl
  have hxL : s.heap.objs.size ≠ x := Nat.ne_of_gt (Heap.lt_size hx)
  have X₁ : K.In h₁ := X.keeps k₁
  have hx₁ := k₁ _ _ hx
  have hG₁ := hG.keeps k₁
  have hB₁ := hB.keeps k₁
  -- super().__init__(text)
  show wpAt _ _ _ (execs (iB txt q1 q2 q3 q4 q5 q6 r1 r2 r3 r4) (ksEnv qu iS s.heap.objs.size fI (.ref cda) cc)) _ _ _
  refine ks_wpAt_execs_cons (ks_wpAt_Expr_any (ks_wpAt_MethodCall ?_ (he_of hline)))
  refine ks_wpAt_super_base (env := ksEnv qu iS s.heap.objs.size fI (.ref cda) cc) (ar := { arg := "self", annotation := none, pos := p1 }) rfl rfl (by decide) rfl (X₁ _ _ ho) rfl rfl rfl (X₁ _ _ hcode) rfl hvs hfile T.top ?_
  refine ks_loadName_global rfl rfl (loadGlobal_builtin (env := ksEnv qu iS s.heap.objs.size fI (.ref cda) cc) hG₁ T.noS hB₁ hb ⟨rfl, ?_⟩)
  refine wpAny_loadName_free rfl rfl rfl ⟨_, X₁ _ _ hcell, rfl⟩ ?_
  refine wpAny_loadName_local (v := .ref x) rfl rfl hns (by first | rfl | with_unfolding_all rfl) ?_
  refine ks_wpAny_isType_cls (X₁ _ _ hC) rfl ⟨rfl, ?_⟩
  refine ks_wpAny_call_super (X₁ _ _ hC) rfl hx₁ rfl (fun c e => by cases e) (looks_mroIn X₁ T.mroC) (fun h₂ hso k₂ => ?_)
  have X₂ : K.In h₂ := X₁.keeps k₂
  have I₂ : PySem.W.InstAt h₂ x (excO C t0) C none := ⟨k₂ _ _ hx₁, rfl, rfl, trivial⟩
  have hI : Looks (model prog w) h₂ (isInstance (.ref x) (.type "ValueError")) true := I₂.type.andThen (looks_subIn X₂ T.veC)
  unfold ks_superIn at hsup
  rw [hcl] at hsup
  refine kxs_getMethod kxs_ValueError hso (looks_opaque X₂ T.opq) (l₀ := .ref C :: bm) (fun A Q E s k q => wpAny_bind ((looks_clsIn X₂ hcl) A _ E s k (wpAny_pure q))) rfl X₂ hsup hI hxC (by decide) ?_
  have up₃ : ∀ b o, h₂.get? b = some o → (h₂.push (kxs_mw "ValueError.__init__" x)).get? b = some o := fun b o e => Heap.get?_push_of_some _ e
  have hu : (h₂.push (kxs_mw "ValueError.__init__" x)).get? h₂.objs.size = some (kxs_mw "ValueError.__init__" x) := Heap.get?_push_at rfl rfl
  refine kxs_callWith (i := "ValueError.__init__") (x := x) (by rfl) ?_
  refine evalArgs_plain (spliced_cons (wpAny_Constant_str (k := 0) (pos := q4) (spliced_nil ?_)))
  refine ⟨hu, ?_⟩
  refine wpAny_call (codeAny_of_tree ?_)
  show wpAny _ _ (callAny (.ref h₂.objs.size) ⟨[.str txt _], []⟩) _ _ _
  simp only [callAny]
  refine wpAny_bind (wpAny_load hu ?_)
  simp only [kxs_mw, show (Value.type "method-wrapper" == Value.type "method" || Value.type "method-wrapper" == Value.type "builtin_function_or_method" || Value.type "method-wrapper" == Value.type "method-wrapper") = true by decide, if_true]
  refine KFB.if_so (by decide) ?_
  have hC₃ := up₃ _ _ (X₂ _ _ hC)
  have hx₃ := up₃ _ _ I₂.at_
  refine wpAny_bind (check_bound_init F.excBase_ValueError.toExcCallFacts hC₃ hx₃ rfl ?_)
  refine wpAny_bind (wpAny_pure (wpAny_pure ?_))
  refine ⟨plainId_quiet F.excBase_ValueError.init.plain _, codeAny_builtin F.excBase_ValueError.initEntry ?_⟩
  refine exc_init_tree (cls := .ref C) (t0 := t0) (dv := none) (c2 := .none) (c3 := .none) (b4 := .bool false) hx₃ (one_size _) fun h₄ k₄ hx₄ ht₄ => ?_
  have k14 : ∀ b o, b ≠ x → h₁.get? b = some o → h₄.get? b = some o := fun b o hb e => k₄ b o hb (up₃ _ _ (k₂ _ _ e))
  have k04 : ∀ b o, b ≠ x → s.heap.get? b = some o → h₄.get? b = some o := fun b o hb e => k14 b o hb (k₁ _ _ e)
  have X₄ : K.In h₄ := fun a o e => k04 a o (fun z => by rw [z, hnx] at e; cases e) (X _ _ e)
  have hns₄ : h₄.Ns s.heap.objs.size (fun y => (([("self", .ref x), ("value", v)] : List (Str × Value)).reverse.lookup y)) := by
    obtain ⟨oL, es, ep, hL, r⟩ := hns
    exact ⟨oL, es, ep, k14 _ _ hxL hL, r⟩
  have sz : s.heap.objs.size < h₁.objs.size := hns.lt
  -- self.value = value
  show wpAt _ _ _ _ _ _ _
  refine wpAt_of_wpAny ?_
  refine wpAny_execs_cons (plainObj_wpAny_Assign_Attribute ?_)
  refine ESX.ldL (env := ksEnv qu iS s.heap.objs.size fI (.ref cda) cc) (v := v) hns₄ (by first | rfl | with_unfolding_all rfl | kernel_rfl) (ESX.ldL (env := ksEnv qu iS s.heap.objs.size fI (.ref cda) cc) (v := .ref x) hns₄ (by first | rfl | with_unfolding_all rfl | kernel_rfl) ?_)
  refine set_plain X₄ (ox := excO C (h₂.push (kxs_mw "ValueError.__init__" x)).objs.size) (od := none) ⟨hx₄, rfl, rfl, trivial⟩ T.sa ?_
  refine exc_osa X₄ hx₄ hcl (show refsVE (.ref C :: bm) = true from hbm) rfl T.noN (fun h₅ tk₅ dx k₅ dn dne hx₅ hn₅ => ?_)
  have le4 : h₁.objs.size ≤ h₄.objs.size := by
    have a1 := Heap.lt_size hso
    have a2 := Heap.lt_size ht₄
    have a3 := Heap.lt_size hu
    exact Nat.le_of_lt (Nat.lt_trans a1 (Nat.lt_trans a3 a2))
  exact wpAny_execs_nil (hq h₅ tk₅ _ dx ⟨fun b o hb e => k₅ b o hb (k04 b o hb e), hx₅, Nat.le_of_lt (Nat.lt_of_lt_of_le sz (Nat.le_trans le4 dn)), dne, hn₅⟩)
theorem made (T : Txt prog K mg n C fI) {v : Value} (X : K.In s.heap) (hG : s.heap.Ns mainGlobals mg) (hB : s.heap.Ns builtinsNs mb) (hb : mb "super" = some (.type "super")) (hlim : s.heap.NoLimit) (hroom : A.depth + 1 < recursionLimit)
    (hq : ∀ h' tk e d, OwnMade s.heap h' e C d v → R (.ok (.ret (.ref e))) { s with heap := h', toks := tk }) :
    codeAny (model prog w) A (.call (.ref C) ⟨[v], []⟩) R s := by
  obtain ⟨nm, q, N, bs, bm, sn, sub, ab, col, dd, k0, k1, k2, k3, k5, hC, hbm⟩ := T.cls
  obtain ⟨hp, g, dr, tk, os⟩ := s
  have k : ∀ b o, hp.get? b = some o → ((hp.push (kdv_tup [v])).push (excO C hp.objs.size)).get? b = some o := fun b o e => Heap.get?_push_of_some _ (Heap.get?_push_of_some _ e)
  have hget : ((hp.push (kdv_tup [v])).push (excO C hp.objs.size)).get? (hp.objs.size + 1) = some (excO C hp.objs.size) := by heap_get
  have hnx : K.lookup (hp.objs.size + 1) = none := by
    cases e : K.lookup (hp.objs.size + 1) with
    | none => rfl
    | some o =>
      have z : hp.get? (hp.objs.size + 1) = some o := X _ _ e
      exact absurd (Nat.lt_of_succ_lt (Heap.lt_size z)) (Nat.lt_irrefl _)
  refine call_own F.excBase_ValueError (fun X => refsVE_contains X bm hbm) (X _ _ hC) (looks_findIn X T.iC) (fun self => bind_fn X self T.tC) (one_size v) ?_
  refine init (s := ⟨(hp.push (kdv_tup [v])).push (excO C hp.objs.size), g, dr, tk, os⟩) T (X.keeps k) (hG.keeps k) (hB.keeps k) hb (hlim.keeps k) hget hnx ?_ fun h' tk' t1 dx ⟨k', hx, dn, dne, hns⟩ => ?_
  · show A.depth + 1 < recursionLimit
    exact hroom
  · have old : ∀ b o, hp.get? b = some o → h'.get? b = some o := fun b o e => k' b o (Nat.ne_of_lt (Nat.lt_succ_of_lt (Heap.lt_size e))) (k b o e)
    have z : hp.objs.size + 1 + 1 ≤ dx := by
      first
        | (simpa only [Heap.size_push] using dn)
        | exact dn
        | (have q := dn; rw [Heap.size_push, Heap.size_push] at q; exact q)
    exact ⟨rfl, hq h' tk' (hp.objs.size + 1) dx ⟨old, Nat.le_succ _, ⟨_, _, hx, rfl, rfl, rfl, rfl⟩, Nat.le_trans (Nat.le_trans (Nat.le_succ _) (Nat.le_succ _)) z, dne, hns⟩⟩
end
end Sxvalue
end PySem
namespace L2
open PySem PySem.Spec PyProof.Rows
theorem relO_value {v : V} {v' : Value} (r : RelV v v') (f : Str) : RelO (List.lookup f [(("value" : Str), v)]) (if f = "value" then some v' else none) := by
  by_cases hw : f = "value"
  · subst hw
    rw [if_pos rfl]
    have q : List.lookup ("value" : Str) [(("value" : Str), v)] = some v := by simp [List.lookup]
    rw [q]
    exact r
  · rw [if_neg hw]
    have qw : (f == ("value" : Str)) = false := by simpa using hw
    have q2 : List.lookup f [(("value" : Str), v)] = none := by simp [List.lookup, qw]
    rw [q2]
    trivial
section
variable {X : Cx} {C fI : Addr}
/-- x(e) : an exception of the class at C, its dict d new -/
def tMkvalue (C : Addr) (ta : TA) : St → Hp → XK → Prop := fun σ H Q => ta σ H fun vs H1 => ∃ v, vs = [v] ∧ ∀ d, H1 d = none → Q (.ref C) (some d) (upd H1 d (.xd [(("value" : Str), v)]))
theorem pmkvalue {x : Str} {a : Expr} {ta : TA} {p pos : Pos} {k : Nat} (T : PySem.Sxvalue.Txt X.prog X.K X.mg x C fI) (hr : Room k X.A) (ha : PA X [a] ta) (hg : Gl X x := by rfl) (hdb : (x == ("__debug__" : Str)) = false := by decide)
    (he : starEach (a :: []) X.env = (false, eval a X.env) :: starEach [] X.env := by rfl) (hpl : (backTo pos (starEach [] X.env)).any (·.1) = false := by rfl) :
    PMk X (.Call (.Name x p) [a] [] pos) (tMkvalue C ta) := by
  intro pins s σ H Q I h
  refine wpAny_Call_Name_kw (ld_glob I hg T.gC ?_ hdb)
  refine PySem.W.callWith_K (h₀ := X.base) I.ok.mod.kin T.kC (thn (ha.run pos pins s σ H _ I h) fun us s1 hh => ?_) he hpl
  obtain ⟨vs, H1, I1, r1, v, ev, q1⟩ := hh
  subst ev
  refine ⟨I1.kIn, ?_⟩
  cases r1 with
  | cons rv rn =>
    rename_i v' us'
    cases rn
    show wpAny _ _ (call (.ref C) [v']) _ _ _
    have hlim := I1.nolimit
    obtain ⟨mb, b1, b2⟩ := I1.mod.blt
    have hG1 := I1.mod.glob.keeps I1.bk
    have hB1 := b1.keeps I1.bk
    obtain ⟨hp, g, dr, tk, os⟩ := s1
    refine wpAny_call (PySem.Sxvalue.made T I1.kIn hG1 hB1 ((b2 _ (by decide)).trans (by first | boot_by_name | rfl | kernel_rfl)) hlim (by have := hr.dp; omega) fun h' tk' e d M => ?_)
    show MkP X pins σ Q (.ref e) ⟨h', g, dr, tk', os⟩
    obtain ⟨oe, fv, hoe, hc, hd, hdat, h1⟩ := M.obj
    have hns := M.ns
    obtain ⟨G', g1, g2⟩ := restrict h' fun b => decide (b ≠ e)
    have gk : ∀ b, b ≠ e → G'.get? b = h'.get? b := fun b hb => g1 b (decide_eq_true hb)
    have ge : G'.get? e = none := g2 e (by simp)
    have old : ∀ b o, hp.get? b = some o → G'.get? b = some o := fun b o q => (gk b (Nat.ne_of_lt (Nat.lt_of_lt_of_le (Heap.lt_size q) M.new))).trans (M.keep b o q)
    have ob : ObjOk X.prog X.w (upd H1 d (.xd [(("value" : Str), v)])) G' d (.xd [(("value" : Str), v)]) :=
      ⟨_, hns.at (fun o q => (gk d M.dne).trans q), fun f => relO_value rv f⟩
    have J : Inv X pins σ (upd H1 d (.xd [(("value" : Str), v)])) ⟨G', g, dr, tk', os⟩ := I1.laid (t' := tk') old M.dbig ob
    refine ⟨e, oe, fv, ⟨G', g, dr, tk', os⟩, _, .ref C, some d, rfl, J, fun b o q => ?_, ge, hoe, ⟨hc, hd⟩, hdat, h1, ?_, rfl, I1.bare, raises_own T.exC T.tyC, q1 d (I1.hok.fresh M.dbig)⟩
    · by_cases hb : b = e
      · have q' : G'.get? b = some o := q
        rw [hb, ge] at q'; cases q'
      · exact (gk b hb).symm.trans q
    · rw [upd_ne (Ne.symm M.dne)]
      exact I1.hok.fresh M.new
/-- raise x(e) -/
def tRaisevalue (C : Addr) (W : WX) (ta : TA) : TS := fun _ σ H => tMkvalue C ta σ H fun cls d H' => W cls d σ H'
theorem ps_raisevalue {x : Str} {a : Expr} {ta : TA} {W : WX} {p pos pos2 : Pos} {k : Nat} (hc : X.calm = true) (T : PySem.Sxvalue.Txt X.prog X.K X.mg x C fI) (hr : Room k X.A) (tk : Takes X W) (ha : PA X [a] ta) (hg : Gl X x := by rfl) (hdb : (x == ("__debug__" : Str)) = false := by decide)
    (he : starEach (a :: []) X.env = (false, eval a X.env) :: starEach [] X.env := by rfl) (hpl : (backTo pos (starEach [] X.env)).any (·.1) = false := by rfl) :
    PS X (.Raise (some (.Call (.Name x p) [a] [] pos)) none pos2) (tRaisevalue C W ta) := ps_raise hc tk (pmkvalue T hr ha hg hdb he hpl)
end
end L2

namespace Z
open PySem PySem.Spec PyProof.Rows L2
/-- the init's params, body as the text has them -/
def Chkvalue (P0 : Program) (K : PySem.W.Frag) (x : Str) : Bool :=
  eqB (PySem.W.findIn K (.ref (He.ga K x)) "__setattr__") (some (some (.builtin "object.__setattr__"))) && (eqB (PySem.W.findIn K (.ref (He.ga K x)) "value") (some none) && (clsB K (He.ga K x) && initB P0 K x))
theorem chkvalue_ok {P P0 : Program} {K : PySem.W.Frag} {mg : Str → Option Value} {x : Str} {qu txt : Str} {p1 p2 q1 q2 q3 q4 q5 q6 r1 r2 r3 r4 : Pos} (g : mg x = some (.ref (He.ga K x))) (ns : mg "super" = none)
    (hf : P.main.file = P0.main.file) (hs : (P.main.scope.names.lookup ("super" : Str)).isSome = false)
    (e : fnS K (x, some "__init__") = (some ("__init__", qu, PySem.Sxvalue.iA p1 p2, FuncBody.stmts (PySem.Sxvalue.iB txt q1 q2 q3 q4 q5 q6 r1 r2 r3 r4), PySem.Sxvalue.iS, mainGlobals, [("__class__" : Str)], builtinsNs) : FnS)) (hl : (q3.endLine == q5.line) = true)
    (c : Chkvalue P0 K x = true) : PySem.Sxvalue.Txt P K mg x (He.ga K x) (He.ma K (He.ga K x) "__init__") := by
  obtain ⟨c1, c⟩ := He.ba c
  obtain ⟨c2, c⟩ := He.ba c
  obtain ⟨c3, c4⟩ := He.ba c
  obtain ⟨d1, d2, d3, d4, d5, d6, d7⟩ := initB_ok c4
  obtain ⟨oc, od, osl, doc, pm, an, cda, ct, cc, hL, hq, hcell, hcode⟩ := d7 _ _ _ _ _ e
  obtain ⟨k1, k2, k3, k4, k5, k6, k7⟩ := d6
  exact ⟨g, ns, clsB_ok c3, eqB_ok c1, eqB_ok c2, d1, d2, k1, k2, k3, k4, k5, k6, k7, hs,
    ⟨qu, txt, oc, od, doc, pm, an, cda, ct, osl, cc, p1, p2, q1, q2, q3, q4, q5, q6, r1, r2, r3, r4, hL, hq, hcell, (by rw [hf]; exact hcode), hl⟩⟩
end Z
namespace Z
open PySem PySem.Spec PyProof.Rows L2 Evl
theorem s_raisevalue {C : Addr} {W : WX} {ta : TA} {D : Ends} {σ : L2.St} {H : Hp} (h : ta σ H fun vs H1 => ∃ v, vs = [v] ∧ ∀ d, H1 d = none → W (.ref C) (some d) σ (upd H1 d (.xd [(("value" : Str), v)]))) : tRaisevalue C W ta D σ H := h
theorem rzvalue {K : PySem.W.Frag} {x : Str} {v : V} {H0 H : Hp} {E : XK} (r : Rz K x "value" v H0 E) (e : Ex H0 H) : ∃ v', [v] = [v'] ∧ ∀ d, H d = none → E (.ref (He.ga K x)) (some d) (upd H d (.xd [(("value" : Str), v')])) :=
  ⟨v, rfl, fun d hd => r _ d (e.trans (Ex.new hd)) upd_same⟩
end Z

namespace Z
open PySem PySem.Spec PyProof.Rows L2 Evl
/-! ### kinds of data -/
inductive Kd where
  | sc (v : V) | tup (xs : List V) | lst (xs : List V) | dct (kvs : List (Key × V))
def isSc : V → Bool
  | .non | .bl _ | .int _ | .str _ => true
  | _ => false
/-- v is such a datum in the heap H -/
def Is (H : Hp) (v : V) : Kd → Prop
  | .sc x => v = x ∧ isSc x = true
  | .tup xs => ∃ a, v = .ref a ∧ H a = some (.tup xs)
  | .lst xs => ∃ a, v = .ref a ∧ H a = some (.lst xs)
  | .dct kvs => ∃ a, v = .ref a ∧ H a = some (.dK kvs)
def Deep (H : Hp) : Kd → Prop
  | .tup xs => ∀ x ∈ xs, ∃ e, Is H x e
  | _ => True
theorem Is.ex {H H' : Hp} {v : V} {d : Kd} (h : Is H v d) (e : Ex H H') : Is H' v d := by
  cases d with
  | sc x => exact h
  | tup xs => obtain ⟨a, rfl, q⟩ := h; exact ⟨a, rfl, e _ _ q⟩
  | lst xs => obtain ⟨a, rfl, q⟩ := h; exact ⟨a, rfl, e _ _ q⟩
  | dct xs => obtain ⟨a, rfl, q⟩ := h; exact ⟨a, rfl, e _ _ q⟩
theorem Deep.ex {H H' : Hp} {d : Kd} (h : Deep H d) (e : Ex H H') : Deep H' d := by
  cases d with
  | tup xs => exact fun x hx => let ⟨k, q⟩ := h x hx; ⟨k, q.ex e⟩
  | _ => trivial
def tyN : Kd → String
  | .sc .non => "NoneType"
  | .sc (.bl _) => "bool"
  | .sc (.int _) => "int"
  | .sc (.str _) => "str"
  | .sc _ => "object"
  | .tup _ => "tuple"
  | .lst _ => "list"
  | .dct _ => "dict"
theorem Is.ty {K : PySem.W.Frag} {H : Hp} {v : V} {d : Kd} (h : Is H v d) : TyX K H v (.type (tyN d)) := by
  cases d with
  | sc x =>
    obtain ⟨rfl, hs⟩ := h
    cases v with
    | non => exact .base .non
    | bl b => exact .base (.bl b)
    | int i => exact .base (.int i)
    | str x => exact .base (.str x)
    | _ => cases hs
  | tup xs => obtain ⟨a, rfl, q⟩ := h; exact .base (.tup q)
  | lst xs => obtain ⟨a, rfl, q⟩ := h; exact .base (.lst q)
  | dct xs => obtain ⟨a, rfl, q⟩ := h; exact .base (.dK q)
theorem s_isi {K : PySem.W.Frag} {H : Hp} {Q : VK} {v : V} {d : Kd} {T : String} {b : Bool} (h : Is H v d) (e : kitB (tyN d) T = some b) (q : Q (.bl b) H) : rIsi K [v, .ty T] H Q :=
  ⟨v, .ty T, _, _, b, rfl, .ty T, h.ty, kit_ty e, q⟩
def tyB (T : String) (a : String) : Bool := a == T || (a == "bool" && T == "int")
def tyNs : List String := ["NoneType", "bool", "int", "str", "tuple", "list", "dict"]
theorem Is.tyN {H : Hp} {v : V} {d : Kd} (h : Is H v d) : tyN d ∈ tyNs := by
  cases d with
  | sc x =>
    obtain ⟨rfl, hs⟩ := h
    cases v <;> first | (simp [Z.tyN, tyNs]; done) | cases hs
  | _ => simp [Z.tyN, tyNs]
def kitOk (T : String) : Bool := tyNs.all fun a => decide (kitB a T = some (tyB T a))
theorem s_isiT {K : PySem.W.Frag} {H : Hp} {Q : VK} {v : V} {d : Kd} {T : String} (hT : kitOk T = true) (h : Is H v d) (q : Q (.bl (tyB T (tyN d))) H) : rIsi K [v, .ty T] H Q :=
  s_isi h (of_decide_eq_true (List.all_eq_true.mp hT _ h.tyN)) q
theorem kit_int : kitOk "int" = true := by decide +kernel
theorem kit_bool : kitOk "bool" = true := by decide +kernel
theorem kit_str : kitOk "str" = true := by decide +kernel
theorem kit_tuple : kitOk "tuple" = true := by decide +kernel
theorem kit_list : kitOk "list" = true := by decide +kernel
theorem kit_dict : kitOk "dict" = true := by decide +kernel
/-! ### what the words tell -/
def isIV : V → Bool
  | .int _ => true
  | _ => false
def limV : V → Bool
  | .non | .int _ => true
  | _ => false
def letters : List Nat := ("abcdefghijklmnopqrstuvwxyz" : Str).cps.toList
def nmS (z : Str) : Bool := !decide (z = ("table" : Str)) && (decide (1 ≤ z.length) && (decide (z.length ≤ 8) && z.cps.toList.all fun c => decide (c ∈ letters)))
def nmV : V → Bool
  | .str z => nmS z
  | _ => false
def spL : List V → Bool
  | [l, h] => limV l && (limV h && (match l, h with
    | .int a, .int b => decide (a < b)
    | _, _ => true))
  | _ => false
def spD : Kd → Bool
  | .tup xs => spL xs
  | _ => false
def smallV : V → Prop
  | .str z => z.length ≤ 1000
  | _ => True
/-! ### the promises of the words -/
def sp_is_integer (K : PySem.W.Frag) : Sp := fun vs H Q _ => ∃ v d, vs = [v] ∧ Is H v d ∧ Q (.bl (isIV v)) H
def sp_is_name (K : PySem.W.Frag) : Sp := fun vs H Q _ => ∃ v d, vs = [v] ∧ Is H v d ∧ smallV v ∧ ∀ H', Ex H H' → Q (.bl (nmV v)) H'
def sp_is_limit (K : PySem.W.Frag) : Sp := fun vs H Q _ => ∃ v d, vs = [v] ∧ Is H v d ∧ Q (.bl (limV v)) H
def sp_is_span (K : PySem.W.Frag) : Sp := fun vs H Q _ => ∃ v d, vs = [v] ∧ Is H v d ∧ Deep H d ∧ Q (.bl (spD d)) H
/-! ### the box of draws -/
def Bx (H : Hp) (p : Addr) (n : Nat) : Prop := ∃ a b c : Int, H p = some (.lst [.int a, .int b, .int c]) ∧ 0 ≤ b ∧ b < 2147483648 ∧ 0 ≤ c ∧ c ≤ n
theorem Bx.mono {H : Hp} {p : Addr} {n m : Nat} (h : Bx H p n) (l : n ≤ m) : Bx H p m := by
  obtain ⟨a, b, c, e, h1, h2, h3, h4⟩ := h
  exact ⟨a, b, c, e, h1, h2, h3, by omega⟩
theorem Bx.ex {H H' : Hp} {p : Addr} {n : Nat} (h : Bx H p n) (e : Ex H H') : Bx H' p n := by
  obtain ⟨a, b, c, e1, h1⟩ := h
  exact ⟨a, b, c, e _ _ e1, h1⟩
theorem Bx.ne {H : Hp} {p q : Addr} {n : Nat} (h : Bx H p n) (e : H q = none) : q ≠ p := by
  obtain ⟨a, b, c, e1, h1⟩ := h
  exact ne_back e1 e
theorem But.back {H H' : Hp} {p q : Addr} {n : Nat} (s : But p H H') (h : Bx H' p n) (e : H' q = none) : H q = none := by
  cases q1 : H q with
  | none => rfl
  | some o =>
    rw [s q o q1 (h.ne e)] at e
    cases e
theorem But.old {H0 H H' : Hp} {p : Addr} (hp : H0 p = none) (e : Ex H0 H) (s : But p H H') : Ex H0 H' := fun a o h => s a o (e a o h) (ne_of_none h hp)
theorem Is.but {H H' : Hp} {p : Addr} {v : V} {d : Kd} {n : Nat} (h : Is H v d) (B : Bx H p n) (s : But p H H') (hd : ∀ xs, d ≠ .lst xs) : Is H' v d := by
  obtain ⟨x, y, z, e, _⟩ := B
  cases d with
  | sc x => exact h
  | tup xs => obtain ⟨a, rfl, q⟩ := h; exact ⟨a, rfl, s _ _ q (ne_of q e (fun z => by cases z))⟩
  | lst xs => exact absurd rfl (hd xs)
  | dct xs => obtain ⟨a, rfl, q⟩ := h; exact ⟨a, rfl, s _ _ q (ne_of q e (fun z => by cases z))⟩
def sp_law_cell (K : PySem.W.Frag) : Sp := fun vs H Q _ => ∃ (a : Addr) (ns : List Int) (k : Int), vs = [.ref a, .int k] ∧ SqL K H a (ns.map V.int) ∧ 0 ≤ k ∧ k < 1000 ∧ ∀ n, Q (.int n) H
def sp_law_box (K : PySem.W.Frag) : Sp := fun vs H Q _ => ∃ n : Int, vs = [.int n] ∧ ∀ (p : Addr) (H' : Hp), H p = none → Ex H H' → Bx H' p 0 → Q (.ref p) H'
def sp_law_take (K : PySem.W.Frag) : Sp := fun vs H Q _ => ∃ (p : Addr) (m : Int) (n : Nat), vs = [.ref p, .int m] ∧ Bx H p n ∧ n < 4294967296 ∧ 0 < m ∧ m.natAbs.log2 < 9000 ∧
  ∀ (d : Int) (H' : Hp), But p H H' → Bx H' p (n + 1) → 0 ≤ d → d < m → Q (.int d) H'
end Z

/-! steps by tactics: walk_at "look" finds an object, walk_at "s" makes one step, walk_at "go" as many as there are -/
section
open PySem PySem.Spec PyProof.Rows L2 Evl Z
end
open Z in
local macro_rules | `(tactic| walk_at "ne") => `(tactic| first
  | assumption | (apply Ne.symm; assumption)
  | (refine L2.ne_of_none (H := ?H) (o := ?o) ?b ?f; case f => assumption; case b => walk_at "look")
  | (refine Z.ne_back (H := ?H) (o := ?o) ?b ?f; case f => assumption; case b => walk_at "look")
  | (refine Z.Bx.ne (H := ?H) (n := ?n) ?b ?f; (case f => assumption); (case b => walk_at "bx"))
  | (apply Ne.symm; refine Z.Bx.ne (H := ?H) (n := ?n) ?b ?f; (case f => assumption); (case b => walk_at "bx"))
  | (refine L2.ne_of (H := ?H) (o := ?o) (u := ?u) ?a ?b ?c; (case a => walk_at "look"); (case b => walk_at "look"); (case c => (intro z; cases z))))
local macro_rules | `(tactic| walk_at "bx") => `(tactic| first
  | assumption
  | (refine Z.Bx.ex ?_ (Evl.Ex.new (by assumption)); walk_at "bx"))
local macro_rules | `(tactic| walk_at "look") => `(tactic| first
  | assumption
  | exact L2.upd_same
  | (refine Z.look_new ?_ (by assumption); walk_at "look")
  | (refine Z.look_mut ?_ ?_; (walk_at "look"); (walk_at "ne"))
  | (refine Z.look_ex (by assumption) ?_; walk_at "look")
  | (refine Z.look_but (by assumption) ?_ ?_; (walk_at "look"); (walk_at "ne")))
local macro_rules | `(tactic| walk_at "len") => `(tactic| first | (show _ ≤ 16777216; decide) | (simp [L2.sizeLine_eq]; done) | (simp [L2.sizeLine_eq]; omega) | (rw [PyProof.Rows.sizeLine_eq]; omega))
local macro_rules | `(tactic| walk_at "s") => `(tactic| first
  | ((with_reducible refine Z.s_var (v := ?v) ?h ?q); (case h => rfl))
  | with_reducible refine Z.s_c ?_
  | with_reducible refine Z.s_op ?_
  | with_reducible refine Z.s_cons ?_
  | with_reducible refine Z.s_nil ?_
  | with_reducible refine Z.s_call ?_
  | with_reducible refine Z.s_cb ?_
  | with_reducible refine Z.s_seq ?_
  | with_reducible refine Z.s_asg ?_
  | with_reducible refine Z.s_gName ?_
  | with_reducible refine Z.s_ifS ?_
  | with_reducible refine Z.s_ret ?_
  | with_reducible refine Z.s_next ?_
  | with_reducible refine Z.s_drop ?_
  | with_reducible refine Z.s_test ?_
  | with_reducible refine Z.s_B ?_
  | with_reducible refine Z.s_bl ?_
  | with_reducible refine Z.s_int ?_
  | with_reducible refine Z.s_not ?_
  | with_reducible refine Z.s_and ?_
  | with_reducible refine Z.s_or ?_
  | with_reducible refine Z.s_yes ?_
  | with_reducible refine Z.s_notV ?_
  | with_reducible refine Z.s_andV ?_
  | with_reducible refine Z.s_orV ?_
  | with_reducible refine Z.s_if ?_
  | with_reducible refine Z.s_chain ?_
  | with_reducible refine L2.iteT ?_
  | with_reducible refine L2.iteF ?_
  | ((with_reducible refine Z.s_itet ?e ?h); (case e => first | rfl | assumption))
  | ((with_reducible refine Z.s_itef ?e ?h); (case e => first | rfl | assumption))
  | ((with_reducible refine Z.s_gTup (xs := ?xs) ?h ?n ?q); (case h => walk_at "look"); (case n => rfl))
  | with_reducible refine Z.s_gCons ?_
  | with_reducible refine Z.s_gNil ?_
  | with_reducible refine Z.s_gSub ?_
  | ((with_reducible refine Z.s_setL (xs := ?xs) (j := ?j) ?h ?n ?q); (case h => walk_at "look"); (case n => rfl))
  | with_reducible refine Z.s_par ?_
  | with_reducible refine Z.s_callS ?_
  | with_reducible refine Z.s_callP ?_
  | with_reducible refine Z.s_try ?_
  | with_reducible refine Z.s_xf ?_
  | with_reducible refine Z.s_addI ?_
  | with_reducible refine Z.s_subI ?_
  | with_reducible refine Z.s_ltI ?_
  | with_reducible refine Z.s_leI ?_
  | with_reducible refine Z.s_gtI ?_
  | with_reducible refine Z.s_geI ?_
  | with_reducible refine Z.s_isN ?_
  | with_reducible refine Z.s_notN ?_
  | with_reducible refine Z.s_isB ?_
  | with_reducible refine Z.s_notB ?_
  | with_reducible refine Z.s_un ?_
  | with_reducible refine Z.s_rU ?_
  | with_reducible refine Z.s_lst ?_
  | with_reducible refine Z.s_tup ?_
  | with_reducible refine Z.s_sl ?_
  | with_reducible refine Z.s_nopart ?_
  | with_reducible refine Z.s_part ?_
  | with_reducible refine Z.s_max2 ?_
  | with_reducible refine Z.s_min2 ?_
  | ((with_reducible refine Z.s_eqS ?_ ?_); rfl)
  | ((with_reducible refine Z.s_neS ?_ ?_); rfl)
  | ((with_reducible refine Z.s_powI ?_ ?_); (exact ⟨by decide, by decide, by decide⟩))
  | ((with_reducible refine Z.s_ixL (v := ?v) (xs := ?xs) ?h ?a ?q); (case h => walk_at "look"); (case a => rfl))
  | ((with_reducible refine Z.s_ixT (v := ?v) (xs := ?xs) ?h ?a ?q); (case h => walk_at "look"); (case a => rfl)))
local macro_rules | `(tactic| walk_at "go") => `(tactic| repeat (walk_at "s"))
local macro_rules | `(tactic| walk_at "al") => `(tactic| (refine ⟨?h, ?q⟩; (case h => (apply Z.len_ok; simp))))
local macro_rules | `(tactic| walk_at "menu") => `(tactic| (refine Z.s_menuL (xs := ?xs) ?h ?a ?b ?q; (case h => walk_at "look"); (case a => assumption); (case b => first | assumption | (simp; omega))))
local macro_rules | `(tactic| walk_at "but") => `(tactic| first
  | assumption
  | exact Z.But.refl
  | (refine Z.But.new ?_ (by assumption); walk_at "but")
  | (refine Z.But.ex ?_ (by assumption); walk_at "but")
  | (refine Z.But.trans ?_ (by assumption); walk_at "but"))
local macro_rules | `(tactic| walk_at "ex") => `(tactic| first
  | assumption
  | exact Evl.Ex.refl _
  | (refine Evl.Ex.trans ?_ (Evl.Ex.new (by assumption)); walk_at "ex")
  | (refine Evl.Ex.trans ?_ (by assumption); walk_at "ex"))

namespace Z
open PySem PySem.Spec PyProof.Rows L2 Evl
theorem q_bl {Q : VK} {H : Hp} {b b' : Bool} (h : Q (.bl b) H) (e : b' = b) : Q (.bl b') H := by
  rw [e]
  exact h
/-- what isinstance tells of int and not bool -/
theorem isIV_of {H : Hp} {v : V} {d : Kd} (h : Is H v d) : isIV v = (tyB "int" (tyN d) && !tyB "bool" (tyN d)) := by
  cases d with
  | sc x =>
    obtain ⟨rfl, hs⟩ := h
    cases v <;> first | (simp [isIV, tyB, tyN]; done) | cases hs
  | tup xs => obtain ⟨a, rfl, q⟩ := h; simp [isIV, tyB, tyN]
  | lst xs => obtain ⟨a, rfl, q⟩ := h; simp [isIV, tyB, tyN]
  | dct xs => obtain ⟨a, rfl, q⟩ := h; simp [isIV, tyB, tyN]
theorem limV_of (v : V) : limV v = (decide (v = .non) || isIV v) := by
  cases v <;> simp [limV, isIV]
theorem notTup {H : Hp} {v : V} {d : Kd} (h : Is H v d) (e : tyB "tuple" (tyN d) = false) : spD d = false := by
  cases d with
  | tup xs => cases e
  | _ => rfl
theorem isTup {H : Hp} {v : V} {d : Kd} (h : Is H v d) (e : tyB "tuple" (tyN d) = true) : ∃ a xs, v = .ref a ∧ d = .tup xs ∧ H a = some (.tup xs) := by
  cases d with
  | tup xs =>
    obtain ⟨a, rfl, q⟩ := h
    exact ⟨a, xs, rfl, rfl, q⟩
  | sc x =>
    obtain ⟨rfl, hs⟩ := h
    cases v <;> first | (simp [tyB, tyN] at e; done) | cases hs
  | lst xs => cases e
  | dct xs => cases e
theorem spL_ne {xs : List V} (h : xs.length ≠ 2) : spL xs = false := by
  match xs with
  | [] => rfl
  | [_] => rfl
  | [_, _] => exact absurd rfl h
  | _ :: _ :: _ :: _ => rfl
/-! a text's signs, each as a text -/
def signs (z : Str) : List V := z.cps.toList.map fun c => V.str ⟨#[c]⟩
theorem signs_len (z : Str) : (signs z).length = z.cps.size := by simp [signs]
theorem signs_at {z : Str} {i : Nat} {c : Nat} (h : z.cps[i]? = some c) : (signs z)[i]? = some (V.str ⟨#[c]⟩) := by
  simp [signs, h]
theorem walk_signs {z : Str} : Walk (Its z) (signs z).length (fun _ => True) (YAt (signs z)) := by
  rw [signs_len]
  exact walk_str.mono (fun _ h => h) fun i H x H' hi _ ⟨e, c, hc, hx⟩ => ⟨e, by rw [hx]; exact signs_at hc⟩
/-- a comprehension whose test and element leave the heap as it was but for what they add -/
theorem lc_pure {J : It} {G : Hp → Prop} {xs : List V} (w : Walk J xs.length G (YAt xs)) {i : Nat} {tt : TT} {te : TE} {σ : L2.St} {H : Hp} {Q : VK} {wi : TI} (p : V → Bool) (f : V → V)
    (hw : ∀ R : It → Hp → Prop, R J H → wi σ H R) (hG : ∀ H', Ex H H' → G H') (hx : xs.length < sizeLine)
    (ht : ∀ x ∈ xs, EvT tt ((wipe σ [i]).set i (some x)) H (p x)) (he : ∀ x ∈ xs, p x = true → Ev te ((wipe σ [i]).set i (some x)) H (f x))
    (q : ∀ D H2, H D = none → Ex H H2 → H2 D = some (.lst ((xs.filter p).map f)) → Q (.ref D) H2) : tLc wi (gName i) tt te [i] σ H Q := by
  refine hw _ fun D hD => ?_
  refine lc_it w (fun k H2 => Ex H H2 ∧ H2 D = some (.lst (((xs.take k).filter p).map f))) ⟨Ex.new hD, upd_same⟩ (fun k H2 _ h => hG H2 h.1) ?_ ?_
  · rintro k x H2 H' hk ⟨e, hd⟩ ⟨rfl, hxk⟩
    have hm : x ∈ xs := List.mem_of_getElem? hxk
    refine ⟨?_, ?_⟩
    · show ((wipe σ [i]).set i (some x)).set i none = wipe σ [i]
      unfold wipe
      simp [wipe]
    · refine ht x hm _ e _ fun H3 e3 => ?_
      have htk : xs.take (k + 1) = xs.take k ++ [x] := by
        rw [List.take_add_one, hxk]
        rfl
      cases c : p x with
      | false =>
        refine iteF ?_
        refine ⟨e.trans e3, ?_⟩
        rw [e3 _ _ hd, htk, List.filter_append]
        simp [c]
      | true =>
        refine iteT ?_
        refine he x hm c _ (e.trans e3) _ fun H4 e4 => ?_
        refine ⟨_, e4 _ _ (e3 _ _ hd), ?_, ?_, ?_⟩
        · have h1 : (((xs.take k).filter p).map f).length ≤ xs.length := by
            rw [List.length_map]
            exact Nat.le_trans (List.length_filter_le _ _) (by rw [List.length_take]; omega)
          omega
        · exact ((e.trans e3).trans e4).mut hD
        · rw [upd_same, htk, List.filter_append]
          simp [c]
  · rintro H2 ⟨e, hd⟩
    rw [List.take_length] at hd
    exact q D H2 hD e hd

/-- a sign among the letters -/
def inL : V → Bool
  | .str z => match z.cps.toList with
    | [c] => decide (c ∈ letters)
    | _ => false
  | _ => false
theorem inL_sign (c : Nat) : inL (.str ⟨#[c]⟩) = decide (c ∈ letters) := rfl
theorem iAny_str {K : PySem.W.Frag} {te : TE} {σ : L2.St} {H : Hp} {R : It → Hp → Prop} (h : te σ H fun v H1 => ∃ x, v = .str x ∧ R (Its x) H1) : iAny K te σ H R := .inr (.inr h)
theorem iAny_tup {K : PySem.W.Frag} {te : TE} {σ : L2.St} {H : Hp} {R : It → Hp → Prop} (h : te σ H fun x H1 => ∃ a, x = .ref a ∧ (∃ xs, SqT K H1 a xs) ∧ R (Itt K a) H1) : iAny K te σ H R := .inr (.inl h)
theorem iAny_lst {K : PySem.W.Frag} {te : TE} {σ : L2.St} {H : Hp} {R : It → Hp → Prop} (h : te σ H fun x H1 => ∃ a, x = .ref a ∧ (∃ xs, SqL K H1 a xs) ∧ R (Itl K a) H1) : iAny K te σ H R := .inl h
theorem filter_true {α : Type} (xs : List α) : xs.filter (fun _ => true) = xs := List.filter_eq_self.mpr fun _ _ => rfl
theorem signs_all (z : Str) (g : V → Bool) : (signs z).all g = z.cps.toList.all fun c => g (.str ⟨#[c]⟩) := by
  simp [signs, List.all_map, Function.comp_def]
theorem notStr {H : Hp} {v : V} {d : Kd} (h : Is H v d) (e : tyB "str" (tyN d) = false) : nmV v = false := by
  cases d with
  | sc x =>
    obtain ⟨rfl, hs⟩ := h
    cases v <;> first | rfl | (simp [tyB, tyN] at e; done) | cases hs
  | tup xs => obtain ⟨a, rfl, q⟩ := h; rfl
  | lst xs => obtain ⟨a, rfl, q⟩ := h; rfl
  | dct xs => obtain ⟨a, rfl, q⟩ := h; rfl
theorem isStr {H : Hp} {v : V} {d : Kd} (h : Is H v d) (e : tyB "str" (tyN d) = true) : ∃ z, v = .str z := by
  cases d with
  | sc x =>
    obtain ⟨rfl, hs⟩ := h
    cases v <;> first | exact ⟨_, rfl⟩ | (simp [tyB, tyN] at e; done) | cases hs
  | _ => simp [tyB, tyN] at e
theorem all_signs (z : Str) : ((signs z).map fun x => V.bl (inL x)) = ((signs z).map inL).map V.bl := by simp
theorem but_upd {p : Addr} {H : Hp} {o : HO} : But p H (upd H p o) := But.refl.set
def one (c : Nat) : Str := ⟨#[c]⟩
theorem ones_of {R : Nat → Prop} : ∀ {ys : List V}, (∀ y ∈ ys, ∃ c, y = .str (one c) ∧ R c) → ∃ cs : List Nat, ys = (cs.map one).map V.str ∧ (∀ c ∈ cs, R c) ∧ cs.length = ys.length
  | [], _ => ⟨[], rfl, (fun _ h => by cases h), rfl⟩
  | y :: ys, h => by
    obtain ⟨c, rfl, hc⟩ := h y (by simp)
    obtain ⟨cs, e, hr, hl⟩ := ones_of (ys := ys) fun z hz => h z (by simp [hz])
    refine ⟨c :: cs, by rw [e]; rfl, fun d hd => ?_, by simp [hl]⟩
    rcases List.mem_cons.mp hd with rfl | hd
    · exact hc
    · exact hr d hd
theorem sum_ones : ∀ cs : List Nat, ((cs.map one).map (·.length)).sum = cs.length
  | [] => rfl
  | c :: cs => by
    have e := sum_ones cs
    show (one c).length + ((cs.map one).map (·.length)).sum = cs.length + 1
    rw [e]
    show 1 + cs.length = cs.length + 1
    omega
section
variable {K : PySem.W.Frag} {σ : L2.St} {H : Hp} {Q : VK}
theorem s_joinOnes {p : Addr} {cs : List Nat} (h : H p = some (.lst ((cs.map one).map V.str))) (hl : cs.length ≤ 10000) (q : Q (.str ⟨cs.toArray⟩) H) : rJoinA K (.str ("" : Str)) [.ref p] H Q := by
  refine ⟨_, p, cs.map one, rfl, rfl, .inl (SqL.of h), ?_, ?_⟩
  · rw [sum_ones]
    show cs.length + (cs.map one).length * 0 ≤ 16777216
    omega
  · have e : Txt.join ("" : Str) (cs.map one) = ⟨cs.toArray⟩ := by
      show PySem.Builtin.Str.glued _ _ = _
      rw [PySem.StrLaws.glued_eq_join]
      exact join_ones cs
    rw [e]
    exact q
theorem s_bm {T : String} {r : V → List V → Hp → VK → Prop} {to : TE} {t : TA} (h : to σ H fun x H1 => tyV K T x H1 ∧ t σ H1 fun xs H2 => r x xs H2 Q) : tBM K T r to t σ H Q := h
theorem s_bm0 {T : String} {r : V → List V → Hp → VK → Prop} {to : TE} (h : to σ H fun x H1 => tyV K T x H1 ∧ r x [] H1 Q) : tBM0 K T r to σ H Q := h
theorem s_tyS {z : Str} {A : Prop} (h : A) : tyV K "str" (.str z) H ∧ A := ⟨rfl, h⟩
/-- a comprehension over a range whose element draws from the box at p, at most c draws an element -/
theorem lc_box {p : Addr} {n1 : Nat} {i : Nat} {te : TE} {wi : TI} (c mx : Nat) (P : V → Prop) (M : Nat → Prop) (hmx : ∀ m, M m → m ≤ mx) (hs : mx < sizeLine)
    (hw : ∀ R : It → Hp → Prop, (∀ m H1, But p H H1 → Bx H1 p n1 → M m → R (Itr 0 m) H1) → wi σ H R)
    (he : ∀ (j m : Nat) (H1 : Hp), j < m → M m → But p H H1 → Bx H1 p (n1 + j * c) → ∀ R : VK, (∀ y H2, But p H1 H2 → Bx H2 p (n1 + (j + 1) * c) → P y → R y H2) → te ((wipe σ [i]).set i (some (.int (0 + (j : Int))))) H1 R)
    (q : ∀ (D : Addr) (H2 : Hp) (ys : List V), But p H H2 → Bx H2 p (n1 + mx * c) → D ≠ p → H2 D = some (.lst ys) → M ys.length → (∀ y ∈ ys, P y) → Q (.ref D) H2) :
    tLc wi (gName i) tYes te [i] σ H Q := by
  refine hw _ fun m H0 b0 B0 hm D hD => ?_
  have nD : D ≠ p := B0.ne hD
  refine lc_range (lo := 0) (n := m) (fun k H2 => But p H0 H2 ∧ Bx H2 p (n1 + k * c) ∧ ∃ ys, H2 D = some (.lst ys) ∧ ys.length = k ∧ ∀ y ∈ ys, P y) ⟨But.refl.new hD, by simpa using B0.ex (Ex.new hD), [], upd_same, rfl, fun _ h => nomatch h⟩ ?_ ?_
  · rintro k H2 hk ⟨b, B2, ys, hy, hl, hp⟩
    refine ⟨?_, ?_⟩
    · show ((wipe σ [i]).set i (some (.int (0 + (k : Int))))).set i none = wipe σ [i]
      unfold wipe
      simp [wipe]
    · refine he k m H2 hk hm (b0.trans b) B2 _ fun y H3 b3 B3 py => ?_
      refine ⟨ys, b3 _ _ hy nD, ?_, fun a o h n => ?_, ?_, ys ++ [y], upd_same, by simp [hl], ?_⟩
      · have := hmx m hm
        omega
      · rw [upd_ne (ne_of_none h hD)]
        exact b3 _ _ (b _ _ h n) n
      · obtain ⟨x1, x2, x3, e1, e2⟩ := B3
        refine ⟨x1, x2, x3, ?_, e2⟩
        rw [upd_ne nD.symm]
        exact e1
      · intro z hz
        rcases List.mem_append.mp hz with hz | hz
        · exact hp z hz
        · rw [List.mem_singleton.mp hz]
          exact py
  · rintro H2 ⟨b, B2, ys, hy, hl, hp⟩
    subst hl
    refine q D H2 ys (b0.trans b) (B2.mono ?_) nD hy hm hp
    have := Nat.mul_le_mul_right c (hmx _ hm)
    omega
theorem iRng1_of {ta : TA} {R : It → Hp → Prop} (h : ta σ H fun vs H1 => ∃ j : Int, vs = [.int j] ∧ -(2 ^ 62) ≤ j ∧ j < 2 ^ 62 ∧ R (Itr 0 j.toNat) H1) : iRng1 ta σ H R := h
end
/-- a draw, for use -/
theorem u_take {K : PySem.W.Frag} {p : Addr} {m : Int} {n : Nat} {H : Hp} {Q : VK} {E : XK} (B : Bx H p n) (hn : n < 4294967296) (hm : 0 < m) (hl : m.natAbs.log2 < 9000)
    (k : ∀ (d : Int) (H' : Hp), But p H H' → Bx H' p (n + 1) → 0 ≤ d → d < m → Q (.int d) H') : sp_law_take K [.ref p, .int m] H Q E := ⟨p, m, n, rfl, B, hn, hm, hl, k⟩

theorem u_isint {K : PySem.W.Frag} {H : Hp} {Q : VK} {v : V} {E : XK} {b : Bool} (d : Kd) (h : Is H v d) (e : isIV v = b) (q : Q (.bl b) H) : sp_is_integer K [v] H Q E := ⟨v, d, rfl, h, by rw [e]; exact q⟩
theorem u_isname {K : PySem.W.Frag} {H : Hp} {Q : VK} {v : V} {E : XK} {b : Bool} (d : Kd) (h : Is H v d) (hs : smallV v) (e : nmV v = b) (q : ∀ H', Ex H H' → Q (.bl b) H') : sp_is_name K [v] H Q E := ⟨v, d, rfl, h, hs, by rw [e]; exact q⟩
theorem u_isspan {K : PySem.W.Frag} {H : Hp} {Q : VK} {v : V} {E : XK} {b : Bool} (d : Kd) (h : Is H v d) (hd : Deep H d) (e : spD d = b) (q : Q (.bl b) H) : sp_is_span K [v] H Q E := ⟨v, d, rfl, h, hd, by rw [e]; exact q⟩
section
variable {K : PySem.W.Frag} {σ : L2.St} {H : Hp} {Q : VK}
/-- [one for one in xs if not isinstance(one, bool)] of truths: empty -/
theorem lc_notBool {a : Addr} {bs : List Bool} {i j : Nat} (ha : H a = some (.lst (bs.map V.bl))) (hσ : σ[j]? = some (some (.ref a))) (hi : i < σ.length) (hl : bs.length ≤ 1000)
    (q : ∀ D H2, H D = none → Ex H H2 → H2 D = some (.lst []) → Q (.ref D) H2) : tLc (iAny K (tVar j)) (gName i) (tNot (tB (tCB (rIsi K) (tCons (tVar i) (tCons (tC (.ty "bool")) tNil))))) (tVar i) [i] σ H Q := by
  have hw : (wipe σ [i]).length = σ.length := wipe_length _ _
  refine lc_pure (walk_list (K := K) (a := a) (xs := bs.map V.bl)) (fun _ => false) (fun x => x) (fun R r => iAny_lst ⟨_, hσ, a, rfl, ⟨_, SqL.of ha⟩, r⟩) (fun H' e => SqL.of (e _ _ ha)) ?_ (fun x hx => ?_) (fun x hx h => absurd h Bool.false_ne_true) fun D H2 hD e hl => ?_
  · rw [List.length_map, sizeLine_eq]
    omega
  · obtain ⟨c, hc, rfl⟩ := List.mem_map.mp hx
    intro H1 e1 R r
    refine s_not (s_B (s_cb (s_cons ⟨_, by rw [List.getElem?_set_self (by rw [hw]; exact hi)], ?_⟩)))
    walk_at "go"
    refine s_isiT (d := .sc (.bl c)) kit_bool ⟨rfl, rfl⟩ ?_
    walk_at "go"
    exact r _ (Ex.refl _)
  · refine q D H2 hD e ?_
    rw [hl]
    simp
end
end Z

namespace Z
open PySem PySem.Spec PyProof.Rows L2 Evl
/-- the same where what is walked is made ahead -/
theorem lc_gen {P : It → Hp → Prop} {xs : List V} {i : Nat} {tt : TT} {te : TE} {σ : L2.St} {H : Hp} {Q : VK} {wi : TI} (p : V → Bool) (f : V → V) (hw : ∀ R : It → Hp → Prop, (∀ J H1, P J H1 → R J H1) → wi σ H R)
    (w : ∀ J H1, P J H1 → ∃ G : Hp → Prop, Walk J xs.length G (YAt xs) ∧ ∀ H', Ex H1 H' → G H') (hx : xs.length < sizeLine)
    (ht : ∀ J H1, P J H1 → ∀ x ∈ xs, EvT tt ((wipe σ [i]).set i (some x)) H1 (p x)) (he : ∀ J H1, P J H1 → ∀ x ∈ xs, p x = true → Ev te ((wipe σ [i]).set i (some x)) H1 (f x))
    (q : ∀ J H1 D H2, P J H1 → H1 D = none → Ex H1 H2 → H2 D = some (.lst ((xs.filter p).map f)) → Q (.ref D) H2) : tLc wi (gName i) tt te [i] σ H Q := by
  refine hw _ fun J H1 hp => ?_
  obtain ⟨G, w1, hG⟩ := w J H1 hp
  exact (lc_pure w1 p f (wi := fun _ H R => R J H) (fun R r => r) hG hx (ht J H1 hp) (he J H1 hp) (fun D H2 hD e hl => q J H1 D H2 hp hD e hl) : tLc (fun _ H R => R J H) (gName i) tt te [i] σ H1 Q)
/-- a new or a held tuple | list at hand -/
def AtT (K : PySem.W.Frag) (H : Hp) (xs : List V) (J : It) (H1 : Hp) : Prop := ∃ t, J = Itt K t ∧ H1 t = some (.tup xs) ∧ Ex H H1
def AtL (K : PySem.W.Frag) (H : Hp) (xs : List V) (J : It) (H1 : Hp) : Prop := ∃ t, J = Itl K t ∧ H1 t = some (.lst xs) ∧ Ex H H1
theorem AtT.w {K : PySem.W.Frag} {H : Hp} {xs : List V} : ∀ J H1, AtT K H xs J H1 → ∃ G : Hp → Prop, Walk J xs.length G (YAt xs) ∧ ∀ H', Ex H1 H' → G H' := by
  rintro _ H1 ⟨t, rfl, h, _⟩
  exact ⟨_, walk_tup (K := K) (a := t) (xs := xs), fun H' e => SqT.of (e _ _ h)⟩
theorem AtL.w {K : PySem.W.Frag} {H : Hp} {xs : List V} : ∀ J H1, AtL K H xs J H1 → ∃ G : Hp → Prop, Walk J xs.length G (YAt xs) ∧ ∀ H', Ex H1 H' → G H' := by
  rintro _ H1 ⟨t, rfl, h, _⟩
  exact ⟨_, walk_list (K := K) (a := t) (xs := xs), fun H' e => SqL.of (e _ _ h)⟩
end Z

/-! spans laid over one another: the plain law -/
namespace Z
open PySem PySem.Spec PyProof.Rows L2 Evl
def lo1 : V → Int → Bool
  | .int i, k => decide (i ≤ k)
  | _, _ => true
def hi1 : V → Int → Bool
  | .int j, k => decide (k < j)
  | _, _ => true
def hasV (l h : V) (k : Int) : Bool := lo1 l k && hi1 h k
def glV : V → V → V
  | .int i, .int j => .int (if i < j then j else i)
  | .non, y => y
  | x, _ => x
def llV : V → V → V
  | .int i, .int j => .int (if j < i then j else i)
  | .non, y => y
  | x, _ => x
theorem lim_cases {v : V} (h : limV v = true) : v = .non ∨ ∃ i, v = .int i := by
  cases v with
  | non => exact .inl rfl
  | int i => exact .inr ⟨i, rfl⟩
  | _ => cases h
theorem glV_lim {a b : V} (ha : limV a = true) (hb : limV b = true) : limV (glV a b) = true := by
  rcases lim_cases ha with rfl | ⟨i, rfl⟩ <;> rcases lim_cases hb with rfl | ⟨j, rfl⟩ <;> rfl
theorem llV_lim {a b : V} (ha : limV a = true) (hb : limV b = true) : limV (llV a b) = true := by
  rcases lim_cases ha with rfl | ⟨i, rfl⟩ <;> rcases lim_cases hb with rfl | ⟨j, rfl⟩ <;> rfl
theorem glV_comm {a b : V} (ha : limV a = true) (hb : limV b = true) : glV a b = glV b a := by
  rcases lim_cases ha with rfl | ⟨i, rfl⟩ <;> rcases lim_cases hb with rfl | ⟨j, rfl⟩ <;> try rfl
  show V.int _ = V.int _
  congr 1
  split <;> split <;> omega
theorem llV_comm {a b : V} (ha : limV a = true) (hb : limV b = true) : llV a b = llV b a := by
  rcases lim_cases ha with rfl | ⟨i, rfl⟩ <;> rcases lim_cases hb with rfl | ⟨j, rfl⟩ <;> try rfl
  show V.int _ = V.int _
  congr 1
  split <;> split <;> omega
theorem lo1_gl {a b : V} (k : Int) (ha : limV a = true) (hb : limV b = true) : lo1 (glV a b) k = (lo1 a k && lo1 b k) := by
  rcases lim_cases ha with rfl | ⟨i, rfl⟩ <;> rcases lim_cases hb with rfl | ⟨j, rfl⟩ <;> simp [lo1, glV]
  split <;> (rw [Bool.eq_iff_iff]; simp; omega)
theorem hi1_ll {a b : V} (k : Int) (ha : limV a = true) (hb : limV b = true) : hi1 (llV a b) k = (hi1 a k && hi1 b k) := by
  rcases lim_cases ha with rfl | ⟨i, rfl⟩ <;> rcases lim_cases hb with rfl | ⟨j, rfl⟩ <;> simp [hi1, llV]
  split <;> (rw [Bool.eq_iff_iff]; simp; omega)
theorem has_common {l1 h1 l2 h2 : V} (k : Int) (a : limV l1 = true) (b : limV h1 = true) (c : limV l2 = true) (d : limV h2 = true) : hasV (glV l1 l2) (llV h1 h2) k = (hasV l1 h1 k && hasV l2 h2 k) := by
  unfold hasV
  rw [lo1_gl k a c, hi1_ll k b d]
  cases lo1 l1 k <;> cases lo1 l2 k <;> cases hi1 h1 k <;> cases hi1 h2 k <;> rfl
def kOf : V → List Int
  | .int i => [i - 1, i, i + 1]
  | _ => []
theorem kOf_gl {a b : V} {k : Int} (h : k ∈ kOf (glV a b)) (ha : limV a = true) (hb : limV b = true) : k ∈ kOf a ∨ k ∈ kOf b := by
  rcases lim_cases ha with rfl | ⟨i, rfl⟩ <;> rcases lim_cases hb with rfl | ⟨j, rfl⟩ <;> simp only [glV] at h
  · exact .inl h
  · exact .inr h
  · exact .inl h
  · split at h
    · exact .inr h
    · exact .inl h
theorem kOf_ll {a b : V} {k : Int} (h : k ∈ kOf (llV a b)) (ha : limV a = true) (hb : limV b = true) : k ∈ kOf a ∨ k ∈ kOf b := by
  rcases lim_cases ha with rfl | ⟨i, rfl⟩ <;> rcases lim_cases hb with rfl | ⟨j, rfl⟩ <;> simp only [llV] at h
  · exact .inl h
  · exact .inr h
  · exact .inl h
  · split at h
    · exact .inr h
    · exact .inl h
theorem sp_hit {l h : V} (s : spL [l, h] = true) : ∃ k, (k = 0 ∨ k ∈ kOf l ∨ k ∈ kOf h) ∧ hasV l h k = true := by
  simp only [spL, Bool.and_eq_true] at s
  obtain ⟨a, b, c⟩ := s
  rcases lim_cases a with rfl | ⟨i, rfl⟩ <;> rcases lim_cases b with rfl | ⟨j, rfl⟩
  · exact ⟨0, .inl rfl, rfl⟩
  · exact ⟨j - 1, .inr (.inr (by simp [kOf])), by simp [hasV, lo1, hi1]; omega⟩
  · exact ⟨i, .inr (.inl (by simp [kOf])), by simp [hasV, lo1, hi1]⟩
  · exact ⟨i, .inr (.inl (by simp [kOf])), by simpa [hasV, lo1, hi1] using c⟩
theorem hit_sp {l h : V} {k : Int} (a : limV l = true) (b : limV h = true) (s : hasV l h k = true) : spL [l, h] = true := by
  rcases lim_cases a with rfl | ⟨i, rfl⟩ <;> rcases lim_cases b with rfl | ⟨j, rfl⟩ <;> simp_all [spL, hasV, lo1, hi1]
  omega
def keysOf (ps : List (V × V)) : List Int := 0 :: ps.flatMap fun p => kOf p.1 ++ kOf p.2
theorem spL_lim {l h : V} (s : spL [l, h] = true) : limV l = true ∧ limV h = true := by
  simp only [spL, Bool.and_eq_true] at s
  exact ⟨s.1, s.2.1⟩
theorem mem_keys {ps : List (V × V)} {p : V × V} {k : Int} (hp : p ∈ ps) (h : k ∈ kOf p.1 ∨ k ∈ kOf p.2) : k ∈ keysOf ps := by
  unfold keysOf
  refine List.mem_cons_of_mem _ (List.mem_flatMap.mpr ⟨p, hp, ?_⟩)
  rw [List.mem_append]
  exact h
/-- two spans meet where one of the keys lies in both -/
theorem meet_iff {l1 h1 l2 h2 : V} (s1 : spL [l1, h1] = true) (s2 : spL [l2, h2] = true) :
    spL [glV l1 l2, llV h1 h2] = ((keysOf [(l1, h1), (l2, h2)]).filter fun k => hasV l1 h1 k && hasV l2 h2 k).isEmpty.not := by
  obtain ⟨a, b⟩ := spL_lim s1
  obtain ⟨c, d⟩ := spL_lim s2
  rw [Bool.eq_iff_iff]
  constructor
  · intro s
    obtain ⟨k, hk, hh⟩ := sp_hit s
    rw [has_common k a b c d] at hh
    have hm : k ∈ keysOf [(l1, h1), (l2, h2)] := by
      rcases hk with rfl | hk | hk
      · exact List.mem_cons_self ..
      · rcases kOf_gl hk a c with q | q
        · exact mem_keys (p := (l1, h1)) (by simp) (.inl q)
        · exact mem_keys (p := (l2, h2)) (by simp) (.inl q)
      · rcases kOf_ll hk b d with q | q
        · exact mem_keys (p := (l1, h1)) (by simp) (.inr q)
        · exact mem_keys (p := (l2, h2)) (by simp) (.inr q)
    have hm2 : k ∈ (keysOf [(l1, h1), (l2, h2)]).filter fun k => hasV l1 h1 k && hasV l2 h2 k := List.mem_filter.mpr ⟨hm, hh⟩
    cases e : (keysOf [(l1, h1), (l2, h2)]).filter fun k => hasV l1 h1 k && hasV l2 h2 k with
    | nil => rw [e] at hm2; cases hm2
    | cons _ _ => rfl
  · intro s
    cases e : (keysOf [(l1, h1), (l2, h2)]).filter fun k => hasV l1 h1 k && hasV l2 h2 k with
    | nil => rw [e] at s; cases s
    | cons k r =>
      have hm : k ∈ (keysOf [(l1, h1), (l2, h2)]).filter fun k => hasV l1 h1 k && hasV l2 h2 k := by rw [e]; simp
      have hh := (List.mem_filter.mp hm).2
      rw [← has_common k a b c d] at hh
      exact hit_sp (glV_lim a c) (llV_lim b d) hh
theorem keys_lim {ps : List (V × V)} : (keysOf ps).length ≤ 1 + 6 * ps.length := by
  have h3 : ∀ v, (kOf v).length ≤ 3 := fun v => by cases v <;> simp [kOf]
  induction ps with
  | nil => simp [keysOf]
  | cons p ps ih =>
    have a := h3 p.1
    have b := h3 p.2
    simp only [keysOf, List.flatMap_cons, List.length_cons, List.length_append] at ih ⊢
    omega
end Z

namespace Z
open PySem PySem.Spec PyProof.Rows L2 Evl
def sp_need_span (K : PySem.W.Frag) : Sp := fun vs H Q E => ∃ v d, vs = [v] ∧ Is H v d ∧ Deep H d ∧ (spD d = true → Q .non H) ∧ (spD d = false → Rz K "InvalidSpan" "value" v H E)
def sp_need_key (K : PySem.W.Frag) : Sp := fun vs H Q E => ∃ v d, vs = [v] ∧ Is H v d ∧ (isIV v = true → Q .non H) ∧ (isIV v = false → Rz K "InvalidKey" "value" v H E)
/-- at a: the pair of limits l, h -/
def Pr (H : Hp) (a : Addr) (l h : V) : Prop := H a = some (.tup [l, h]) ∧ limV l = true ∧ limV h = true
theorem Pr.ex {H H' : Hp} {a : Addr} {l h : V} (p : Pr H a l h) (e : Ex H H') : Pr H' a l h := ⟨e _ _ p.1, p.2⟩
def sp_has_key (K : PySem.W.Frag) : Sp := fun vs H Q _ => ∃ (a : Addr) (l h : V) (k : Int), vs = [.ref a, .int k] ∧ Pr H a l h ∧ Q (.bl (hasV l h k)) H
def sp_law_has := sp_has_key
def sp_in_span (K : PySem.W.Frag) : Sp := fun vs H Q E => ∃ v1 d1 v2 d2, vs = [v1, v2] ∧ Is H v1 d1 ∧ Deep H d1 ∧ Is H v2 d2 ∧ (spD d1 = false → Rz K "InvalidSpan" "value" v1 H E) ∧ (spD d1 = true → isIV v2 = false → Rz K "InvalidKey" "value" v2 H E) ∧
  (∀ l h k, d1 = .tup [l, h] → spL [l, h] = true → v2 = .int k → Q (.bl (hasV l h k)) H)
def sp_greater_limit (K : PySem.W.Frag) : Sp := fun vs H Q _ => ∃ x y, vs = [x, y] ∧ limV x = true ∧ limV y = true ∧ ∀ H', Ex H H' → Q (glV x y) H'
def sp_lesser_limit (K : PySem.W.Frag) : Sp := fun vs H Q _ => ∃ x y, vs = [x, y] ∧ limV x = true ∧ limV y = true ∧ ∀ H', Ex H H' → Q (llV x y) H'
/-- what common gives -/
def Com (H : Hp) (r : V) (l h : V) : Prop := if spL [l, h] = true then ∃ a, r = .ref a ∧ H a = some (.tup [l, h]) else r = .non
def sp_common (K : PySem.W.Frag) : Sp := fun vs H Q E => ∃ v1 d1 v2 d2, vs = [v1, v2] ∧ Is H v1 d1 ∧ Deep H d1 ∧ Is H v2 d2 ∧ Deep H d2 ∧ (spD d1 = false → Rz K "InvalidSpan" "value" v1 H E) ∧ (spD d1 = true → spD d2 = false → Rz K "InvalidSpan" "value" v2 H E) ∧
  (∀ l1 h1 l2 h2, d1 = .tup [l1, h1] → d2 = .tup [l2, h2] → spL [l1, h1] = true → spL [l2, h2] = true → ∀ r H', Ex H H' → Com H' r (glV l1 l2) (llV h1 h2) → Q r H')
def sp_meet (K : PySem.W.Frag) : Sp := fun vs H Q E => ∃ v1 d1 v2 d2, vs = [v1, v2] ∧ Is H v1 d1 ∧ Deep H d1 ∧ Is H v2 d2 ∧ Deep H d2 ∧ (spD d1 = false → Rz K "InvalidSpan" "value" v1 H E) ∧ (spD d1 = true → spD d2 = false → Rz K "InvalidSpan" "value" v2 H E) ∧
  (∀ l1 h1 l2 h2, d1 = .tup [l1, h1] → d2 = .tup [l2, h2] → spL [l1, h1] = true → spL [l2, h2] = true → ∀ H', Ex H H' → Q (.bl (spL [glV l1 l2, llV h1 h2])) H')
def sp_law_span (K : PySem.W.Frag) : Sp := fun vs H Q _ => ∃ (p : Addr) (n : Nat), vs = [.ref p] ∧ Bx H p n ∧ n ≤ 100000 ∧ ∀ (a : Addr) (l h : V) (H' : Hp), But p H H' → Bx H' p (n + 4) → H' a = some (.tup [l, h]) → spL [l, h] = true → Q (.ref a) H'
/-- a list of pairs -/
def Prs (H : Hp) (s : Addr) (as : List (Addr × (V × V))) : Prop := H s = some (.lst (as.map fun x => .ref x.1)) ∧ ∀ x ∈ as, Pr H x.1 x.2.1 x.2.2
def sp_law_keys (K : PySem.W.Frag) : Sp := fun vs H Q _ => ∃ (s : Addr) (as : List (Addr × (V × V))), vs = [.ref s] ∧ Prs H s as ∧ as.length ≤ 3 ∧
  ∀ (r : Addr) (H' : Hp), Ex H H' → H' r = some (.lst ((keysOf (as.map (·.2))).map V.int)) → Q (.ref r) H'
/-- what the law's telling is asked for: always a refusal -/
def sp_law_told (K : PySem.W.Frag) : Sp := fun vs H Q _ => ∃ (way : Int) (v1 v2 : V) (d1 d2 : Kd), vs = [.int way, v1, v2] ∧ 0 ≤ way ∧ way ≤ 2 ∧ Is H v1 d1 ∧ Deep H d1 ∧ Is H v2 d2 ∧ Deep H d2 ∧
  ∃ (s : Str) (v : V), ((spD d1 = false ∧ s = "span" ∧ v = v1) ∨ (spD d1 = true ∧ 1 ≤ way ∧ spD d2 = false ∧ s = "span" ∧ v = v2) ∨ (spD d1 = true ∧ way = 0 ∧ isIV v2 = false ∧ s = "key" ∧ v = v2)) ∧
  ∀ (p : Addr) (H' : Hp), Ex H H' → H' p = some (.lst [.str s, v]) → Q (.ref p) H'
def sp_law_same (K : PySem.W.Frag) : Sp := fun vs H Q _ => ∃ (t a b : Addr) (l1 h1 l2 h2 : V), vs = [.ref t, .ref a, .ref b] ∧ Pr H a l1 h1 ∧ Pr H b l2 h2 ∧ Pr H t (glV l1 l2) (llV h1 h2) ∧ ∀ H', Ex H H' → Q (.bl true) H'
def sp_law_right (K : PySem.W.Frag) : Sp := fun vs H Q _ => ∃ (a b : Addr) (l1 h1 l2 h2 : V), vs = [.ref a, .ref b] ∧ H a = some (.tup [l1, h1]) ∧ H b = some (.tup [l2, h2]) ∧ spL [l1, h1] = true ∧ spL [l2, h2] = true ∧ ∀ H', Ex H H' → Q (.bl true) H'
def sp_law (K : PySem.W.Frag) : Sp := fun vs H Q _ => ∃ (a : Addr) (ns : List Int), vs = [.ref a] ∧ SqL K H a (ns.map V.int) ∧ ns.length ≤ 63 ∧ ∀ H', Q (.bl true) H'
end Z

namespace Z
open PySem PySem.Spec PyProof.Rows L2 Evl
/-! ### readings (gen.py) -/
structure Exm (K : PySem.W.Frag) : Prop where
  e_InvalidKey_InvalidKey : PySem.W.exmOne K (.ref (He.ga K "InvalidKey")) (.ref (He.ga K "InvalidKey")) = some true
  e_InvalidKey_InvalidSpan : PySem.W.exmOne K (.ref (He.ga K "InvalidKey")) (.ref (He.ga K "InvalidSpan")) = some false
  e_InvalidSpan_InvalidKey : PySem.W.exmOne K (.ref (He.ga K "InvalidSpan")) (.ref (He.ga K "InvalidKey")) = some false
  e_InvalidSpan_InvalidSpan : PySem.W.exmOne K (.ref (He.ga K "InvalidSpan")) (.ref (He.ga K "InvalidSpan")) = some true
def t_is_integer (K : PySem.W.Frag) : TS :=
  (tRet ((tAndV (tCB (rIsi K) (tCons (tVar 0) (tCons (tC (.ty "int")) tNil))) (tNotV (tCB (rIsi K) (tCons (tVar 0) (tCons (tC (.ty "bool")) tNil)))))))
def t_is_limit (K : PySem.W.Frag) : TS :=
  (tRet ((tOrV (tOp rIsA (tVar 0) (tC .non)) (tCall (sp_is_integer K) [] E0 (tCons (tVar 0) tNil)))))
def t_is_span (K : PySem.W.Frag) : TS :=
  (tSeq (tIfS ((tOr (tNot (tB (tCB (rIsi K) (tCons (tVar 0) (tCons (tC (.ty "tuple")) tNil))))) (tTest (tOp (rNeA K) (tCB (rLenA K) (tCons (tVar 0) tNil)) (tC (.int 2)))))) (tRet (tC (.bl false))) tNext)
    (tSeq (tAsg (tVar 0) (gTup K 2 (gCons (gName 1) (gCons (gName 2) gNil))))
    (tSeq (tIfS ((tOr (tNot (tB (tCall (sp_is_limit K) [] E0 (tCons (tVar 1) tNil)))) (tNot (tB (tCall (sp_is_limit K) [] E0 (tCons (tVar 2) tNil)))))) (tRet (tC (.bl false))) tNext)
    (tRet ((tOrV (tOp rIsA (tVar 1) (tC .non)) (tOrV (tOp rIsA (tVar 2) (tC .non)) (tOp rLtA (tVar 1) (tVar 2)))))))))
def t_need_span (K : PySem.W.Frag) (E : XK) : TS :=
  (tIfS (tNot (tB (tCall (sp_is_span K) [] E0 (tCons (tVar 0) tNil)))) (tRaisevalue (He.ga K "InvalidSpan") (fun cls d _ H => E cls d H) (tCons (tVar 0) tNil)) tNext)
def t_need_key (K : PySem.W.Frag) (E : XK) : TS :=
  (tIfS (tNot (tB (tCall (sp_is_integer K) [] E0 (tCons (tVar 0) tNil)))) (tRaisevalue (He.ga K "InvalidKey") (fun cls d _ H => E cls d H) (tCons (tVar 0) tNil)) tNext)
def t_has_key (K : PySem.W.Frag) : TS :=
  (tSeq (tAsg (tVar 0) (gTup K 2 (gCons (gName 2) (gCons (gName 3) gNil))))
    (tRet ((tAndV ((tOrV (tOp rIsA (tVar 2) (tC .non)) (tOp rLeA (tVar 2) (tVar 1)))) ((tOrV (tOp rIsA (tVar 3) (tC .non)) (tOp rLtA (tVar 1) (tVar 3))))))))
def t_in_span (K : PySem.W.Frag) (E : XK) : TS :=
  (tSeq (tDrop (tCallS (sp_need_span K) (WE (fun cls d _ H => E cls d H)) (tCons (tVar 0) tNil)))
    (tSeq (tDrop (tCallS (sp_need_key K) (WE (fun cls d _ H => E cls d H)) (tCons (tVar 1) tNil)))
    (tRet (tCall (sp_has_key K) [] E0 (tCons (tVar 0) (tCons (tVar 1) tNil))))))
def t_greater_limit (K : PySem.W.Frag) : TS :=
  (tSeq (tIfS ((tOr (tTest (tOp rIsA (tVar 0) (tC .non))) (tTest (tOp rIsA (tVar 1) (tC .non))))) (tRet (tIf (tTest (tOp rIsA (tVar 0) (tC .non))) (tVar 1) (tVar 0))) tNext)
    (tRet (tCB (rMaxA K) (tCons (tLst (tCons (tVar 0) (tCons (tVar 1) tNil))) tNil))))
def t_lesser_limit (K : PySem.W.Frag) : TS :=
  (tSeq (tIfS ((tOr (tTest (tOp rIsA (tVar 0) (tC .non))) (tTest (tOp rIsA (tVar 1) (tC .non))))) (tRet (tIf (tTest (tOp rIsA (tVar 0) (tC .non))) (tVar 1) (tVar 0))) tNext)
    (tRet (tCB (rMinA K) (tCons (tLst (tCons (tVar 0) (tCons (tVar 1) tNil))) tNil))))
def t_common (K : PySem.W.Frag) (E : XK) : TS :=
  (tSeq (tDrop (tCallS (sp_need_span K) (WE (fun cls d _ H => E cls d H)) (tCons (tVar 0) tNil)))
    (tSeq (tDrop (tCallS (sp_need_span K) (WE (fun cls d _ H => E cls d H)) (tCons (tVar 1) tNil)))
    (tSeq (tAsg (tTup (tCons (tCall (sp_greater_limit K) [] E0 (tCons (tOp (rIx K) (tVar 0) (tC (.int 0))) (tCons (tOp (rIx K) (tVar 1) (tC (.int 0))) tNil))) (tCons (tCall (sp_lesser_limit K) [] E0 (tCons (tOp (rIx K) (tVar 0) (tC (.int 1))) (tCons (tOp (rIx K) (tVar 1) (tC (.int 1))) tNil))) tNil))) (gName 2))
    (tRet (tIf (tB (tCall (sp_is_span K) [] E0 (tCons (tVar 2) tNil))) (tVar 2) (tC .non))))))
def t_meet (K : PySem.W.Frag) (E : XK) : TS :=
  (tRet (tOp rNotA (tCallS (sp_common K) (WE (fun cls d _ H => E cls d H)) (tCons (tVar 0) (tCons (tVar 1) tNil))) (tC .non)))
def t_law_cell (K : PySem.W.Frag) : TS :=
  (tSeq (tIfS (tTest (tOp rLtA (tVar 1) (tCB (rLenA K) (tCons (tVar 0) tNil)))) (tRet (tOp (rIx K) (tVar 0) (tVar 1))) tNext)
    (tRet (tOp (rAddA K) (tOp rMulA (tC (.int 7919)) (tVar 1)) (tC (.int 131)))))
def t_law_box (K : PySem.W.Frag) : TS :=
  (tRet (tLst (tCons (tCB (rMaxA K) (tCons (tC (.int 0)) (tCons (tOp rSubA (tVar 0) (tOp rPowA (tC (.int 10)) (tC (.int 18)))) tNil))) (tCons (tOp rModA (tVar 0) (tC (.int 2147483629))) (tCons (tC (.int 0)) tNil)))))
def t_law_take (K : PySem.W.Frag) : TS :=
  (tSeq (tIfS (tTest (tOp rGtA (tOp (rIx K) (tVar 0) (tC (.int 0))) (tC (.int 0)))) (tSeq (tAsg (tOp rModA (tOp (rIx K) (tVar 0) (tC (.int 0))) (tVar 1)) (gName 2))
    (tSeq (tAsg (tOp rDivA (tOp (rIx K) (tVar 0) (tC (.int 0))) (tVar 1)) (gSub (tVar 0) (tC (.int 0)) rSetL))
    (tRet (tVar 2)))) tNext)
    (tSeq (tAsg (tOp (rAddA K) (tOp (rIx K) (tVar 0) (tC (.int 2))) (tC (.int 1))) (gSub (tVar 0) (tC (.int 2)) rSetL))
    (tSeq (tAsg (tOp rModA (tOp rPowA (tOp (rAddA K) (tOp (rAddA K) (tOp (rIx K) (tVar 0) (tC (.int 1))) (tOp rMulA (tC (.int 7919)) (tOp (rIx K) (tVar 0) (tC (.int 2))))) (tC (.int 43))) (tC (.int 5))) (tC (.int 2147483647))) (gName 3))
    (tSeq (tAsg (tOp rModA (tOp rPowA (tOp (rAddA K) (tVar 3) (tOp rMulA (tC (.int 104729)) (tOp (rIx K) (tVar 0) (tC (.int 2))))) (tC (.int 3))) (tC (.int 2147483587))) (gName 3))
    (tRet (tOp rModA (tOp rDivA (tVar 3) (tC (.int 8))) (tVar 1)))))))
def t_law_has (K : PySem.W.Frag) : TS :=
  (tRet ((tAndV ((tOrV (tOp rIsA (tOp (rIx K) (tVar 0) (tC (.int 0))) (tC .non)) (tOp rLeA (tOp (rIx K) (tVar 0) (tC (.int 0))) (tVar 1)))) ((tOrV (tOp rIsA (tOp (rIx K) (tVar 0) (tC (.int 1))) (tC .non)) (tOp rLtA (tVar 1) (tOp (rIx K) (tVar 0) (tC (.int 1)))))))))
def t_law_span (K : PySem.W.Frag) : TS :=
  (tSeq (tAsg (tOp (rIx K) (tLst (tCons (tC (.int 1)) (tCons (tC (.int 1)) (tCons (tOp rPowA (tC (.int 10)) (tC (.int 28))) tNil)))) (tCall (sp_law_take K) [] E0 (tCons (tVar 0) (tCons (tC (.int 3)) tNil)))) (gName 1))
    (tSeq (tAsg (tOp rMulA (tOp rSubA (tCall (sp_law_take K) [] E0 (tCons (tVar 0) (tCons (tC (.int 13)) tNil))) (tC (.int 6))) (tVar 1)) (gName 2))
    (tSeq (tAsg (tOp (rAddA K) (tVar 2) (tOp rMulA (tOp (rAddA K) (tC (.int 1)) (tCall (sp_law_take K) [] E0 (tCons (tVar 0) (tCons (tC (.int 5)) tNil)))) (tVar 1))) (gName 3))
    (tRet (tOp (rIx K) (tLst (tCons (tTup (tCons (tVar 2) (tCons (tVar 3) tNil))) (tCons (tTup (tCons (tVar 2) (tCons (tVar 3) tNil))) (tCons (tTup (tCons (tC .non) (tCons (tVar 3) tNil))) (tCons (tTup (tCons (tVar 2) (tCons (tC .non) tNil))) (tCons (tTup (tCons (tC .non) (tCons (tC .non) tNil))) tNil)))))) (tCall (sp_law_take K) [] E0 (tCons (tVar 0) (tCons (tC (.int 5)) tNil))))))))
def t_law_keys (K : PySem.W.Frag) : TS :=
  (tSeq (tAsg (tLst (tCons (tC (.int 0)) tNil)) (gName 1))
    (tSeq (tFor (iAny K (tVar 0)) (gName 2) (tFor (iAny K (tVar 2)) (gName 3) (tIfS (tTest (tOp rNotA (tVar 3) (tC .non))) (tAsg (tOp (rAddA K) (tVar 1) (tLst (tCons (tOp rSubA (tVar 3) (tC (.int 1))) (tCons (tVar 3) (tCons (tOp (rAddA K) (tVar 3) (tC (.int 1))) tNil))))) (gName 1)) tNext)))
    (tRet (tVar 1))))
def t_law_told (K : PySem.W.Frag) : TS :=
  (tTry K (fun W => (tSeq (tIfS (tTest (tOp (rEqA K) (tVar 0) (tC (.int 0)))) (tRet (tLst (tCons (tC (.str "told")) (tCons (tCallS (sp_in_span K) (WE W) (tCons (tVar 1) (tCons (tVar 2) tNil))) tNil)))) tNext)
    (tSeq (tIfS (tTest (tOp (rEqA K) (tVar 0) (tC (.int 1)))) (tRet (tLst (tCons (tC (.str "told")) (tCons (tCallS (sp_meet K) (WE W) (tCons (tVar 1) (tCons (tVar 2) tNil))) tNil)))) tNext)
    (tRet (tLst (tCons (tC (.str "told")) (tCons (tCallP [1, 0] 0 2 (sp_common K) (WE W) tNil (tCons (tVar 2) (tCons (tVar 1) tNil))) tNil))))))) (fun _ _ _ _ => False) ((.ref (He.ga K "InvalidSpan"), some 3, fun a cls d => (tRet (tLst (tCons (tC (.str "span")) (tCons (tXf a cls d (He.ga K "InvalidSpan") "value" (tVar 3)) tNil))))) :: ((.ref (He.ga K "InvalidKey"), some 3, fun a cls d => (tRet (tLst (tCons (tC (.str "key")) (tCons (tXf a cls d (He.ga K "InvalidKey") "value" (tVar 3)) tNil))))) :: ([]))))
def t_law_same (K : PySem.W.Frag) : TS :=
  (tSeq (tFor (iAny K (tCall (sp_law_keys K) [] E0 (tCons (tLst (tCons (tVar 0) (tCons (tVar 1) (tCons (tVar 2) tNil)))) tNil))) (gName 3) (tIfS (tTest (tOp (rNeA K) (tCall (sp_law_has K) [] E0 (tCons (tVar 0) (tCons (tVar 3) tNil))) ((tAndV (tCall (sp_law_has K) [] E0 (tCons (tVar 1) (tCons (tVar 3) tNil))) (tCall (sp_law_has K) [] E0 (tCons (tVar 2) (tCons (tVar 3) tNil))))))) (tRet (tC (.bl false))) tNext))
    (tSeq (tAsg (tLc (iAny K (tOp (rAddA K) (tVar 1) (tVar 2))) (gName 5) (tTest (tOp rNotA (tVar 5) (tC .non))) (tVar 5) [5]) (gName 4))
    (tRet (tOp (rEqA K) (tLc (iAny K (tVar 0)) (gName 5) ((tAnd (tTest (tOp rNotA (tVar 5) (tC .non))) (tTest (tOp (rNinA K) (tVar 5) (tVar 4))))) (tVar 5) [5]) (tLst tNil)))))
def t_law_right (K : PySem.W.Frag) : TS :=
  (tSeq (tAsg (tCall (sp_law_keys K) [] E0 (tCons (tLst (tCons (tVar 0) (tCons (tVar 1) tNil))) tNil)) (gName 2))
    (tSeq (tAsg (tLc (iAny K (tVar 2)) (gName 4) ((tAnd (tB (tCall (sp_law_has K) [] E0 (tCons (tVar 0) (tCons (tVar 4) tNil)))) (tB (tCall (sp_law_has K) [] E0 (tCons (tVar 1) (tCons (tVar 4) tNil)))))) (tVar 4) [4]) (gName 3))
    (tSeq (tFor (iAny K (tVar 2)) (gName 4) (tSeq (tAsg (tLst (tCons (tCall (sp_in_span K) [] E0 (tCons (tVar 0) (tCons (tVar 4) tNil))) (tCons (tCallP [1, 0] 0 2 (sp_in_span K) (fun _ => E0) tNil (tCons (tVar 4) (tCons (tVar 1) tNil))) tNil))) (gName 5))
    (tSeq (tIfS (tTest (tOp (rNeA K) (tLc (iAny K (tVar 5)) (gName 7) (tNot (tB (tCB (rIsi K) (tCons (tVar 7) (tCons (tC (.ty "bool")) tNil))))) (tVar 7) [7]) (tLst tNil))) (tRet (tC (.bl false))) tNext)
    (tIfS (tTest (tOp (rNeA K) (tVar 5) (tLst (tCons (tCall (sp_law_has K) [] E0 (tCons (tVar 0) (tCons (tVar 4) tNil))) (tCons (tCall (sp_law_has K) [] E0 (tCons (tVar 1) (tCons (tVar 4) tNil))) tNil))))) (tRet (tC (.bl false))) tNext))))
    (tSeq (tIfS ((tOr (tNot (tB (tCB (rIsi K) (tCons (tCall (sp_meet K) [] E0 (tCons (tVar 0) (tCons (tVar 1) tNil))) (tCons (tC (.ty "bool")) tNil))))) (tTest (tOp (rNeA K) (tCall (sp_meet K) [] E0 (tCons (tVar 0) (tCons (tVar 1) tNil))) (tOp (rNeA K) (tVar 3) (tLst tNil)))))) (tRet (tC (.bl false))) tNext)
    (tSeq (tAsg (tCall (sp_common K) [] E0 (tCons (tVar 0) (tCons (tVar 1) tNil))) (gName 5))
    (tSeq (tIfS ((tOr (tTest (tOp rIsA (tVar 5) (tC .non))) (tTest (tOp (rEqA K) (tVar 3) (tLst tNil))))) (tRet ((tAndV (tOp rIsA (tVar 5) (tC .non)) (tOp (rEqA K) (tVar 3) (tLst tNil))))) tNext)
    (tSeq (tIfS ((tOr (tNot (tB (tCB (rIsi K) (tCons (tVar 5) (tCons (tC (.ty "tuple")) tNil))))) (tOr (tTest (tOp (rNeA K) (tCB (rLenA K) (tCons (tVar 5) tNil)) (tC (.int 2)))) (tTest (tOp (rNeA K) (tCall (sp_common K) [] E0 (tCons (tVar 1) (tCons (tVar 0) tNil))) (tVar 5)))))) (tRet (tC (.bl false))) tNext)
    (tSeq (tAsg (tLc (iAny K (tOp (rAddA K) (tVar 2) (tCall (sp_law_keys K) [] E0 (tCons (tLst (tCons (tVar 5) tNil)) tNil)))) (gName 4) (tB (tCall (sp_law_has K) [] E0 (tCons (tVar 5) (tCons (tVar 4) tNil)))) (tVar 4) [4]) (gName 6))
    (tRet ((tAndV (tOp (rNeA K) (tVar 6) (tLst tNil)) (tCall (sp_law_same K) [] E0 (tCons (tVar 5) (tCons (tVar 0) (tCons (tVar 1) tNil)))))))))))))))
def t_law (K : PySem.W.Frag) : TS :=
  (tSeq (tFor (iRng1 (tCons (tCB (rMaxA K) (tCons (tC (.int 2)) (tCons (tCB (rMinA K) (tCons (tC (.int 16)) (tCons (tCB (rLenA K) (tCons (tVar 0) tNil)) tNil))) tNil))) tNil)) (gName 1) (tSeq (tAsg (tCall (sp_law_box K) [] E0 (tCons (tCall (sp_law_cell K) [] E0 (tCons (tVar 0) (tCons (tVar 1) tNil))) tNil)) (gName 2))
    (tSeq (tPar 3 4 (tCons (tCall (sp_law_span K) [] E0 (tCons (tVar 2) tNil)) (tCons (tCall (sp_law_span K) [] E0 (tCons (tVar 2) tNil)) tNil)))
    (tSeq (tIfS (tNot (tB (tCall (sp_law_right K) [] E0 (tCons (tVar 3) (tCons (tVar 4) tNil))))) (tRet (tC (.bl false))) tNext)
    (tSeq (tAsg (tOp (rIx K) (tLst (tCons (tC .non) (tCons (tC (.int 5)) (tCons (tLst (tCons (tC (.int 1)) (tCons (tC (.int 2)) tNil))) (tCons (tTup (tCons (tC (.int 2)) (tCons (tC (.int 2)) tNil))) (tCons (tTup (tCons (tC (.int 3)) (tCons (tC (.int 2)) tNil))) (tCons (tTup (tCons (tC (.int 1)) (tCons (tC (.bl true)) tNil))) (tCons (tC (.str "1..2")) (tCons (tTup tNil) tNil))))))))) (tCall (sp_law_take K) [] E0 (tCons (tVar 2) (tCons (tC (.int 8)) tNil)))) (gName 5))
    (tSeq (tAsg (tOp (rIx K) (tLst (tCons (tC (.str "..")) (tCons (tDNewK) (tCons (tTup (tCons (tC (.int 9)) (tCons (tC (.int 1)) tNil))) tNil)))) (tCall (sp_law_take K) [] E0 (tCons (tVar 2) (tCons (tC (.int 3)) tNil)))) (gName 6))
    (tSeq (tFor (iRng1 (tCons (tC (.int 3)) tNil)) (gName 7) (tIfS ((tOr (tTest (tOp (rNeA K) (tCall (sp_law_told K) [] E0 (tCons (tVar 7) (tCons (tVar 5) (tCons (tVar 6) tNil)))) (tLst (tCons (tC (.str "span")) (tCons (tVar 5) tNil))))) (tTest (tOp (rNeA K) (tCall (sp_law_told K) [] E0 (tCons (tVar 7) (tCons (tVar 6) (tCons (tVar 5) tNil)))) (tLst (tCons (tC (.str "span")) (tCons (tVar 6) tNil))))))) (tRet (tC (.bl false))) tNext))
    (tSeq (tFor (iAny K (tLst (tCons (tC (.int 1)) (tCons (tC (.int 2)) tNil)))) (gName 7) (tIfS (tTest (tOp (rNeA K) (tCall (sp_law_told K) [] E0 (tCons (tVar 7) (tCons (tVar 3) (tCons (tVar 5) tNil)))) (tLst (tCons (tC (.str "span")) (tCons (tVar 5) tNil))))) (tRet (tC (.bl false))) tNext))
    (tSeq (tAsg (tOp (rIx K) (tLst (tCons (tC .non) (tCons (tC (.bl true)) (tCons (tC (.str "1")) (tCons (tTup (tCons (tC (.int 1)) (tCons (tC (.int 2)) tNil))) (tCons (tLst (tCons (tC (.int 1)) tNil)) tNil)))))) (tCall (sp_law_take K) [] E0 (tCons (tVar 2) (tCons (tC (.int 5)) tNil)))) (gName 8))
    (tIfS (tTest (tOp (rNeA K) (tCall (sp_law_told K) [] E0 (tCons (tC (.int 0)) (tCons (tVar 3) (tCons (tVar 8) tNil)))) (tLst (tCons (tC (.str "key")) (tCons (tVar 8) tNil))))) (tRet (tC (.bl false))) tNext))))))))))
    (tRet (tC (.bl true))))

end Z

namespace Z
open PySem PySem.Spec PyProof.Rows L2 Evl
section
variable (K : PySem.W.Frag) (vs : List V) (H : Hp) (Q : VK) (E : XK)
theorem len_is_integer : ∀ vs H Q E, sp_is_integer K vs H Q E → vs.length = (["value"] : List Str).length := fun _ _ _ _ ⟨_, _, h, _⟩ => by rw [h]; rfl
theorem pure_is_integer (h : sp_is_integer K vs H Q E) : t_is_integer K { nx := fun _ H' => Q .non H', rt := Q } (start ["value"] vs) H := by
  obtain ⟨v, d, rfl, hi, k⟩ := h
  show t_is_integer K _ [some v] H
  unfold t_is_integer
  have e := isIV_of hi
  walk_at "go"
  refine s_isiT kit_int hi ?_
  walk_at "go"
  refine ite2 (fun c => ?_) (fun c => ?_)
  · walk_at "go"
    refine s_isiT kit_bool hi ?_
    walk_at "go"
    exact q_bl k (by rw [e, c]; rfl)
  · exact q_bl k (by rw [e, Bool.eq_false_iff.mpr c]; rfl)
end
end Z

namespace Z
open PySem PySem.Spec PyProof.Rows L2 Evl
section
variable (K : PySem.W.Frag) (vs : List V) (H : Hp) (Q : VK) (E : XK)
theorem len_is_limit : ∀ vs H Q E, sp_is_limit K vs H Q E → vs.length = (["value"] : List Str).length := fun _ _ _ _ ⟨_, _, h, _⟩ => by rw [h]; rfl
theorem pure_is_limit (h : sp_is_limit K vs H Q E) : t_is_limit K { nx := fun _ H' => Q .non H', rt := Q } (start ["value"] vs) H := by
  obtain ⟨v, d, rfl, hi, k⟩ := h
  show t_is_limit K _ [some v] H
  unfold t_is_limit
  have e := limV_of v
  walk_at "go"
  refine ite2 (fun c => ?_) (fun c => ?_)
  · exact q_bl k (by rw [e, c]; rfl)
  · walk_at "go"
    exact ⟨v, d, rfl, hi, q_bl k (by rw [e, Bool.eq_false_iff.mpr c]; rfl)⟩
end
end Z

namespace Z
open PySem PySem.Spec PyProof.Rows L2 Evl
section
variable (K : PySem.W.Frag) (vs : List V) (H : Hp) (Q : VK) (E : XK)
theorem len_is_span : ∀ vs H Q E, sp_is_span K vs H Q E → vs.length = (["value"] : List Str).length := fun _ _ _ _ ⟨_, _, h, _⟩ => by rw [h]; rfl
theorem pure_is_span (h : sp_is_span K vs H Q E) : t_is_span K { nx := fun _ H' => Q .non H', rt := Q } (start ["value", "low", "high"] vs) H := by
  obtain ⟨v, d, rfl, hi, hd, k⟩ := h
  show t_is_span K _ [some v, none, none] H
  unfold t_is_span
  walk_at "go"
  refine s_isiT kit_tuple hi ?_
  walk_at "go"
  cases c : tyB "tuple" (tyN d) with
  | false =>
    walk_at "go"
    exact q_bl k (notTup hi c).symm
  | true =>
    obtain ⟨a, xs, rfl, rfl, ha⟩ := isTup hi c
    walk_at "go"
    refine s_lenT ha ?_
    walk_at "go"
    refine ite2 (fun c2 => ?_) (fun c2 => ?_)
    · walk_at "go"
      refine q_bl k (spL_ne ?_).symm
      intro e
      rw [e] at c2
      simp at c2
    · obtain ⟨l, h, rfl⟩ : ∃ l h, xs = [l, h] := by
        have e2 : xs.length = 2 := by
          simp at c2
          omega
        match xs, e2 with
        | [l, h], _ => exact ⟨l, h, rfl⟩
      obtain ⟨dl, hl⟩ := hd l (by simp)
      obtain ⟨dh, hh⟩ := hd h (by simp)
      walk_at "go"
      refine ⟨l, dl, rfl, hl, ?_⟩
      walk_at "go"
      cases cl : limV l with
      | false =>
        walk_at "go"
        exact q_bl k (by simp [spD, spL, cl])
      | true =>
        walk_at "go"
        refine ⟨h, dh, rfl, hh, ?_⟩
        walk_at "go"
        cases ch : limV h with
        | false =>
          walk_at "go"
          exact q_bl k (by simp [spD, spL, cl, ch])
        | true =>
          walk_at "go"
          cases l with
          | non =>
            walk_at "go"
            exact q_bl k (by simp [spD, spL, cl, ch])
          | int i =>
            walk_at "go"
            cases h with
            | non =>
              walk_at "go"
              exact q_bl k (by simp [spD, spL, cl, ch])
            | int j =>
              walk_at "go"
              exact q_bl k (by simp [spD, spL, cl, ch])
            | _ => cases ch
          | _ => cases cl
end
end Z

namespace Z
open PySem PySem.Spec PyProof.Rows L2 Evl
section
variable (K : PySem.W.Frag) (vs : List V) (H : Hp) (Q : VK) (E : XK)
theorem len_law_cell : ∀ vs H Q E, sp_law_cell K vs H Q E → vs.length = (["script", "k"] : List Str).length := fun _ _ _ _ ⟨_, _, _, h, _⟩ => by rw [h]; rfl
theorem pure_law_cell (h : sp_law_cell K vs H Q E) : t_law_cell K { nx := fun _ H' => Q .non H', rt := Q } (start ["script", "k"] vs) H := by
  obtain ⟨a, ns, j, rfl, hs, h0, h1, k⟩ := h
  show t_law_cell K _ [some (.ref a), some (.int j)] H
  unfold t_law_cell
  walk_at "go"
  refine s_lenLK hs ?_
  walk_at "go"
  refine ite2 (fun c => ?_) (fun c => ?_)
  · walk_at "go"
    have hj : j.toNat < ns.length := by simp at c; omega
    exact s_ixLK (v := .int (ns[j.toNat])) hs (at_of (j := j.toNat) (by omega) (by simp [hj])) (k _)
  · walk_at "go"
    refine s_mulI (wide_mul (a := 13) (b := 10) (by decide) (by omega) (by decide) (by decide) (by decide)) ?_
    walk_at "go"
    exact k _
theorem len_law_box : ∀ vs H Q E, sp_law_box K vs H Q E → vs.length = (["cell"] : List Str).length := fun _ _ _ _ ⟨_, h, _⟩ => by rw [h]; rfl
theorem pure_law_box (h : sp_law_box K vs H Q E) : t_law_box K { nx := fun _ H' => Q .non H', rt := Q } (start ["cell"] vs) H := by
  obtain ⟨n, rfl, k⟩ := h
  show t_law_box K _ [some (.int n)] H
  unfold t_law_box
  walk_at "go"
  refine s_modI (by decide) ?_
  walk_at "go"
  refine ⟨by show 3 ≤ sizeLine; decide, fun p hp => ?_⟩
  refine k p _ hp (Ex.new hp) ⟨_, _, _, upd_same, ?_, ?_, Int.le_refl _, Int.le_refl _⟩
  · exact Int.emod_nonneg _ (by decide)
  · exact Int.lt_trans (Int.emod_lt_of_pos _ (by decide)) (by decide)
theorem len_law_take : ∀ vs H Q E, sp_law_take K vs H Q E → vs.length = (["box", "many"] : List Str).length := fun _ _ _ _ ⟨_, _, _, h, _⟩ => by rw [h]; rfl
theorem pure_law_take (h : sp_law_take K vs H Q E) : t_law_take K { nx := fun _ H' => Q .non H', rt := Q } (start ["box", "many", "digit", "number"] vs) H := by
  obtain ⟨p, m, n, rfl, ⟨a, b, c, hp, hb0, hb1, hc0, hc1⟩, hn, hm, hml, k⟩ := h
  show t_law_take K _ [some (.ref p), some (.int m), none, none] H
  unfold t_law_take
  walk_at "go"
  refine ite2 (fun ca => ?_) (fun ca => ?_)
  · walk_at "go"
    refine s_modI hm ?_
    walk_at "go"
    refine s_divI ⟨hm, hml⟩ ?_
    walk_at "go"
    refine k _ _ but_upd ⟨_, _, _, upd_same, hb0, hb1, hc0, ?_⟩ (Int.emod_nonneg _ (by omega)) (Int.emod_lt_of_pos _ hm)
    omega
  · walk_at "go"
    refine s_mulI (wide_mul (a := 13) (b := 34) (by decide) (by omega) (by decide) (by decide) (by decide)) ?_
    walk_at "go"
    refine s_powI ⟨by decide, by decide, by omega⟩ ?_
    walk_at "go"
    refine s_modI (by decide) ?_
    walk_at "go"
    refine s_mulI (wide_mul (a := 17) (b := 34) (by decide) (by omega) (by decide) (by decide) (by decide)) ?_
    walk_at "go"
    have q0 : 0 ≤ (b + 7919 * (c + 1) + 43) ^ (5 : Int).toNat % 2147483647 := Int.emod_nonneg _ (by decide)
    have q1 : (b + 7919 * (c + 1) + 43) ^ (5 : Int).toNat % 2147483647 < 2147483647 := Int.emod_lt_of_pos _ (by decide)
    generalize (b + 7919 * (c + 1) + 43) ^ (5 : Int).toNat % 2147483647 = u at q0 q1 ⊢
    refine s_powI ⟨by decide, by decide, by omega⟩ ?_
    walk_at "go"
    refine s_modI (by decide) ?_
    walk_at "go"
    refine s_divI ⟨by decide, by decide⟩ ?_
    walk_at "go"
    refine s_modI hm ?_
    refine k _ _ but_upd ⟨_, _, _, upd_same, hb0, hb1, by omega, by omega⟩ (Int.emod_nonneg _ (by omega)) (Int.emod_lt_of_pos _ hm)
end
end Z

namespace Z
open PySem PySem.Spec PyProof.Rows L2 Evl
theorem spD_tup {H : Hp} {v : V} {d : Kd} (hi : Is H v d) (s : spD d = true) : ∃ a l h, v = .ref a ∧ d = .tup [l, h] ∧ H a = some (.tup [l, h]) ∧ spL [l, h] = true := by
  cases d with
  | tup xs =>
    obtain ⟨a, rfl, q⟩ := hi
    have hl : xs.length = 2 := by
      by_cases e : xs.length = 2
      · exact e
      · rw [show spD (.tup xs) = spL xs from rfl, spL_ne e] at s
        cases s
    match xs, hl with
    | [l, h], _ => exact ⟨a, l, h, rfl, rfl, q, s⟩
  | _ => cases s
theorem isIV_int {v : V} (s : isIV v = true) : ∃ k, v = .int k := by
  cases v with
  | int k => exact ⟨k, rfl⟩
  | _ => cases s
section
variable (K : PySem.W.Frag) (vs : List V) (H : Hp) (Q : VK) (E : XK)
theorem len_need_span : ∀ vs H Q E, sp_need_span K vs H Q E → vs.length = (["value"] : List Str).length := fun _ _ _ _ ⟨_, _, h, _⟩ => by rw [h]; rfl
theorem pure_need_span (h : sp_need_span K vs H Q E) : t_need_span K E { nx := fun _ H' => Q .non H', rt := Q } (start ["value"] vs) H := by
  obtain ⟨v, d, rfl, hi, hd, k1, k2⟩ := h
  show t_need_span K E _ [some v] H
  unfold t_need_span
  walk_at "go"
  refine u_isspan d hi hd rfl ?_
  walk_at "go"
  cases c : spD d with
  | true =>
    walk_at "go"
    exact k1 c
  | false =>
    walk_at "go"
    refine s_raisevalue ?_
    walk_at "go"
    exact rzvalue (k2 c) (Ex.refl _)
theorem len_need_key : ∀ vs H Q E, sp_need_key K vs H Q E → vs.length = (["value"] : List Str).length := fun _ _ _ _ ⟨_, _, h, _⟩ => by rw [h]; rfl
theorem pure_need_key (h : sp_need_key K vs H Q E) : t_need_key K E { nx := fun _ H' => Q .non H', rt := Q } (start ["value"] vs) H := by
  obtain ⟨v, d, rfl, hi, k1, k2⟩ := h
  show t_need_key K E _ [some v] H
  unfold t_need_key
  walk_at "go"
  refine u_isint d hi rfl ?_
  walk_at "go"
  cases c : isIV v with
  | true =>
    walk_at "go"
    exact k1 c
  | false =>
    walk_at "go"
    refine s_raisevalue ?_
    walk_at "go"
    exact rzvalue (k2 c) (Ex.refl _)
theorem len_has_key : ∀ vs H Q E, sp_has_key K vs H Q E → vs.length = (["span", "key"] : List Str).length := fun _ _ _ _ ⟨_, _, _, _, h, _⟩ => by rw [h]; rfl
theorem pure_has_key (h : sp_has_key K vs H Q E) : t_has_key K { nx := fun _ H' => Q .non H', rt := Q } (start ["span", "key", "low", "high"] vs) H := by
  obtain ⟨a, l, u, n, rfl, ⟨ha, hl, hu⟩, k⟩ := h
  show t_has_key K _ [some (.ref a), some (.int n), none, none] H
  unfold t_has_key
  walk_at "go"
  rcases lim_cases hl with rfl | ⟨i, rfl⟩
  · walk_at "go"
    rcases lim_cases hu with rfl | ⟨j, rfl⟩
    · walk_at "go"
      exact k
    · walk_at "go"
      exact k
  · walk_at "go"
    refine ite2 (fun c => ?_) (fun c => ?_)
    · walk_at "go"
      rcases lim_cases hu with rfl | ⟨j, rfl⟩
      · walk_at "go"
        exact q_bl k (by simp [hasV, lo1, hi1]; simpa using c)
      · walk_at "go"
        exact q_bl k (by simp at c; simp [hasV, lo1, hi1, c])
    · exact q_bl k (by simp at c; simp [hasV, lo1]; intro; omega)
theorem len_in_span : ∀ vs H Q E, sp_in_span K vs H Q E → vs.length = (["span", "key"] : List Str).length := fun _ _ _ _ ⟨_, _, _, _, h, _⟩ => by rw [h]; rfl
theorem pure_in_span (h : sp_in_span K vs H Q E) : t_in_span K E { nx := fun _ H' => Q .non H', rt := Q } (start ["span", "key"] vs) H := by
  obtain ⟨v1, d1, v2, d2, rfl, hi1, hd1, hi2, k1, k2, k3⟩ := h
  show t_in_span K E _ [some v1, some v2] H
  unfold t_in_span
  walk_at "go"
  refine ⟨v1, d1, rfl, hi1, hd1, fun c1 => ?_, k1⟩
  walk_at "go"
  refine ⟨v2, d2, rfl, hi2, fun c2 => ?_, k2 c1⟩
  walk_at "go"
  obtain ⟨a, l, u, rfl, rfl, ha, sp⟩ := spD_tup hi1 c1
  obtain ⟨n, rfl⟩ := isIV_int c2
  exact ⟨a, l, u, n, rfl, ⟨ha, spL_lim sp⟩, k3 l u n rfl sp rfl⟩
theorem len_greater_limit : ∀ vs H Q E, sp_greater_limit K vs H Q E → vs.length = (["one", "other"] : List Str).length := fun _ _ _ _ ⟨_, _, h, _⟩ => by rw [h]; rfl
theorem pure_greater_limit (h : sp_greater_limit K vs H Q E) : t_greater_limit K { nx := fun _ H' => Q .non H', rt := Q } (start ["one", "other"] vs) H := by
  obtain ⟨x, y, rfl, hx, hy, k⟩ := h
  show t_greater_limit K _ [some x, some y] H
  unfold t_greater_limit
  walk_at "go"
  rcases lim_cases hx with rfl | ⟨i, rfl⟩
  · walk_at "go"
    exact k H (Ex.refl _)
  · walk_at "go"
    rcases lim_cases hy with rfl | ⟨j, rfl⟩
    · walk_at "go"
      exact k H (Ex.refl _)
    · walk_at "go"
      walk_at "al"
      intro p hp
      walk_at "go"
      refine .inr ⟨p, [i, j], rfl, SqL.of upd_same, by simp, fun m hm hy => ?_⟩
      have e : m = if i < j then j else i := by
        have h1 := hy i (by simp)
        have h2 := hy j (by simp)
        rcases (by simpa using hm : m = i ∨ m = j) with rfl | rfl <;> split <;> omega
      rw [e]
      exact k _ (Ex.new hp)
theorem len_lesser_limit : ∀ vs H Q E, sp_lesser_limit K vs H Q E → vs.length = (["one", "other"] : List Str).length := fun _ _ _ _ ⟨_, _, h, _⟩ => by rw [h]; rfl
theorem pure_lesser_limit (h : sp_lesser_limit K vs H Q E) : t_lesser_limit K { nx := fun _ H' => Q .non H', rt := Q } (start ["one", "other"] vs) H := by
  obtain ⟨x, y, rfl, hx, hy, k⟩ := h
  show t_lesser_limit K _ [some x, some y] H
  unfold t_lesser_limit
  walk_at "go"
  rcases lim_cases hx with rfl | ⟨i, rfl⟩
  · walk_at "go"
    exact k H (Ex.refl _)
  · walk_at "go"
    rcases lim_cases hy with rfl | ⟨j, rfl⟩
    · walk_at "go"
      exact k H (Ex.refl _)
    · walk_at "go"
      walk_at "al"
      intro p hp
      walk_at "go"
      refine .inr ⟨p, [i, j], rfl, SqL.of upd_same, by simp, fun m hm hy => ?_⟩
      have e : m = if j < i then j else i := by
        have h1 := hy i (by simp)
        have h2 := hy j (by simp)
        rcases (by simpa using hm : m = i ∨ m = j) with rfl | rfl <;> split <;> omega
      rw [e]
      exact k _ (Ex.new hp)
theorem len_common : ∀ vs H Q E, sp_common K vs H Q E → vs.length = (["one", "other"] : List Str).length := fun _ _ _ _ ⟨_, _, _, _, h, _⟩ => by rw [h]; rfl
theorem pure_common (h : sp_common K vs H Q E) : t_common K E { nx := fun _ H' => Q .non H', rt := Q } (start ["one", "other", "found"] vs) H := by
  obtain ⟨v1, d1, v2, d2, rfl, hi1, hd1, hi2, hd2, k1, k2, k3⟩ := h
  show t_common K E _ [some v1, some v2, none] H
  unfold t_common
  walk_at "go"
  refine ⟨v1, d1, rfl, hi1, hd1, fun c1 => ?_, k1⟩
  walk_at "go"
  refine ⟨v2, d2, rfl, hi2, hd2, fun c2 => ?_, k2 c1⟩
  obtain ⟨a, l1, u1, rfl, rfl, ha, s1⟩ := spD_tup hi1 c1
  obtain ⟨b, l2, u2, rfl, rfl, hb, s2⟩ := spD_tup hi2 c2
  obtain ⟨x1, y1⟩ := spL_lim s1
  obtain ⟨x2, y2⟩ := spL_lim s2
  walk_at "go"
  refine ⟨l1, l2, rfl, x1, x2, fun H1 e1 => ?_⟩
  walk_at "go"
  refine ⟨u1, u2, rfl, y1, y2, fun H2 e2 => ?_⟩
  walk_at "go"
  walk_at "al"
  intro p hp
  walk_at "go"
  have x3 := glV_lim x1 x2
  have y3 := llV_lim y1 y2
  have sc : ∀ v, limV v = true → ∃ e, Is (upd H2 p (.tup [glV l1 l2, llV u1 u2])) v e := fun v hv => by
    rcases lim_cases hv with rfl | ⟨i, rfl⟩
    · exact ⟨.sc .non, rfl, rfl⟩
    · exact ⟨.sc (.int i), rfl, rfl⟩
  refine u_isspan (.tup [glV l1 l2, llV u1 u2]) ⟨p, rfl, upd_same⟩ (fun x hx => ?_) rfl ?_
  · rcases (by simpa using hx : x = glV l1 l2 ∨ x = llV u1 u2) with rfl | rfl
    · exact sc _ x3
    · exact sc _ y3
  · walk_at "go"
    have eE : Ex H (upd H2 p (.tup [glV l1 l2, llV u1 u2])) := (e1.trans e2).trans (Ex.new hp)
    show if spL [glV l1 l2, llV u1 u2] = true then _ else _
    refine ite2 (fun c => ?_) (fun c => ?_)
    · walk_at "go"
      refine k3 _ _ _ _ rfl rfl s1 s2 _ _ eE ?_
      unfold Com
      rw [if_pos c]
      exact ⟨p, rfl, upd_same⟩
    · walk_at "go"
      refine k3 _ _ _ _ rfl rfl s1 s2 _ _ eE ?_
      unfold Com
      rw [if_neg c]
theorem len_meet : ∀ vs H Q E, sp_meet K vs H Q E → vs.length = (["one", "other"] : List Str).length := fun _ _ _ _ ⟨_, _, _, _, h, _⟩ => by rw [h]; rfl
theorem pure_meet (h : sp_meet K vs H Q E) : t_meet K E { nx := fun _ H' => Q .non H', rt := Q } (start ["one", "other"] vs) H := by
  obtain ⟨v1, d1, v2, d2, rfl, hi1, hd1, hi2, hd2, k1, k2, k3⟩ := h
  show t_meet K E _ [some v1, some v2] H
  unfold t_meet
  walk_at "go"
  refine ⟨v1, d1, v2, d2, rfl, hi1, hd1, hi2, hd2, k1, k2, fun l1 h1 l2 h2 e1 e2 s1 s2 r H1 x1 cm => ?_⟩
  walk_at "go"
  refine q_bl (k3 l1 h1 l2 h2 e1 e2 s1 s2 H1 x1) ?_
  unfold Com at cm
  by_cases c : spL [glV l1 l2, llV h1 h2] = true
  · rw [if_pos c] at cm
    obtain ⟨a, rfl, _⟩ := cm
    rw [c]
    simp
  · rw [if_neg c] at cm
    rw [cm, Bool.eq_false_iff.mpr c]
    simp
end
end Z

namespace Z
open PySem PySem.Spec PyProof.Rows L2 Evl
theorem keysOf_snoc (ps : List (V × V)) (p : V × V) : keysOf (ps ++ [p]) = keysOf ps ++ (kOf p.1 ++ kOf p.2) := by
  simp [keysOf, List.flatMap_append]
theorem kOf_len (v : V) : (kOf v).length ≤ 3 := by cases v <;> simp [kOf]
theorem deep_lim {H : Hp} {l h : V} (a : limV l = true) (b : limV h = true) : Deep H (.tup [l, h]) := fun x hx => by
  rcases (by simpa using hx : x = l ∨ x = h) with rfl | rfl
  · rcases lim_cases a with rfl | ⟨i, rfl⟩
    · exact ⟨.sc .non, rfl, rfl⟩
    · exact ⟨.sc (.int i), rfl, rfl⟩
  · rcases lim_cases b with rfl | ⟨i, rfl⟩
    · exact ⟨.sc .non, rfl, rfl⟩
    · exact ⟨.sc (.int i), rfl, rfl⟩
/-- an item of a display by a draw -/
theorem menu_of {K : PySem.W.Frag} {p : Addr} {m : Int} {n : Nat} {H0 H : Hp} {Q : VK} {E : XK} {xs : List V} (b0 : But p H0 H) (B : Bx H p n) (hn : n < 4294967296) (hx : (xs.length : Int) = m) (hm : 0 < m) (hl : m.natAbs.log2 < 9000)
    (k : ∀ v H', v ∈ xs → But p H0 H' → But p H H' → Bx H' p (n + 1) → Q v H') (q : Addr) (hq : H q = none) : sp_law_take K [.ref p, .int m] (upd H q (.lst xs)) (fun y H2 => rIx K (.ref q) y H2 Q) E := by
  have nq := B.ne hq
  refine u_take (B.ex (Ex.new hq)) hn hm hl fun d H1 b1 B1 d0 d1 => ?_
  refine s_menuL (b1 _ _ upd_same nq) d0 (by omega) fun v hv => ?_
  have b2 : But p H H1 := (But.refl.new hq).trans b1
  exact k v H1 hv (b0.trans b2) b2 B1
section
variable (K : PySem.W.Frag) (vs : List V) (H : Hp) (Q : VK) (E : XK)
theorem len_law_has : ∀ vs H Q E, sp_law_has K vs H Q E → vs.length = (["piece", "place"] : List Str).length := fun _ _ _ _ ⟨_, _, _, _, h, _⟩ => by rw [h]; rfl
theorem pure_law_has (h : sp_law_has K vs H Q E) : t_law_has K { nx := fun _ H' => Q .non H', rt := Q } (start ["piece", "place"] vs) H := by
  obtain ⟨a, l, u, n, rfl, ⟨ha, hl, hu⟩, k⟩ := h
  show t_law_has K _ [some (.ref a), some (.int n)] H
  unfold t_law_has
  walk_at "go"
  rcases lim_cases hl with rfl | ⟨i, rfl⟩
  · walk_at "go"
    rcases lim_cases hu with rfl | ⟨j, rfl⟩
    · walk_at "go"
      exact k
    · walk_at "go"
      exact k
  · walk_at "go"
    refine ite2 (fun c => ?_) (fun c => ?_)
    · walk_at "go"
      rcases lim_cases hu with rfl | ⟨j, rfl⟩
      · walk_at "go"
        exact q_bl k (by simp [hasV, lo1, hi1]; simpa using c)
      · walk_at "go"
        exact q_bl k (by simp at c; simp [hasV, lo1, hi1, c])
    · exact q_bl k (by simp at c; simp [hasV, lo1]; intro; omega)
theorem len_law_span : ∀ vs H Q E, sp_law_span K vs H Q E → vs.length = (["box"] : List Str).length := fun _ _ _ _ ⟨_, _, h, _⟩ => by rw [h]; rfl
theorem pure_law_span (h : sp_law_span K vs H Q E) : t_law_span K { nx := fun _ H' => Q .non H', rt := Q } (start ["box", "great", "low", "high"] vs) H := by
  obtain ⟨p, n, rfl, B, hn, k⟩ := h
  show t_law_span K _ [some (.ref p), none, none, none] H
  unfold t_law_span
  walk_at "go"
  walk_at "al"
  intro m0 f0
  walk_at "go"
  refine menu_of (m := 3) But.refl B (by omega) rfl (by decide) (by decide +kernel) (fun g H1 hg b1 _ B1 => ?_) m0 f0
  obtain ⟨G, rfl, hG, hG2⟩ : ∃ G : Int, g = .int G ∧ 0 < G ∧ G.natAbs < 2 ^ 100 := by
    simp only [List.mem_cons, List.mem_nil_iff, or_false] at hg
    rcases hg with rfl | rfl | rfl
    · exact ⟨1, rfl, by decide, by decide⟩
    · exact ⟨1, rfl, by decide, by decide⟩
    · exact ⟨_, rfl, by decide, by decide⟩
  walk_at "go"
  refine u_take B1 (by omega) (by decide) (by decide +kernel) fun d H2 b2 B2 d0 d1 => ?_
  walk_at "go"
  refine s_mulI (wide_mul (a := 5) (b := 100) (by omega) hG2 (by decide) (by decide) (by decide)) ?_
  walk_at "go"
  refine u_take B2 (by omega) (by decide) (by decide +kernel) fun e H3 b3 B3 e0 e1 => ?_
  walk_at "go"
  refine s_mulI (wide_mul (a := 5) (b := 100) (by omega) hG2 (by decide) (by decide) (by decide)) ?_
  walk_at "go"
  generalize hL : (d - 6) * G = L
  generalize hU : L + (1 + e) * G = U
  have lt : L < U := by
    have h1 : 0 < (1 + e) * G := Int.mul_pos (by omega) hG
    omega
  have b03 : But p H H3 := (b1.trans b2).trans b3
  walk_at "al"
  intro t1 g1
  walk_at "go"
  walk_at "al"
  intro t2 g2
  walk_at "go"
  walk_at "al"
  intro t3 g3
  walk_at "go"
  walk_at "al"
  intro t4 g4
  walk_at "go"
  walk_at "al"
  intro t5 g5
  walk_at "go"
  walk_at "al"
  intro m1 f1
  walk_at "go"
  have b5 := ((((b03.new (o := HO.tup [V.int L, V.int U]) g1).new (o := HO.tup [V.int L, V.int U]) g2).new (o := HO.tup [V.non, V.int U]) g3).new (o := HO.tup [V.int L, V.non]) g4).new (o := HO.tup [V.non, V.non]) g5
  have B5 := ((((B3.ex (Ex.new (o := HO.tup [V.int L, V.int U]) g1)).ex (Ex.new (o := HO.tup [V.int L, V.int U]) g2)).ex (Ex.new (o := HO.tup [V.non, V.int U]) g3)).ex (Ex.new (o := HO.tup [V.int L, V.non]) g4)).ex (Ex.new (o := HO.tup [V.non, V.non]) g5)
  have n1 := B3.ne g1
  have n2 := (B3.ex (Ex.new (o := HO.tup [V.int L, V.int U]) g1)).ne g2
  have n3 := ((B3.ex (Ex.new (o := HO.tup [V.int L, V.int U]) g1)).ex (Ex.new (o := HO.tup [V.int L, V.int U]) g2)).ne g3
  have n4 := (((B3.ex (Ex.new (o := HO.tup [V.int L, V.int U]) g1)).ex (Ex.new (o := HO.tup [V.int L, V.int U]) g2)).ex (Ex.new (o := HO.tup [V.non, V.int U]) g3)).ne g4
  have n5 := ((((B3.ex (Ex.new (o := HO.tup [V.int L, V.int U]) g1)).ex (Ex.new (o := HO.tup [V.int L, V.int U]) g2)).ex (Ex.new (o := HO.tup [V.non, V.int U]) g3)).ex (Ex.new (o := HO.tup [V.int L, V.non]) g4)).ne g5
  refine menu_of (m := 5) b5 B5 (by omega) rfl (by decide) (by decide +kernel) (fun v H4 hv b6 b7 B6 => ?_) m1 f1
  have B7 : Bx H4 p (n + 4) := B6.mono (by omega)
  simp only [List.mem_cons, List.mem_nil_iff, or_false] at hv
  rcases hv with rfl | rfl | rfl | rfl | rfl
  · exact k _ _ _ H4 b6 B7 (b7 _ _ (by walk_at "look") n1) (by simp [spL, limV, lt])
  · exact k _ _ _ H4 b6 B7 (b7 _ _ (by walk_at "look") n2) (by simp [spL, limV, lt])
  · exact k _ _ _ H4 b6 B7 (b7 _ _ (by walk_at "look") n3) (by simp [spL, limV])
  · exact k _ _ _ H4 b6 B7 (b7 _ _ (by walk_at "look") n4) (by simp [spL, limV])
  · exact k _ _ _ H4 b6 B7 (b7 _ _ (by walk_at "look") n5) (by simp [spL, limV])
theorem len_law_keys : ∀ vs H Q E, sp_law_keys K vs H Q E → vs.length = (["spans"] : List Str).length := fun _ _ _ _ ⟨_, _, h, _⟩ => by rw [h]; rfl
theorem pure_law_keys (h : sp_law_keys K vs H Q E) : t_law_keys K { nx := fun _ H' => Q .non H', rt := Q } (start ["spans", "found", "piece", "limit"] vs) H := by
  obtain ⟨s, as, rfl, ⟨hs, hp⟩, hl, k⟩ := h
  show t_law_keys K _ [some (.ref s), none, none, none] H
  unfold t_law_keys
  walk_at "go"
  walk_at "al"
  intro r hr
  walk_at "go"
  refine iAny_lst ?_
  walk_at "go"
  have hs1 : upd H r (.lst [V.int 0]) s = some (.lst (as.map fun x => V.ref x.1)) := Ex.new hr _ _ hs
  refine ⟨s, rfl, ⟨_, SqL.of hs1⟩, for_list (K := K) (a := s) (xs := as.map fun x => V.ref x.1) (fun i σ H2 => ∃ f v2 v3, σ = [some (.ref s), some (.ref f), v2, v3] ∧ Ex H H2 ∧ H2 f = some (.lst ((keysOf ((as.take i).map (·.2))).map V.int)))
    ⟨r, none, none, rfl, Ex.new hr, upd_same⟩ (fun i σ H2 _ ⟨_, _, _, _, e, _⟩ => SqL.of (e _ _ hs)) ?_ ?_⟩
  · rintro i x σ H2 hi ⟨f, v2, v3, rfl, e2, hf⟩
    obtain ⟨⟨b, l, u⟩, ha, rfl⟩ : ∃ a, as[i]? = some a ∧ V.ref a.1 = x := by simpa using hi
    have hm : (b, l, u) ∈ as := List.mem_of_getElem? ha
    obtain ⟨hb, hl1, hu1⟩ := hp _ hm
    have hb2 := e2 _ _ hb
    have hi3 : i < as.length := by
      rcases Nat.lt_or_ge i as.length with h | h
      · exact h
      · rw [List.getElem?_eq_none h] at ha; cases ha
    walk_at "go"
    refine iAny_tup ?_
    walk_at "go"
    have bd : (keysOf ((as.take i).map (·.2))).length ≤ 30 := by
      have := @keys_lim ((as.take i).map (·.2))
      simp only [List.length_map, List.length_take] at this
      omega
    refine ⟨b, rfl, ⟨_, SqT.of hb2⟩, for_tup (K := K) (a := b) (xs := [l, u]) (fun j σ H3 => ∃ f v3, σ = [some (.ref s), some (.ref f), some (.ref b), v3] ∧ Ex H H3 ∧ H3 f = some (.lst ((keysOf ((as.take i).map (·.2)) ++ ([l, u].take j).flatMap kOf).map V.int)))
      ⟨f, v3, rfl, e2, by simpa using hf⟩ (fun j σ H3 _ ⟨_, _, _, e, _⟩ => SqT.of (e _ _ hb)) ?_ ?_⟩
    · rintro j y σ H3 hj ⟨g, w3, rfl, e3, hg⟩
      have hy : limV y = true ∧ ([l, u].take (j + 1)) = [l, u].take j ++ [y] ∧ j ≤ 1 := by
        match j, hj with
        | 0, hj => cases hj; exact ⟨hl1, rfl, by decide⟩
        | 1, hj => cases hj; exact ⟨hu1, rfl, by decide⟩
        | j + 2, hj => simp at hj
      obtain ⟨hyl, hyt, hj1⟩ := hy
      have bj : (([l, u].take j).flatMap kOf).length ≤ 6 := by
        have a1 := kOf_len l
        have a2 := kOf_len u
        match j, hj1 with
        | 0, _ => simp
        | 1, _ => simp; omega
      walk_at "go"
      rcases lim_cases hyl with rfl | ⟨z, rfl⟩
      · walk_at "go"
        refine ⟨g, _, rfl, e3, ?_⟩
        rw [hyt, hg]
        simp [kOf]
      · walk_at "go"
        walk_at "al"
        intro q hq
        refine s_addL (by walk_at "look") upd_same ?_ fun t ht => ?_
        · rw [sizeLine_eq]
          simp only [List.length_map, List.length_append, List.length_cons, List.length_nil]
          omega
        · walk_at "go"
          refine ⟨t, _, rfl, (e3.trans (Ex.new hq)).trans (Ex.new ht), ?_⟩
          rw [upd_same, hyt]
          simp [kOf, List.flatMap_append]
    · rintro σ H3 ⟨g, w3, rfl, e3, hg⟩
      refine ⟨g, _, _, rfl, e3, ?_⟩
      rw [hg]
      have et : as.take (i + 1) = as.take i ++ [(b, l, u)] := by
        rw [List.take_add_one, ha]
        rfl
      rw [et, show (as.take i ++ [(b, l, u)]).map (·.2) = (as.take i).map (·.2) ++ [(l, u)] by simp, keysOf_snoc]
      simp
  · rintro σ H2 ⟨f, v2, v3, rfl, e2, hf⟩
    rw [List.length_map, List.take_length] at hf
    walk_at "go"
    exact k f H2 e2 hf
end
end Z

namespace Z
open PySem PySem.Spec PyProof.Rows L2 Evl
theorem isIV_false {v : V} {k : Int} (h : isIV v = false) (e : v = .int k) : False := by rw [e] at h; cases h
theorem spD_false {l h : V} {d : Kd} (h1 : spD d = false) (e : d = .tup [l, h]) (s : spL [l, h] = true) : False := by
  rw [e] at h1
  rw [show spD (.tup [l, h]) = spL [l, h] from rfl, s] at h1
  cases h1
section
variable (K : PySem.W.Frag) (vs : List V) (H : Hp) (Q : VK) (E : XK)
theorem len_law_told : ∀ vs H Q E, sp_law_told K vs H Q E → vs.length = (["way", "first", "second"] : List Str).length := fun _ _ _ _ ⟨_, _, _, _, _, h, _⟩ => by rw [h]; rfl
theorem pure_law_told (X : Exm K) (h : sp_law_told K vs H Q E) : t_law_told K { nx := fun _ H' => Q .non H', rt := Q } (start ["way", "first", "second", "e"] vs) H := by
  obtain ⟨way, v1, v2, d1, d2, rfl, w0, w2, hi1, hd1, hi2, hd2, s, v, hc, k⟩ := h
  show t_law_told K _ [some (.int way), some v1, some v2, none] H
  unfold t_law_told
  have kA : spD d1 = false → ∀ (p : Addr) (H' : Hp), Ex H H' → H' p = some (.lst [.str "span", v1]) → Q (.ref p) H' := fun c p H' e hp => by
    rcases hc with ⟨_, rfl, rfl⟩ | ⟨z, _⟩ | ⟨z, _⟩
    · exact k p H' e hp
    · rw [c] at z; cases z
    · rw [c] at z; cases z
  have kB : spD d1 = true → 1 ≤ way → spD d2 = false → ∀ (p : Addr) (H' : Hp), Ex H H' → H' p = some (.lst [.str "span", v2]) → Q (.ref p) H' := fun c w c2 p H' e hp => by
    rcases hc with ⟨z, _⟩ | ⟨_, _, _, rfl, rfl⟩ | ⟨_, z, _⟩
    · rw [c] at z; cases z
    · exact k p H' e hp
    · omega
  have kC : spD d1 = true → way = 0 → isIV v2 = false → ∀ (p : Addr) (H' : Hp), Ex H H' → H' p = some (.lst [.str "key", v2]) → Q (.ref p) H' := fun c w c2 p H' e hp => by
    rcases hc with ⟨z, _⟩ | ⟨_, z, _⟩ | ⟨_, _, _, rfl, rfl⟩
    · rw [c] at z; cases z
    · omega
    · exact k p H' e hp
  have no : spD d1 = true → (1 ≤ way ∧ spD d2 = false) ∨ (way = 0 ∧ isIV v2 = false) := fun c => by
    rcases hc with ⟨z, _⟩ | ⟨_, w, z, _⟩ | ⟨_, w, z, _⟩
    · rw [c] at z; cases z
    · exact .inl ⟨w, z⟩
    · exact .inr ⟨w, z⟩
  walk_at "go"
  rcases (by omega : way = 0 ∨ way = 1 ∨ way = 2) with rfl | rfl | rfl
  · refine s_itet (by decide) ?_
    walk_at "go"
    refine ⟨v1, d1, v2, d2, rfl, hi1, hd1, hi2, fun c H' d e hd => ?_, fun c1 c2 H' d e hd => ?_, fun l h k e1 s1 e2 => ?_⟩
    · refine mix_hit X.e_InvalidSpan_InvalidSpan fun a ha => ?_
      walk_at "go"
      refine xf_at hd ?_
      walk_at "go"
      walk_at "al"
      intro p hp
      exact kA c p _ (e.trans (Ex.new hp)) upd_same
    · refine mix_miss X.e_InvalidKey_InvalidSpan (mix_hit X.e_InvalidKey_InvalidKey fun a ha => ?_)
      walk_at "go"
      refine xf_at hd ?_
      walk_at "go"
      walk_at "al"
      intro p hp
      exact kC c1 rfl c2 p _ (e.trans (Ex.new hp)) upd_same
    · rcases no (by rw [e1]; exact s1) with ⟨w, _⟩ | ⟨_, w⟩
      · omega
      · exact absurd e2 (isIV_false w)
  · refine s_itef (by decide) ?_
    walk_at "go"
    refine ⟨v1, d1, v2, d2, rfl, hi1, hd1, hi2, hd2, fun c H' d e hd => ?_, fun c1 c2 H' d e hd => ?_, fun l1 h1 l2 h2 e1 e2 s1 s2 => ?_⟩
    · refine mix_hit X.e_InvalidSpan_InvalidSpan fun a ha => ?_
      walk_at "go"
      refine xf_at hd ?_
      walk_at "go"
      walk_at "al"
      intro p hp
      exact kA c p _ (e.trans (Ex.new hp)) upd_same
    · refine mix_hit X.e_InvalidSpan_InvalidSpan fun a ha => ?_
      walk_at "go"
      refine xf_at hd ?_
      walk_at "go"
      walk_at "al"
      intro p hp
      exact kB c1 (by decide) c2 p _ (e.trans (Ex.new hp)) upd_same
    · rcases no (by rw [e1]; exact s1) with ⟨_, w⟩ | ⟨w, _⟩
      · exact (spD_false w e2 s2).elim
      · omega
  · refine s_itef (by decide) ?_
    walk_at "go"
    refine ⟨rfl, rfl, v1, d1, v2, d2, rfl, hi1, hd1, hi2, hd2, fun c H' d e hd => ?_, fun c1 c2 H' d e hd => ?_, fun l1 h1 l2 h2 e1 e2 s1 s2 => ?_⟩
    · refine mix_hit X.e_InvalidSpan_InvalidSpan fun a ha => ?_
      walk_at "go"
      refine xf_at hd ?_
      walk_at "go"
      walk_at "al"
      intro p hp
      exact kA c p _ (e.trans (Ex.new hp)) upd_same
    · refine mix_hit X.e_InvalidSpan_InvalidSpan fun a ha => ?_
      walk_at "go"
      refine xf_at hd ?_
      walk_at "go"
      walk_at "al"
      intro p hp
      exact kB c1 (by decide) c2 p _ (e.trans (Ex.new hp)) upd_same
    · rcases no (by rw [e1]; exact s1) with ⟨_, w⟩ | ⟨w, _⟩
      · exact (spD_false w e2 s2).elim
      · omega
end
end Z

namespace Z
open PySem PySem.Spec PyProof.Rows L2 Evl
theorem inV_mem {i : Int} {xs : List V} (h : V.int i ∈ xs) : inV (.int i) xs = true := by
  unfold inV
  rw [List.any_eq_true]
  exact ⟨_, h, by simp [eqV]⟩
theorem gl_mem {a b : V} (ha : limV a = true) (hb : limV b = true) : glV a b = a ∨ glV a b = b := by
  rcases lim_cases ha with rfl | ⟨i, rfl⟩ <;> rcases lim_cases hb with rfl | ⟨j, rfl⟩ <;> simp [glV]
  omega
theorem ll_mem {a b : V} (ha : limV a = true) (hb : limV b = true) : llV a b = a ∨ llV a b = b := by
  rcases lim_cases ha with rfl | ⟨i, rfl⟩ <;> rcases lim_cases hb with rfl | ⟨j, rfl⟩ <;> simp [llV]
  omega
theorem flat_lim {v : V} (h : limV v = true) : flatV v = true := by
  rcases lim_cases h with rfl | ⟨i, rfl⟩ <;> rfl
theorem scB_lim {v : V} (h : limV v = true) : scB v v = true := by
  rcases lim_cases h with rfl | ⟨i, rfl⟩ <;> rfl
section
variable (K : PySem.W.Frag) (vs : List V) (H : Hp) (Q : VK) (E : XK)
theorem u_has {K : PySem.W.Frag} {H : Hp} {Q : VK} {E : XK} {a : Addr} {l h : V} {k : Int} (p : Pr H a l h) (q : Q (.bl (hasV l h k)) H) : sp_law_has K [.ref a, .int k] H Q E := ⟨a, l, h, k, rfl, p, q⟩
theorem len_law_same : ∀ vs H Q E, sp_law_same K vs H Q E → vs.length = (["told", "first", "second"] : List Str).length := fun _ _ _ _ ⟨_, _, _, _, _, _, _, h, _⟩ => by rw [h]; rfl
theorem pure_law_same (h : sp_law_same K vs H Q E) : t_law_same K { nx := fun _ H' => Q .non H', rt := Q } (start ["told", "first", "second", "place", "limits", "limit"] vs) H := by
  obtain ⟨t, a, b, l1, h1, l2, h2, rfl, pa, pb, pt, k⟩ := h
  show t_law_same K _ [some (.ref t), some (.ref a), some (.ref b), none, none, none] H
  unfold t_law_same
  walk_at "go"
  refine iAny_lst ?_
  walk_at "go"
  walk_at "al"
  intro s hs
  walk_at "go"
  have e0 := Ex.new (o := HO.lst [V.ref t, V.ref a, V.ref b]) hs
  refine ⟨s, [(t, (glV l1 l2, llV h1 h2)), (a, (l1, h1)), (b, (l2, h2))], rfl, ⟨upd_same, fun x hx => ?_⟩, by show 3 ≤ 3; decide, fun r H1 e1 hr => ?_⟩
  · rcases (by simpa using hx : x = (t, (glV l1 l2, llV h1 h2)) ∨ x = (a, (l1, h1)) ∨ x = (b, (l2, h2))) with rfl | rfl | rfl
    · exact pt.ex e0
    · exact pa.ex e0
    · exact pb.ex e0
  · have e01 := e0.trans e1
    refine ⟨r, rfl, ⟨_, SqL.of hr⟩, for_list (K := K) (a := r) (xs := _) (fun i σ H2 => ∃ v3, σ = [some (.ref t), some (.ref a), some (.ref b), v3, none, none] ∧ Ex H1 H2) ⟨none, rfl, Ex.refl _⟩ (fun i σ H2 _ ⟨_, _, e⟩ => SqL.of (e _ _ hr)) ?_ ?_⟩
    · rintro i x σ H2 hi ⟨v3, rfl, e2⟩
      obtain ⟨n, rfl⟩ : ∃ n, x = V.int n := by
        have hm := List.mem_of_getElem? hi
        obtain ⟨n, _, rfl⟩ := List.mem_map.mp hm
        exact ⟨n, rfl⟩
      have e02 := e01.trans e2
      walk_at "go"
      refine u_has (pt.ex e02) ?_
      walk_at "go"
      refine u_has (pa.ex e02) ?_
      rw [has_common n pa.2.1 pa.2.2 pb.2.1 pb.2.2]
      walk_at "go"
      refine ite2 (fun c => ?_) (fun c => ?_)
      · walk_at "go"
        refine u_has (pb.ex e02) ?_
        rw [c]
        walk_at "go"
        refine s_itef (by simp) ?_
        walk_at "go"
        exact ⟨_, rfl, e2⟩
      · rw [Bool.eq_false_iff.mpr c]
        walk_at "go"
        first
          | exact ⟨_, rfl, e2⟩
          | (refine s_itef (by simp) ?_
             walk_at "go"
             exact ⟨_, rfl, e2⟩)
    · rintro σ H2 ⟨v3, rfl, e2⟩
      have e02 := e01.trans e2
      walk_at "go"
      refine lc_gen (P := AtT K H2 ([l1, h1] ++ [l2, h2])) (xs := [l1, h1] ++ [l2, h2]) (fun x => !decide (x = .non)) (fun x => x) (fun R r => iAny_tup ?_) AtT.w (by rw [sizeLine_eq]; simp) (fun J H3 hP x hx => ?_) (fun J H3 hP x hx _ => ?_) fun J H3 D H4 hP hD e4 hl => ?_
      · walk_at "go"
        refine s_addT (pa.ex e02).1 (pb.ex e02).1 (by simp) (by simp) (by rw [sizeLine_eq]; simp) fun u hu => ?_
        exact ⟨u, rfl, ⟨_, SqT.of upd_same⟩, r _ _ ⟨u, rfl, upd_same, Ex.new hu⟩⟩
      · intro H4 e5 R r
        walk_at "go"
        exact r _ (Ex.refl _)
      · intro H4 e5 R r
        walk_at "go"
        exact r _ (Ex.refl _)
      · obtain ⟨_, _, _, e3⟩ := hP
        have e04 := (e02.trans e3).trans e4
        walk_at "go"
        have hall : (List.map (fun x => x) (List.filter (fun x => !decide (x = V.non)) ([l1, h1] ++ [l2, h2]))).all flatV = true := by
          rw [List.all_eq_true]
          intro x hx
          have hx2 : x ∈ [l1, h1] ++ [l2, h2] := by
            obtain ⟨y, hy, rfl⟩ := List.mem_map.mp hx
            exact (List.mem_filter.mp hy).1
          rcases (by simpa using hx2 : x = l1 ∨ x = h1 ∨ x = l2 ∨ x = h2) with rfl | rfl | rfl | rfl
          · exact flat_lim pa.2.1
          · exact flat_lim pa.2.2
          · exact flat_lim pb.2.1
          · exact flat_lim pb.2.2
        refine lc_pure (walk_tup (K := K) (a := t) (xs := [glV l1 l2, llV h1 h2])) (fun x => false) (fun x => x) (fun R r => iAny_tup ⟨_, rfl, t, rfl, ⟨_, SqT.of (pt.ex e04).1⟩, r⟩) (fun H' e => SqT.of (e _ _ (pt.ex e04).1)) (by rw [sizeLine_eq]; simp) (fun x hx => ?_) (fun x hx q => by cases q) fun D2 H5 hD2 e6 hl2 => ?_
        · intro H6 e7 R r
          have hx3 : limV x = true ∧ (x = l1 ∨ x = l2 ∨ x = h1 ∨ x = h2) := by
            rcases (by simpa using hx : x = glV l1 l2 ∨ x = llV h1 h2) with rfl | rfl
            · refine ⟨glV_lim pa.2.1 pb.2.1, ?_⟩
              rcases gl_mem pa.2.1 pb.2.1 with e | e
              · exact .inl e
              · exact .inr (.inl e)
            · refine ⟨llV_lim pa.2.2 pb.2.2, ?_⟩
              rcases ll_mem pa.2.2 pb.2.2 with e | e
              · exact .inr (.inr (.inl e))
              · exact .inr (.inr (.inr e))
          rcases lim_cases hx3.1 with rfl | ⟨n, rfl⟩
          · walk_at "go"
            exact r _ (Ex.refl _)
          · walk_at "go"
            refine .inr (.inl ⟨D, _, rfl, .inl (SqL.of (e7 _ _ hl)), rfl, hall, ?_⟩)
            have hin : inV (.int n) (List.map (fun x => x) (List.filter (fun x => !decide (x = V.non)) ([l1, h1] ++ [l2, h2]))) = true := by
              refine inV_mem (List.mem_map.mpr ⟨_, List.mem_filter.mpr ⟨?_, by simp⟩, rfl⟩)
              rcases hx3.2 with e | e | e | e <;> simp [← e]
            rw [hin]
            walk_at "go"
            exact r _ (Ex.refl _)
        · walk_at "go"
          walk_at "al"
          intro n1 m1
          have hl3 : H5 D2 = some (.lst []) := by rw [hl2]; simp
          refine s_eqNil (xs := []) (by walk_at "look") upd_same ?_
          exact k _ ((e04.trans e6).trans (Ex.new m1))
end
end Z

namespace Z
open PySem PySem.Spec PyProof.Rows L2 Evl
section
variable {K : PySem.W.Frag} {H : Hp} {Q : VK} {E : XK} {a b : Addr} {l1 h1 l2 h2 : V}
theorem u_inspan {k : Int} (ha : H a = some (.tup [l1, h1])) (s : spL [l1, h1] = true) (q : Q (.bl (hasV l1 h1 k)) H) : sp_in_span K [.ref a, .int k] H Q E :=
  ⟨.ref a, .tup [l1, h1], .int k, .sc (.int k), rfl, ⟨a, rfl, ha⟩, deep_lim (spL_lim s).1 (spL_lim s).2, ⟨rfl, rfl⟩, fun c => (spD_false c rfl s).elim, (fun _ c => by cases c), fun l h n e1 _ e2 => by
    cases e1
    cases e2
    exact q⟩
theorem u_meet (ha : H a = some (.tup [l1, h1])) (hb : H b = some (.tup [l2, h2])) (s1 : spL [l1, h1] = true) (s2 : spL [l2, h2] = true) (q : ∀ H', Ex H H' → Q (.bl (spL [glV l1 l2, llV h1 h2])) H') : sp_meet K [.ref a, .ref b] H Q E :=
  ⟨.ref a, .tup [l1, h1], .ref b, .tup [l2, h2], rfl, ⟨a, rfl, ha⟩, deep_lim (spL_lim s1).1 (spL_lim s1).2, ⟨b, rfl, hb⟩, deep_lim (spL_lim s2).1 (spL_lim s2).2, fun c => (spD_false c rfl s1).elim, fun _ c => (spD_false c rfl s2).elim,
    fun _ _ _ _ e1 e2 _ _ => by
      cases e1
      cases e2
      exact q⟩
theorem u_common (ha : H a = some (.tup [l1, h1])) (hb : H b = some (.tup [l2, h2])) (s1 : spL [l1, h1] = true) (s2 : spL [l2, h2] = true) (q : ∀ r H', Ex H H' → Com H' r (glV l1 l2) (llV h1 h2) → Q r H') : sp_common K [.ref a, .ref b] H Q E :=
  ⟨.ref a, .tup [l1, h1], .ref b, .tup [l2, h2], rfl, ⟨a, rfl, ha⟩, deep_lim (spL_lim s1).1 (spL_lim s1).2, ⟨b, rfl, hb⟩, deep_lim (spL_lim s2).1 (spL_lim s2).2, fun c => (spD_false c rfl s1).elim, fun _ c => (spD_false c rfl s2).elim,
    fun _ _ _ _ e1 e2 _ _ => by
      cases e1
      cases e2
      exact q⟩
end
theorem filter_int (p : V → Bool) (ks : List Int) : (ks.map V.int).filter p = (ks.filter fun k => p (.int k)).map V.int := by
  rw [List.filter_map]
  rfl
def hasP (l h : V) : V → Bool
  | .int k => hasV l h k
  | _ => false
section
variable (K : PySem.W.Frag) (vs : List V) (H : Hp) (Q : VK) (E : XK)
theorem len_law_right : ∀ vs H Q E, sp_law_right K vs H Q E → vs.length = (["first", "second"] : List Str).length := fun _ _ _ _ ⟨_, _, _, _, _, _, h, _⟩ => by rw [h]; rfl
theorem pure_law_right (h : sp_law_right K vs H Q E) : t_law_right K { nx := fun _ H' => Q .non H', rt := Q } (start ["first", "second", "keys", "both", "place", "told", "inner", "item"] vs) H := by
  obtain ⟨a, b, l1, h1, l2, h2, rfl, ha, hb, s1, s2, k⟩ := h
  show t_law_right K _ [some (.ref a), some (.ref b), none, none, none, none, none, none] H
  unfold t_law_right
  obtain ⟨x1, y1⟩ := spL_lim s1
  obtain ⟨x2, y2⟩ := spL_lim s2
  have pa : Pr H a l1 h1 := ⟨ha, x1, y1⟩
  have pb : Pr H b l2 h2 := ⟨hb, x2, y2⟩
  have mi := meet_iff s1 s2
  walk_at "go"
  walk_at "al"
  intro s hs
  walk_at "go"
  have e0 := Ex.new (o := HO.lst [V.ref a, V.ref b]) hs
  refine ⟨s, [(a, (l1, h1)), (b, (l2, h2))], rfl, ⟨upd_same, fun x hx => ?_⟩, by show 2 ≤ 3; decide, fun r H1 e1 hr => ?_⟩
  · rcases (by simpa using hx : x = (a, (l1, h1)) ∨ x = (b, (l2, h2))) with rfl | rfl
    · exact pa.ex e0
    · exact pb.ex e0
  have e01 := e0.trans e1
  change H1 r = some (.lst ((keysOf [(l1, h1), (l2, h2)]).map V.int)) at hr
  have bk : (keysOf [(l1, h1), (l2, h2)]).length ≤ 13 := keys_lim
  generalize hks : keysOf [(l1, h1), (l2, h2)] = ks at hr mi bk
  walk_at "go"
  refine lc_pure (walk_list (K := K) (a := r) (xs := ks.map V.int)) (fun v => hasP l1 h1 v && hasP l2 h2 v) (fun x => x) (fun R q => iAny_lst ⟨_, rfl, r, rfl, ⟨_, SqL.of hr⟩, q⟩) (fun H' e => SqL.of (e _ _ hr)) (by rw [sizeLine_eq, List.length_map]; omega) (fun x hx => ?_) (fun x hx _ => ?_) fun D H2 hD e2 hl => ?_
  · obtain ⟨n, _, rfl⟩ := List.mem_map.mp hx
    intro H3 e3 R q
    walk_at "go"
    refine u_has (pa.ex (e01.trans e3)) ?_
    walk_at "go"
    refine ite2 (fun c => ?_) (fun c => ?_)
    · walk_at "go"
      refine u_has (pb.ex (e01.trans e3)) ?_
      walk_at "go"
      have : (hasP l1 h1 (.int n) && hasP l2 h2 (.int n)) = hasV l2 h2 n := by
        show (hasV l1 h1 n && hasV l2 h2 n) = _
        rw [c, Bool.true_and]
      rw [← this]
      exact q _ (Ex.refl _)
    · have : (hasP l1 h1 (.int n) && hasP l2 h2 (.int n)) = false := by
        show (hasV l1 h1 n && hasV l2 h2 n) = _
        rw [Bool.eq_false_iff.mpr c, Bool.false_and]
      rw [← this]
      exact q _ (Ex.refl _)
  · intro H3 e3 R q
    walk_at "go"
    exact q _ (Ex.refl _)
  rw [List.map_id', filter_int] at hl
  change H2 D = some (.lst ((ks.filter fun n => hasV l1 h1 n && hasV l2 h2 n).map V.int)) at hl
  generalize hbo : (ks.filter fun n => hasV l1 h1 n && hasV l2 h2 n) = bo at hl mi
  have e02 := e01.trans e2
  walk_at "go"
  refine iAny_lst ?_
  walk_at "go"
  refine ⟨r, rfl, ⟨_, SqL.of (e2 _ _ hr)⟩, for_list (K := K) (a := r) (xs := ks.map V.int) (fun i σ H3 => ∃ v4 v5, σ = [some (.ref a), some (.ref b), some (.ref r), some (.ref D), v4, v5, none, none] ∧ Ex H2 H3) ⟨_, _, rfl, Ex.refl _⟩ (fun i σ H3 _ ⟨_, _, _, e⟩ => SqL.of (e _ _ (e2 _ _ hr))) ?_ ?_⟩
  · rintro i x σ H3 hi ⟨v4, v5, rfl, e3⟩
    obtain ⟨n, rfl⟩ : ∃ n, x = V.int n := by
      obtain ⟨n, _, rfl⟩ := List.mem_map.mp (List.mem_of_getElem? hi)
      exact ⟨n, rfl⟩
    have e03 := e02.trans e3
    walk_at "go"
    refine u_inspan (e03 _ _ ha) s1 ?_
    walk_at "go"
    refine ⟨rfl, rfl, u_inspan (e03 _ _ hb) s2 ?_⟩
    walk_at "go"
    walk_at "al"
    intro t ht
    walk_at "go"
    refine lc_notBool (bs := [hasV l1 h1 n, hasV l2 h2 n]) upd_same rfl (by show 7 < 8; decide) (by show 2 ≤ 1000; decide) fun D2 H4 hD2 e4 hl2 => ?_
    walk_at "go"
    walk_at "al"
    intro m1 g1
    refine s_neNil (xs := []) (by walk_at "look") upd_same ?_
    walk_at "go"
    have e44 : Ex H3 H4 := (Ex.new ht).trans e4
    have e45 : Ex H3 (upd H4 m1 (.lst [])) := e44.trans (Ex.new g1)
    refine u_has (pa.ex (e03.trans e45)) ?_
    walk_at "go"
    refine u_has (pb.ex (e03.trans e45)) ?_
    walk_at "go"
    walk_at "al"
    intro m2 g2
    have ht4 : upd (upd H4 m1 (.lst [])) m2 (.lst [.bl (hasV l1 h1 n), .bl (hasV l2 h2 n)]) t = some (.lst [.bl (hasV l1 h1 n), .bl (hasV l2 h2 n)]) := Ex.new g2 _ _ (Ex.new g1 _ _ (e4 _ _ upd_same))
    refine s_neG (.lst (SqL.of ht4) (SqL.of upd_same) rfl (.cons (.sc rfl) (.cons (.sc rfl) .nil))) ?_
    walk_at "go"
    refine s_itef (by simp) ?_
    walk_at "go"
    exact ⟨_, _, rfl, (e3.trans e45).trans (Ex.new g2)⟩
  · rintro σ H3 ⟨v4, v5, rfl, e3⟩
    have e03 := e02.trans e3
    walk_at "go"
    refine u_meet (e03 _ _ ha) (e03 _ _ hb) s1 s2 fun H4 e4 => ?_
    walk_at "go"
    refine s_isiT (d := .sc (.bl _)) kit_bool ⟨rfl, rfl⟩ ?_
    walk_at "go"
    have e04 := e03.trans e4
    refine u_meet (e04 _ _ ha) (e04 _ _ hb) s1 s2 fun H5 e5 => ?_
    have e05 := e04.trans e5
    walk_at "go"
    walk_at "al"
    intro m1 g1
    have hlD : H5 D = some (.lst (bo.map V.int)) := e5 _ _ (e4 _ _ (e3 _ _ hl))
    refine s_neNil (Ex.new g1 _ _ hlD) upd_same ?_
    walk_at "go"
    refine s_itef (by rw [mi]; cases bo <;> rfl) ?_
    walk_at "go"
    have e06 : Ex H (upd H5 m1 (.lst [])) := e05.trans (Ex.new g1)
    refine u_common (e06 _ _ ha) (e06 _ _ hb) s1 s2 fun v H6 e7 cm => ?_
    have e07 := e06.trans e7
    have hlD6 : H6 D = some (.lst (bo.map V.int)) := e7 _ _ (Ex.new g1 _ _ hlD)
    walk_at "go"
    unfold Com at cm
    by_cases c : spL [glV l1 l2, llV h1 h2] = true
    · rw [if_pos c] at cm
      rw [c] at mi
      obtain ⟨t, rfl, ht⟩ := cm
      have nb : bo ≠ [] := fun z => by
        rw [z] at mi
        cases mi
      have nbe : (bo.map V.int).isEmpty = false := by
        cases bo with
        | nil => exact absurd rfl nb
        | cons _ _ => rfl
      walk_at "go"
      walk_at "al"
      intro m2 g2
      refine s_eqNil (Ex.new g2 _ _ hlD6) upd_same ?_
      rw [nbe]
      walk_at "go"
      have ht7 : upd H6 m2 (.lst []) t = some (.tup [glV l1 l2, llV h1 h2]) := Ex.new g2 _ _ ht
      refine s_isiT (d := .tup [glV l1 l2, llV h1 h2]) kit_tuple ⟨t, rfl, ht7⟩ ?_
      walk_at "go"
      refine s_lenT ht7 ?_
      walk_at "go"
      have e08 : Ex H (upd H6 m2 (.lst [])) := e07.trans (Ex.new g2)
      refine u_common (e08 _ _ hb) (e08 _ _ ha) s2 s1 fun v2 H8 e8 cm2 => ?_
      walk_at "go"
      unfold Com at cm2
      rw [glV_comm x2 x1, llV_comm y2 y1, if_pos c] at cm2
      obtain ⟨t2, rfl, ht2⟩ := cm2
      have e09 := e08.trans e8
      have x3 := glV_lim x1 x2
      have y3 := llV_lim y1 y2
      refine s_neG (.tup (SqT.of ht2) (SqT.of (e8 _ _ ht7)) (.cons (.sc (scB_lim x3)) (.cons (.sc (scB_lim y3)) .nil))) ?_
      walk_at "go"
      refine s_itef (by simp) ?_
      walk_at "go"
      have pt : Pr H8 t (glV l1 l2) (llV h1 h2) := ⟨e8 _ _ ht7, x3, y3⟩
      have hr8 : H8 r = some (.lst (ks.map V.int)) := e8 _ _ (Ex.new g2 _ _ (e7 _ _ (Ex.new g1 _ _ (e5 _ _ (e4 _ _ (e3 _ _ (e2 _ _ hr)))))))
      have bk2 : (keysOf [(glV l1 l2, llV h1 h2)]).length ≤ 7 := keys_lim
      refine lc_gen (P := AtL K H8 (ks.map V.int ++ (keysOf [(glV l1 l2, llV h1 h2)]).map V.int)) (xs := ks.map V.int ++ (keysOf [(glV l1 l2, llV h1 h2)]).map V.int) (fun v => hasP (glV l1 l2) (llV h1 h2) v) (fun x => x) (fun R q => iAny_lst ?_) AtL.w
        (by rw [sizeLine_eq]; simp only [List.length_append, List.length_map]; omega) (fun J H9 hP x hx => ?_) (fun J H9 hP x hx _ => ?_) fun J H9 D2 H10 hP hD2 e10 hl2 => ?_
      · walk_at "go"
        walk_at "al"
        intro m3 g3
        walk_at "go"
        refine ⟨m3, [(t, (glV l1 l2, llV h1 h2))], rfl, ⟨upd_same, fun x hx => ?_⟩, by show 1 ≤ 3; decide, fun r2 H9 e9 hr2 => ?_⟩
        · rcases (by simpa using hx : x = (t, (glV l1 l2, llV h1 h2))) with rfl
          exact pt.ex (Ex.new g3)
        · refine s_addL (e9 _ _ (Ex.new g3 _ _ hr8)) hr2 ?_ fun u hu => ?_
          · rw [sizeLine_eq]
            simp only [List.length_map, List.map_cons, List.map_nil]
            omega
          · exact ⟨u, rfl, ⟨_, SqL.of upd_same⟩, q _ _ ⟨u, rfl, upd_same, ((Ex.new g3).trans e9).trans (Ex.new hu)⟩⟩
      · obtain ⟨_, _, _, e9⟩ := hP
        obtain ⟨n, rfl⟩ : ∃ n, x = V.int n := by
          rcases List.mem_append.mp hx with hx | hx <;> (obtain ⟨n, _, rfl⟩ := List.mem_map.mp hx; exact ⟨n, rfl⟩)
        intro H11 e11 R q
        walk_at "go"
        refine u_has (pt.ex (e9.trans e11)) ?_
        walk_at "go"
        exact q _ (Ex.refl _)
      · intro H11 e11 R q
        walk_at "go"
        exact q _ (Ex.refl _)
      · obtain ⟨_, _, _, e9⟩ := hP
        have e10' := e9.trans e10
        rw [List.map_id'] at hl2
        walk_at "go"
        walk_at "al"
        intro m4 g4
        refine s_neNil (Ex.new g4 _ _ hl2) upd_same ?_
        have ne : ((ks.map V.int ++ (keysOf [(glV l1 l2, llV h1 h2)]).map V.int).filter fun v => hasP (glV l1 l2) (llV h1 h2) v).isEmpty = false := by
          obtain ⟨n, hn⟩ := List.exists_mem_of_ne_nil _ nb
          rw [← hbo] at hn
          obtain ⟨hn1, hn2⟩ := List.mem_filter.mp hn
          have hm : V.int n ∈ (ks.map V.int ++ (keysOf [(glV l1 l2, llV h1 h2)]).map V.int).filter fun v => hasP (glV l1 l2) (llV h1 h2) v := by
            refine List.mem_filter.mpr ⟨List.mem_append_left _ (List.mem_map.mpr ⟨n, hn1, rfl⟩), ?_⟩
            show hasV (glV l1 l2) (llV h1 h2) n = true
            rw [has_common n x1 y1 x2 y2]
            exact hn2
          cases e : (ks.map V.int ++ (keysOf [(glV l1 l2, llV h1 h2)]).map V.int).filter fun v => hasP (glV l1 l2) (llV h1 h2) v with
          | nil => rw [e] at hm; cases hm
          | cons _ _ => rfl
        rw [ne]
        walk_at "go"
        have e12 : Ex H (upd H10 m4 (.lst [])) := (e09.trans e10').trans (Ex.new g4)
        refine ⟨t, a, b, l1, h1, l2, h2, rfl, pa.ex e12, pb.ex e12, pt.ex (e10'.trans (Ex.new g4)), fun H13 e13 => ?_⟩
        exact k _ (e12.trans e13)
    · rw [if_neg c] at cm
      subst cm
      rw [Bool.eq_false_iff.mpr c] at mi
      have nb : bo = [] := by
        cases bo with
        | nil => rfl
        | cons _ _ => cases mi
      subst nb
      walk_at "go"
      walk_at "al"
      intro m2 g2
      refine s_eqNil (Ex.new g2 _ _ hlD6) upd_same ?_
      exact k _ (e07.trans (Ex.new g2))
end
end Z

namespace Z
open PySem PySem.Spec PyProof.Rows L2 Evl
/-- a datum apart from the box at p -/
def IsP (p : Addr) (H : Hp) (v : V) (d : Kd) : Prop := Is H v d ∧ Deep H d ∧ v ≠ .ref p
theorem Is.butN {H H' : Hp} {p : Addr} {v : V} {d : Kd} (h : Is H v d) (s : But p H H') (hn : v ≠ .ref p) : Is H' v d := by
  cases d with
  | sc x => exact h
  | tup xs => obtain ⟨a, rfl, q⟩ := h; exact ⟨a, rfl, s _ _ q (fun z => hn (by rw [z]))⟩
  | lst xs => obtain ⟨a, rfl, q⟩ := h; exact ⟨a, rfl, s _ _ q (fun z => hn (by rw [z]))⟩
  | dct xs => obtain ⟨a, rfl, q⟩ := h; exact ⟨a, rfl, s _ _ q (fun z => hn (by rw [z]))⟩
def flatD : Kd → Bool
  | .tup xs => xs.all isSc
  | _ => true
theorem deep_flat {H : Hp} {d : Kd} (h : flatD d = true) : Deep H d := by
  cases d with
  | tup xs => exact fun x hx => ⟨.sc x, rfl, List.all_eq_true.mp h x hx⟩
  | _ => trivial
theorem eqI_self {K : PySem.W.Frag} {H : Hp} {n : Nat} {v : V} {d : Kd} (h : Is H v d) : EqI K H (n + 1) v v true := by
  cases d with
  | sc x =>
    obtain ⟨rfl, hs⟩ := h
    have e : scB v v = true := by cases v <;> first | rfl | cases hs
    have := EqI.sc (K := K) (H := H) (n := n) e
    simpa using this
  | tup xs => obtain ⟨a, rfl, q⟩ := h; exact EqI.same a
  | lst xs => obtain ⟨a, rfl, q⟩ := h; exact EqI.same a
  | dct xs => obtain ⟨a, rfl, q⟩ := h; exact EqI.same a
theorem told_ne {K : PySem.W.Frag} {H : Hp} {Q : VK} {r m : Addr} {s : Str} {v : V} {d : Kd} (hr : H r = some (.lst [.str s, v])) (hm : H m = some (.lst [.str s, v])) (hv : Is H v d) (q : Q (.bl false) H) : rNeA K (.ref r) (.ref m) H Q := by
  refine s_neG (.lst (SqL.of hr) (SqL.of hm) rfl (.cons (EqI.sc rfl) (.cons (eqI_self hv) .nil))) ?_
  have e : (!([decide (V.str s = V.str s), true].all id)) = false := by simp
  rw [e]
  exact q
theorem u_told {K : PySem.W.Frag} {H : Hp} {Q : VK} {E : XK} {way : Int} {v1 v2 : V} {d1 d2 : Kd} {s : Str} {v : V} (w0 : 0 ≤ way) (w2 : way ≤ 2) (i1 : Is H v1 d1) (p1 : Deep H d1) (i2 : Is H v2 d2) (p2 : Deep H d2)
    (c : (spD d1 = false ∧ s = "span" ∧ v = v1) ∨ (spD d1 = true ∧ 1 ≤ way ∧ spD d2 = false ∧ s = "span" ∧ v = v2) ∨ (spD d1 = true ∧ way = 0 ∧ isIV v2 = false ∧ s = "key" ∧ v = v2))
    (q : ∀ (p : Addr) (H' : Hp), Ex H H' → H' p = some (.lst [.str s, v]) → Q (.ref p) H') : sp_law_told K [.int way, v1, v2] H Q E := ⟨way, v1, v2, d1, d2, rfl, w0, w2, i1, p1, i2, p2, s, v, c, q⟩
section
variable (K : PySem.W.Frag) (vs : List V) (H : Hp) (Q : VK) (E : XK)
theorem len_law : ∀ vs H Q E, sp_law K vs H Q E → vs.length = (["script"] : List Str).length := fun _ _ _ _ ⟨_, _, h, _⟩ => by rw [h]; rfl
theorem pure_law (h : sp_law K vs H Q E) : t_law K { nx := fun _ H' => Q .non H', rt := Q } (start ["script", "k", "box", "first", "second", "bad", "worse", "way", "strange"] vs) H := by
  obtain ⟨a, ns, rfl, hs, hn, k⟩ := h
  show t_law K _ [some (.ref a), none, none, none, none, none, none, none, none] H
  unfold t_law
  walk_at "go"
  refine iRng1_of ?_
  walk_at "go"
  refine s_lenLK hs ?_
  walk_at "go"
  have hl : (ns.map V.int).length ≤ 63 := by rw [List.length_map]; exact hn
  generalize hM : (if (if ((ns.map V.int).length : Int) < 16 then ((ns.map V.int).length : Int) else 16) > 2 then (if ((ns.map V.int).length : Int) < 16 then ((ns.map V.int).length : Int) else 16) else 2) = M
  have hM0 : 0 ≤ M ∧ M ≤ 16 := by
    rw [← hM]
    split <;> split <;> omega
  refine ⟨M, rfl, by omega, by omega, ?_⟩
  refine for_range (lo := 0) (n := M.toNat) (fun i σ H2 => Ex H H2 ∧ ∃ v1 v2 v3 v4 v5 v6 v7 v8, σ = [some (.ref a), v1, v2, v3, v4, v5, v6, v7, v8]) ⟨Ex.refl _, _, _, _, _, _, _, _, _, rfl⟩ ?_ ?_
  · rintro i σ H2 hi ⟨e2, v1, v2, v3, v4, v5, v6, v7, v8, rfl⟩
    walk_at "go"
    refine ⟨a, ns, _, rfl, ex_l e2 hs, by omega, by omega, fun c => ?_⟩
    walk_at "go"
    refine ⟨_, rfl, fun p H3 hp e3 B3 => ?_⟩
    have hp0 : H p = none := fresh_back e2 hp
    walk_at "go"
    refine ⟨p, 0, rfl, B3, by omega, fun a1 l1 h1 H4 b4 B4 ha1 s1 => ?_⟩
    walk_at "go"
    refine ⟨p, 4, rfl, B4, by omega, fun a2 l2 h2 H5 b5 B5 ha2 s2 => ?_⟩
    have n1 : a1 ≠ p := by
      obtain ⟨_, _, _, e, _⟩ := B4
      exact ne_of ha1 e (fun z => by cases z)
    have n2 : a2 ≠ p := by
      obtain ⟨_, _, _, e, _⟩ := B5
      exact ne_of ha2 e (fun z => by cases z)
    have ha15 := b5 _ _ ha1 n1
    have b35 := b4.trans b5
    clear b4 b5
    walk_at "go"
    refine ⟨_, _, rfl, ?_⟩
    walk_at "go"
    refine ⟨a1, a2, l1, h1, l2, h2, rfl, ha15, ha2, s1, s2, fun H6 e6 => ?_⟩
    walk_at "go"
    have B6 := B5.ex e6
    have b36 := b35.ex e6
    have ha16 := e6 _ _ ha15
    clear b35
    -- bad
    walk_at "al"
    intro t1 g1
    walk_at "go"
    walk_at "al"
    intro t2 g2
    walk_at "go"
    walk_at "al"
    intro t3 g3
    walk_at "go"
    walk_at "al"
    intro t4 g4
    walk_at "go"
    walk_at "al"
    intro t5 g5
    walk_at "go"
    walk_at "al"
    intro m1 f1
    walk_at "go"
    refine menu_of (m := 8) (H0 := H3) (n := 8) (by walk_at "but") (by walk_at "bx") (by omega) rfl (by decide) (by decide +kernel) (fun v H7 hv b7 c7 B7 => ?_) m1 f1
    have N1 : t1 ≠ p := by walk_at "ne"
    have N2 : t2 ≠ p := by walk_at "ne"
    have N3 : t3 ≠ p := by walk_at "ne"
    have N4 : t4 ≠ p := by walk_at "ne"
    have N5 : t5 ≠ p := by walk_at "ne"
    have hbad : ∃ d, Is H7 v d ∧ Deep H7 d ∧ v ≠ .ref p ∧ spD d = false ∧ flatD d = true := by
      simp only [List.mem_cons, List.mem_nil_iff, or_false] at hv
      rcases hv with rfl | rfl | rfl | rfl | rfl | rfl | rfl | rfl
      · exact ⟨.sc .non, ⟨rfl, rfl⟩, trivial, (fun z => by cases z), rfl, rfl⟩
      · exact ⟨.sc (.int 5), ⟨rfl, rfl⟩, trivial, (fun z => by cases z), rfl, rfl⟩
      · exact ⟨.lst _, ⟨t1, rfl, c7 _ _ (by walk_at "look") N1⟩, trivial, (fun z => N1 (by cases z; rfl)), rfl, rfl⟩
      · exact ⟨.tup _, ⟨t2, rfl, c7 _ _ (by walk_at "look") N2⟩, deep_flat rfl, (fun z => N2 (by cases z; rfl)), rfl, rfl⟩
      · exact ⟨.tup _, ⟨t3, rfl, c7 _ _ (by walk_at "look") N3⟩, deep_flat rfl, (fun z => N3 (by cases z; rfl)), rfl, rfl⟩
      · exact ⟨.tup _, ⟨t4, rfl, c7 _ _ (by walk_at "look") N4⟩, deep_flat rfl, (fun z => N4 (by cases z; rfl)), rfl, rfl⟩
      · exact ⟨.sc (.str _), ⟨rfl, rfl⟩, trivial, (fun z => by cases z), rfl, rfl⟩
      · exact ⟨.tup _, ⟨t5, rfl, c7 _ _ (by walk_at "look") N5⟩, deep_flat rfl, (fun z => N5 (by cases z; rfl)), rfl, rfl⟩
    have ha17 : H7 a1 = some (.tup [l1, h1]) := c7 _ _ (by walk_at "look") n1
    clear c7 b36
    obtain ⟨d1, i1, p1, q1, z1, y1⟩ := hbad
    walk_at "go"
    intro t6 g6
    walk_at "go"
    walk_at "al"
    intro t7 g7
    walk_at "go"
    walk_at "al"
    intro m2 f2
    walk_at "go"
    refine menu_of (m := 3) (H0 := H7) (n := 9) (by walk_at "but") (by walk_at "bx") (by omega) rfl (by decide) (by decide +kernel) (fun v' H8 hv b8 c8 B8 => ?_) m2 f2
    have N6 : t6 ≠ p := by walk_at "ne"
    have N7 : t7 ≠ p := by walk_at "ne"
    have hworse : ∃ d, Is H8 v' d ∧ Deep H8 d ∧ v' ≠ .ref p ∧ spD d = false := by
      simp only [List.mem_cons, List.mem_nil_iff, or_false] at hv
      rcases hv with rfl | rfl | rfl
      · exact ⟨.sc (.str _), ⟨rfl, rfl⟩, trivial, (fun z => by cases z), rfl⟩
      · exact ⟨.dct _, ⟨t6, rfl, c8 _ _ (by walk_at "look") N6⟩, trivial, (fun z => N6 (by cases z; rfl)), rfl⟩
      · exact ⟨.tup _, ⟨t7, rfl, c8 _ _ (by walk_at "look") N7⟩, deep_flat rfl, (fun z => N7 (by cases z; rfl)), rfl⟩
    clear c8
    obtain ⟨d2, i2, p2, q2, z2⟩ := hworse
    have i18 := i1.butN b8 q1
    have p18 : Deep H8 d1 := deep_flat y1
    have ha18 : H8 a1 = some (.tup [l1, h1]) := b8 _ _ ha17 n1
    have bb8 : But p H3 H8 := b7.trans b8
    clear b7 b8
    walk_at "go"
    refine iRng1_of ?_
    walk_at "go"
    refine ⟨3, rfl, by decide, by decide, ?_⟩
    refine for_range (lo := 0) (n := 3) (fun j σ H9 => Ex H8 H9 ∧ ∃ v7, σ = [some (.ref a), some (.int (0 + (i : Int))), some (.ref p), some (.ref a1), some (.ref a2), some v, some v', v7, v8]) ⟨Ex.refl _, _, rfl⟩ ?_ ?_
    · rintro j σ H9 hj ⟨e9, w7, rfl⟩
      walk_at "go"
      refine u_told (by omega) (by omega) (i18.ex e9) (p18.ex e9) (i2.ex e9) (p2.ex e9) (.inl ⟨z1, rfl, rfl⟩) fun r H10 e10 hr => ?_
      walk_at "go"
      walk_at "al"
      intro m3 f3
      have e910 := e9.trans e10
      refine told_ne (Ex.new f3 _ _ hr) upd_same ((i18.ex e910).ex (Ex.new f3)) ?_
      walk_at "go"
      have e11 := e910.trans (Ex.new (o := HO.lst [V.str "span", v]) f3)
      refine u_told (by omega) (by omega) (i2.ex e11) (p2.ex e11) (i18.ex e11) (p18.ex e11) (.inl ⟨z2, rfl, rfl⟩) fun r2 H12 e12 hr2 => ?_
      walk_at "go"
      walk_at "al"
      intro m4 f4
      have e13 := e11.trans e12
      refine told_ne (Ex.new f4 _ _ hr2) upd_same ((i2.ex e13).ex (Ex.new f4)) ?_
      walk_at "go"
      exact ⟨e13.trans (Ex.new f4), _, rfl⟩
    · rintro σ H9 ⟨e9, w7, rfl⟩
      walk_at "go"
      refine iAny_lst ?_
      walk_at "go"
      walk_at "al"
      intro m5 f5
      refine ⟨m5, rfl, ⟨_, SqL.of upd_same⟩, for_list (K := K) (a := m5) (xs := [V.int 1, V.int 2]) (fun j σ H10 => Ex (upd H9 m5 (.lst [V.int 1, V.int 2])) H10 ∧ ∃ v7, σ = [some (.ref a), some (.int (0 + (i : Int))), some (.ref p), some (.ref a1), some (.ref a2), some v, some v', v7, v8])
        ⟨Ex.refl _, _, rfl⟩ (fun j σ H10 _ ⟨e, _⟩ => SqL.of (e _ _ upd_same)) ?_ ?_⟩
      · rintro j x σ H10 hj ⟨e10, w8, rfl⟩
        obtain ⟨way, rfl, w0, w2⟩ : ∃ way : Int, x = .int way ∧ 1 ≤ way ∧ way ≤ 2 := by
          rcases (by simpa using List.mem_of_getElem? hj : x = .int 1 ∨ x = .int 2) with rfl | rfl
          · exact ⟨1, rfl, by decide, by decide⟩
          · exact ⟨2, rfl, by decide, by decide⟩
        have e8' := (e9.trans (Ex.new (o := HO.lst [V.int 1, V.int 2]) f5)).trans e10
        walk_at "go"
        refine u_told (by omega) w2 (d1 := .tup [l1, h1]) ⟨a1, rfl, e8' _ _ ha18⟩ (deep_lim (spL_lim s1).1 (spL_lim s1).2) (i18.ex e8') (p18.ex e8') (.inr (.inl ⟨s1, w0, z1, rfl, rfl⟩)) fun r H11 e11 hr => ?_
        walk_at "go"
        walk_at "al"
        intro m6 f6
        have e12 := e8'.trans e11
        refine told_ne (Ex.new f6 _ _ hr) upd_same ((i18.ex e12).ex (Ex.new f6)) ?_
        walk_at "go"
        exact ⟨(e10.trans e11).trans (Ex.new f6), _, rfl⟩
      · rintro σ H10 ⟨e10, w8, rfl⟩
        have e8' := (e9.trans (Ex.new (o := HO.lst [V.int 1, V.int 2]) f5)).trans e10
        have ha110 := e8' _ _ ha18
        have B10 := B8.ex e8'
        have bb10 : But p H3 H10 := bb8.ex e8'
        clear bb8 e10 e9
        walk_at "go"
        walk_at "al"
        intro t8 g8
        walk_at "go"
        walk_at "al"
        intro t9 g9
        walk_at "go"
        walk_at "al"
        intro m7 f7
        walk_at "go"
        refine menu_of (m := 5) (H0 := H3) (n := 10) (by walk_at "but") (by walk_at "bx") (by omega) rfl (by decide) (by decide +kernel) (fun u H11 hv b11 c11 B11 => ?_) m7 f7
        have N8 : t8 ≠ p := by walk_at "ne"
        have N9 : t9 ≠ p := by walk_at "ne"
        have hst : ∃ d, Is H11 u d ∧ Deep H11 d ∧ isIV u = false := by
          simp only [List.mem_cons, List.mem_nil_iff, or_false] at hv
          rcases hv with rfl | rfl | rfl | rfl | rfl
          · exact ⟨.sc .non, ⟨rfl, rfl⟩, trivial, rfl⟩
          · exact ⟨.sc (.bl true), ⟨rfl, rfl⟩, trivial, rfl⟩
          · exact ⟨.sc (.str _), ⟨rfl, rfl⟩, trivial, rfl⟩
          · exact ⟨.tup _, ⟨t8, rfl, c11 _ _ (by walk_at "look") N8⟩, deep_flat rfl, rfl⟩
          · exact ⟨.lst _, ⟨t9, rfl, c11 _ _ (by walk_at "look") N9⟩, trivial, rfl⟩
        have ha111 : H11 a1 = some (.tup [l1, h1]) := c11 _ _ (by walk_at "look") n1
        clear c11 bb10
        obtain ⟨d3, i3, p3, z3⟩ := hst
        walk_at "go"
        refine u_told (by decide) (by decide) (d1 := .tup [l1, h1]) ⟨a1, rfl, ha111⟩ (deep_lim (spL_lim s1).1 (spL_lim s1).2) i3 p3 (.inr (.inr ⟨s1, rfl, z3, rfl, rfl⟩)) fun r H12 e12 hr => ?_
        walk_at "go"
        walk_at "al"
        intro m8 f8
        refine told_ne (Ex.new f8 _ _ hr) upd_same ((i3.ex e12).ex (Ex.new f8)) ?_
        walk_at "go"
        have be : But p H3 (upd H12 m8 (.lst [V.str "key", u])) := (b11.ex e12).ex (Ex.new f8)
        exact ⟨But.old hp0 (e2.trans e3) be, _, _, _, _, _, _, _, _, rfl⟩
  · rintro σ H2 ⟨e2, v1, v2, v3, v4, v5, v6, v7, v8, rfl⟩
    walk_at "go"
    exact k _
end
end Z

namespace Z
open PySem PySem.Spec PyProof.Rows L2 Evl
/-! ### the text by places, derivations (gen.py) -/
def top (i : Nat) : Stmt := PySem.Challenge.pw_shiftparts_k02_spans_laid_over_one_anoth.main.body.getD i (.Pass ⟨0, 0, 0, 0⟩)
structure Txt (P : Program) (K : PySem.W.Frag) (mg : Str → Option Value) : Prop where
  b_bool : mg "bool" = none
  b_int : mg "int" = none
  b_isinstance : mg "isinstance" = none
  b_len : mg "len" = none
  b_max : mg "max" = none
  b_min : mg "min" = none
  b_range : mg "range" = none
  b_super : mg "super" = none
  b_tuple : mg "tuple" = none
  g_InvalidKey : mg "InvalidKey" = some (.ref (He.ga K "InvalidKey"))
  g_InvalidSpan : mg "InvalidSpan" = some (.ref (He.ga K "InvalidSpan"))
  x_InvalidKey : PySem.Sxvalue.Txt P K mg "InvalidKey" (He.ga K "InvalidKey") (He.ma K (He.ga K "InvalidKey") "__init__")
  x_InvalidSpan : PySem.Sxvalue.Txt P K mg "InvalidSpan" (He.ga K "InvalidSpan") (He.ma K (He.ga K "InvalidSpan") "__init__")
  xf_InvalidKey : XfC K (He.ga K "InvalidKey")
  xf_InvalidSpan : XfC K (He.ga K "InvalidSpan")
  na_InvalidKey_value : PySem.W.findIn K (.ref (He.ga K "InvalidKey")) "value" = some none
  na_InvalidSpan_value : PySem.W.findIn K (.ref (He.ga K "InvalidSpan")) "value" = some none
  exm : Exm K
section
variable {P : Program} {w : World} {K : PySem.W.Frag} {mg : Str → Option Value} {base : Heap}
abbrev s_is_integer : Stmt := top 5
theorem sc_is_integer : FnScope ["value"] ["value"] (defScope s_is_integer) := ⟨rfl, rfl, rfl, by decide +kernel, rfl, by decide +kernel, by decide +kernel⟩
theorem okf_is_integer {fd : FuncData} (T : Txt P K mg) (F : FunD K "is_integer" "is_integer" (defArgs s_is_integer) (defBody s_is_integer) (defScope s_is_integer) [] [] (He.ga K "is_integer") fd)   : FnOk P w K mg base CX0 1 (He.ga K "is_integer") fd ["value"] (sp_is_integer K) := by
  have nd := sc_is_integer.nd
  refine F.ok (k := 0) sc_is_integer (len_is_integer K) (fun cdv A outer s H vs Q E hr h => ⟨t_is_integer K, PSs.nox ?_, pure_is_integer K vs H Q E h⟩)
  have hu : (A.deeper (envOfC "is_integer" (defScope s_is_integer) s.heap.objs.size (He.ga K "is_integer") cdv)).units + 64 < cLine := by
    have h1 := hr.un
    omega
  exact (pss_one (ps_ret ((pe_and (pe_callB call_isi (by rfl) T.b_isinstance (by decide +kernel) (pa_cons (pv 0) (pa_cons (pe_bltn (by rfl) T.b_int (by decide +kernel) rfl) pa_nil))) (pe_one (pe_not (pe_callB call_isi (by rfl) T.b_isinstance (by decide +kernel) (pa_cons (pv 0) (pa_cons (pe_bltn (by rfl) T.b_bool (by decide +kernel) rfl) pa_nil)))))))))
theorem ok_is_integer (T : Txt P K mg) (FD : ∃ fd, FunD K "is_integer" "is_integer" (defArgs s_is_integer) (defBody s_is_integer) (defScope s_is_integer) [] [] (He.ga K "is_integer") fd) (hm : mg "is_integer" = some (.ref (He.ga K "is_integer")))   : Fok P w K mg base CX0 1 "is_integer" ["value"] (sp_is_integer K) := by
  obtain ⟨fd, F⟩ := FD
  exact ⟨⟨fd, okf_is_integer T F  , F.bindsN fun _ _ _ _ _ _ us hl => match us, hl with | [_], _ => rfl⟩, hm, F.kp⟩
abbrev s_is_limit : Stmt := top 6
theorem sc_is_limit : FnScope ["value"] ["value"] (defScope s_is_limit) := ⟨rfl, rfl, rfl, by decide +kernel, rfl, by decide +kernel, by decide +kernel⟩
theorem okf_is_limit {fd : FuncData} (T : Txt P K mg) (F : FunD K "is_limit" "is_limit" (defArgs s_is_limit) (defBody s_is_limit) (defScope s_is_limit) [] [] (He.ga K "is_limit") fd) (F_is_integer : Fok P w K mg base CX0 1 "is_integer" ["value"] (sp_is_integer K))  : FnOk P w K mg base CX0 2 (He.ga K "is_limit") fd ["value"] (sp_is_limit K) := by
  have nd := sc_is_limit.nd
  refine F.ok (k := 1) sc_is_limit (len_is_limit K) (fun cdv A outer s H vs Q E hr h => ⟨t_is_limit K, PSs.nox ?_, pure_is_limit K vs H Q E h⟩)
  have hu : (A.deeper (envOfC "is_limit" (defScope s_is_limit) s.heap.objs.size (He.ga K "is_limit") cdv)).units + 64 < cLine := by
    have h1 := hr.un
    omega
  exact (pss_one (ps_ret ((pe_or (pe_cmpR op_isA (pv 0) (pe_non) (nomark _)) (pe_one (pe_callF F_is_integer (hr.mono (by decide)) (by rfl) pass0 (pa_cons (pv 0) pa_nil)))))))
theorem ok_is_limit (T : Txt P K mg) (FD : ∃ fd, FunD K "is_limit" "is_limit" (defArgs s_is_limit) (defBody s_is_limit) (defScope s_is_limit) [] [] (He.ga K "is_limit") fd) (hm : mg "is_limit" = some (.ref (He.ga K "is_limit"))) (F_is_integer : Fok P w K mg base CX0 1 "is_integer" ["value"] (sp_is_integer K))  : Fok P w K mg base CX0 2 "is_limit" ["value"] (sp_is_limit K) := by
  obtain ⟨fd, F⟩ := FD
  exact ⟨⟨fd, okf_is_limit T F F_is_integer , F.bindsN fun _ _ _ _ _ _ us hl => match us, hl with | [_], _ => rfl⟩, hm, F.kp⟩
abbrev s_is_span : Stmt := top 7
theorem sc_is_span : FnScope ["value", "low", "high"] ["value"] (defScope s_is_span) := ⟨rfl, rfl, rfl, by decide +kernel, rfl, by decide +kernel, by decide +kernel⟩
theorem okf_is_span {fd : FuncData} (T : Txt P K mg) (F : FunD K "is_span" "is_span" (defArgs s_is_span) (defBody s_is_span) (defScope s_is_span) [] [] (He.ga K "is_span") fd) (F_is_limit : Fok P w K mg base CX0 2 "is_limit" ["value"] (sp_is_limit K))  : FnOk P w K mg base CX0 3 (He.ga K "is_span") fd ["value"] (sp_is_span K) := by
  have nd := sc_is_span.nd
  refine F.ok (k := 2) sc_is_span (len_is_span K) (fun cdv A outer s H vs Q E hr h => ⟨t_is_span K, PSs.nox ?_, pure_is_span K vs H Q E h⟩)
  have hu : (A.deeper (envOfC "is_span" (defScope s_is_span) s.heap.objs.size (He.ga K "is_span") cdv)).units + 64 < cLine := by
    have h1 := hr.un
    omega
  exact (pss_cons (ps_if (PW.pt (pw_or (pt_not (pt_val (pe_callB call_isi (by rfl) T.b_isinstance (by decide +kernel) (pa_cons (pv 0) (pa_cons (pe_bltn (by rfl) T.b_tuple (by decide +kernel) rfl) pa_nil))))) (pw_or1 (pt_cmpR (op_neA hu) (pe_callB call_lenA (by rfl) T.b_len (by decide +kernel) (pa_cons (pv 0) pa_nil)) (pe_int) (nomark _))))) (pss_one (ps_ret (pe_bl))) pss_nil)
    (pss_cons (ps_asg (pv 0) (pg_tup (by rfl) (pgs_cons (pg_name (i := 1) nd (by rfl) (by first | exact Or.inl rfl | exact Or.inr rfl)) (pgs_cons (pg_name (i := 2) nd (by rfl) (by first | exact Or.inl rfl | exact Or.inr rfl)) pgs_nil))))
    (pss_cons (ps_if (PW.pt (pw_or (pt_not (pt_val (pe_callF F_is_limit (hr.mono (by decide)) (by rfl) pass0 (pa_cons (pv 1) pa_nil)))) (pw_or1 (pt_not (pt_val (pe_callF F_is_limit (hr.mono (by decide)) (by rfl) pass0 (pa_cons (pv 2) pa_nil))))))) (pss_one (ps_ret (pe_bl))) pss_nil)
    (pss_one (ps_ret ((pe_or (pe_cmpR op_isA (pv 1) (pe_non) (nomark _)) (pe_or (pe_cmpR op_isA (pv 2) (pe_non) (nomark _)) (pe_one (pe_cmpR op_ltA (pv 1) (pv 2) (nomark _)))))))))))
theorem ok_is_span (T : Txt P K mg) (FD : ∃ fd, FunD K "is_span" "is_span" (defArgs s_is_span) (defBody s_is_span) (defScope s_is_span) [] [] (He.ga K "is_span") fd) (hm : mg "is_span" = some (.ref (He.ga K "is_span"))) (F_is_limit : Fok P w K mg base CX0 2 "is_limit" ["value"] (sp_is_limit K))  : Fok P w K mg base CX0 3 "is_span" ["value"] (sp_is_span K) := by
  obtain ⟨fd, F⟩ := FD
  exact ⟨⟨fd, okf_is_span T F F_is_limit , F.bindsN fun _ _ _ _ _ _ us hl => match us, hl with | [_], _ => rfl⟩, hm, F.kp⟩
abbrev s_need_span : Stmt := top 8
theorem sc_need_span : FnScope ["value"] ["value"] (defScope s_need_span) := ⟨rfl, rfl, rfl, by decide +kernel, rfl, by decide +kernel, by decide +kernel⟩
theorem okf_need_span {fd : FuncData} (T : Txt P K mg) (F : FunD K "need_span" "need_span" (defArgs s_need_span) (defBody s_need_span) (defScope s_need_span) [] [] (He.ga K "need_span") fd) (F_is_span : Fok P w K mg base CX0 3 "is_span" ["value"] (sp_is_span K))  : FnOk P w K mg base (L2.CX P w) 4 (He.ga K "need_span") fd ["value"] (sp_need_span K) := by
  have nd := sc_need_span.nd
  refine F.ok (k := 3) sc_need_span (len_need_span K) (fun cdv A outer s H vs Q E hr h => ⟨t_need_span K E, ?_, pure_need_span K vs H Q E h⟩)
  have hu : (A.deeper (envOfC "need_span" (defScope s_need_span) s.heap.objs.size (He.ga K "need_span") cdv)).units + 64 < cLine := by
    have h1 := hr.un
    omega
  exact (pss_one (ps_if (pt_not (pt_val (pe_callF F_is_span (hr.mono (by decide)) (by rfl) pass0 (pa_cons (pv 0) pa_nil)))) (pss_one (ps_raisevalue (k := 1) rfl T.x_InvalidSpan (hr.mono (by decide)) (takes_of rfl rfl rfl rfl) (pa_cons (pv 0) pa_nil) (by rfl))) pss_nil))
theorem ok_need_span (T : Txt P K mg) (FD : ∃ fd, FunD K "need_span" "need_span" (defArgs s_need_span) (defBody s_need_span) (defScope s_need_span) [] [] (He.ga K "need_span") fd) (hm : mg "need_span" = some (.ref (He.ga K "need_span"))) (F_is_span : Fok P w K mg base CX0 3 "is_span" ["value"] (sp_is_span K))  : Fok P w K mg base (L2.CX P w) 4 "need_span" ["value"] (sp_need_span K) := by
  obtain ⟨fd, F⟩ := FD
  exact ⟨⟨fd, okf_need_span T F F_is_span , F.bindsN fun _ _ _ _ _ _ us hl => match us, hl with | [_], _ => rfl⟩, hm, F.kp⟩
abbrev s_need_key : Stmt := top 9
theorem sc_need_key : FnScope ["value"] ["value"] (defScope s_need_key) := ⟨rfl, rfl, rfl, by decide +kernel, rfl, by decide +kernel, by decide +kernel⟩
theorem okf_need_key {fd : FuncData} (T : Txt P K mg) (F : FunD K "need_key" "need_key" (defArgs s_need_key) (defBody s_need_key) (defScope s_need_key) [] [] (He.ga K "need_key") fd) (F_is_integer : Fok P w K mg base CX0 1 "is_integer" ["value"] (sp_is_integer K))  : FnOk P w K mg base (L2.CX P w) 2 (He.ga K "need_key") fd ["value"] (sp_need_key K) := by
  have nd := sc_need_key.nd
  refine F.ok (k := 1) sc_need_key (len_need_key K) (fun cdv A outer s H vs Q E hr h => ⟨t_need_key K E, ?_, pure_need_key K vs H Q E h⟩)
  have hu : (A.deeper (envOfC "need_key" (defScope s_need_key) s.heap.objs.size (He.ga K "need_key") cdv)).units + 64 < cLine := by
    have h1 := hr.un
    omega
  exact (pss_one (ps_if (pt_not (pt_val (pe_callF F_is_integer (hr.mono (by decide)) (by rfl) pass0 (pa_cons (pv 0) pa_nil)))) (pss_one (ps_raisevalue (k := 1) rfl T.x_InvalidKey (hr.mono (by decide)) (takes_of rfl rfl rfl rfl) (pa_cons (pv 0) pa_nil) (by rfl))) pss_nil))
theorem ok_need_key (T : Txt P K mg) (FD : ∃ fd, FunD K "need_key" "need_key" (defArgs s_need_key) (defBody s_need_key) (defScope s_need_key) [] [] (He.ga K "need_key") fd) (hm : mg "need_key" = some (.ref (He.ga K "need_key"))) (F_is_integer : Fok P w K mg base CX0 1 "is_integer" ["value"] (sp_is_integer K))  : Fok P w K mg base (L2.CX P w) 2 "need_key" ["value"] (sp_need_key K) := by
  obtain ⟨fd, F⟩ := FD
  exact ⟨⟨fd, okf_need_key T F F_is_integer , F.bindsN fun _ _ _ _ _ _ us hl => match us, hl with | [_], _ => rfl⟩, hm, F.kp⟩
abbrev s_has_key : Stmt := top 10
theorem sc_has_key : FnScope ["span", "key", "low", "high"] ["span", "key"] (defScope s_has_key) := ⟨rfl, rfl, rfl, by decide +kernel, rfl, by decide +kernel, by decide +kernel⟩
theorem okf_has_key {fd : FuncData} (T : Txt P K mg) (F : FunD K "has_key" "has_key" (defArgs s_has_key) (defBody s_has_key) (defScope s_has_key) [] [] (He.ga K "has_key") fd)   : FnOk P w K mg base CX0 1 (He.ga K "has_key") fd ["span", "key"] (sp_has_key K) := by
  have nd := sc_has_key.nd
  refine F.ok (k := 0) sc_has_key (len_has_key K) (fun cdv A outer s H vs Q E hr h => ⟨t_has_key K, PSs.nox ?_, pure_has_key K vs H Q E h⟩)
  have hu : (A.deeper (envOfC "has_key" (defScope s_has_key) s.heap.objs.size (He.ga K "has_key") cdv)).units + 64 < cLine := by
    have h1 := hr.un
    omega
  exact (pss_cons (ps_asg (pv 0) (pg_tup (by rfl) (pgs_cons (pg_name (i := 2) nd (by rfl) (by first | exact Or.inl rfl | exact Or.inr rfl)) (pgs_cons (pg_name (i := 3) nd (by rfl) (by first | exact Or.inl rfl | exact Or.inr rfl)) pgs_nil))))
    (pss_one (ps_ret ((pe_and ((pe_or (pe_cmpR op_isA (pv 2) (pe_non) (nomark _)) (pe_one (pe_cmpR op_leA (pv 2) (pv 1) (nomark _))))) (pe_one ((pe_or (pe_cmpR op_isA (pv 3) (pe_non) (nomark _)) (pe_one (pe_cmpR op_ltA (pv 1) (pv 3) (nomark _)))))))))))
theorem ok_has_key (T : Txt P K mg) (FD : ∃ fd, FunD K "has_key" "has_key" (defArgs s_has_key) (defBody s_has_key) (defScope s_has_key) [] [] (He.ga K "has_key") fd) (hm : mg "has_key" = some (.ref (He.ga K "has_key")))   : Fok P w K mg base CX0 1 "has_key" ["span", "key"] (sp_has_key K) := by
  obtain ⟨fd, F⟩ := FD
  exact ⟨⟨fd, okf_has_key T F  , F.bindsN fun _ _ _ _ _ _ us hl => match us, hl with | [_, _], _ => rfl⟩, hm, F.kp⟩
abbrev s_in_span : Stmt := top 11
theorem sc_in_span : FnScope ["span", "key"] ["span", "key"] (defScope s_in_span) := ⟨rfl, rfl, rfl, by decide +kernel, rfl, by decide +kernel, by decide +kernel⟩
theorem okf_in_span {fd : FuncData} (T : Txt P K mg) (F : FunD K "in_span" "in_span" (defArgs s_in_span) (defBody s_in_span) (defScope s_in_span) [] [] (He.ga K "in_span") fd) (F_need_span : Fok P w K mg base (L2.CX P w) 4 "need_span" ["value"] (sp_need_span K)) (F_need_key : Fok P w K mg base (L2.CX P w) 2 "need_key" ["value"] (sp_need_key K)) (F_has_key : Fok P w K mg base CX0 1 "has_key" ["span", "key"] (sp_has_key K))  : FnOk P w K mg base (L2.CX P w) 5 (He.ga K "in_span") fd ["span", "key"] (sp_in_span K) := by
  have nd := sc_in_span.nd
  refine F.ok (k := 4) sc_in_span (len_in_span K) (fun cdv A outer s H vs Q E hr h => ⟨t_in_span K E, ?_, pure_in_span K vs H Q E h⟩)
  have hu : (A.deeper (envOfC "in_span" (defScope s_in_span) s.heap.objs.size (He.ga K "in_span") cdv)).units + 64 < cLine := by
    have h1 := hr.un
    omega
  exact (pss_cons (ps_expr (pe_callG F_need_span (hr.mono (by decide)) (by rfl) (takes_of rfl rfl rfl rfl) (pa_cons (pv 0) pa_nil)))
    (pss_cons (ps_expr (pe_callG F_need_key (hr.mono (by decide)) (by rfl) (takes_of rfl rfl rfl rfl) (pa_cons (pv 1) pa_nil)))
    (pss_one (ps_ret (pe_callF F_has_key (hr.mono (by decide)) (by rfl) pass0 (pa_cons (pv 0) (pa_cons (pv 1) pa_nil)))))))
theorem ok_in_span (T : Txt P K mg) (FD : ∃ fd, FunD K "in_span" "in_span" (defArgs s_in_span) (defBody s_in_span) (defScope s_in_span) [] [] (He.ga K "in_span") fd) (hm : mg "in_span" = some (.ref (He.ga K "in_span"))) (F_need_span : Fok P w K mg base (L2.CX P w) 4 "need_span" ["value"] (sp_need_span K)) (F_need_key : Fok P w K mg base (L2.CX P w) 2 "need_key" ["value"] (sp_need_key K)) (F_has_key : Fok P w K mg base CX0 1 "has_key" ["span", "key"] (sp_has_key K))  : Fok P w K mg base (L2.CX P w) 5 "in_span" ["span", "key"] (sp_in_span K) := by
  obtain ⟨fd, F⟩ := FD
  exact ⟨⟨fd, okf_in_span T F F_need_span F_need_key F_has_key , F.bindsN fun _ _ _ _ _ _ us hl => match us, hl with | [_, _], _ => rfl⟩, hm, F.kp⟩
theorem okkG_in_span_0_key_span (T : Txt P K mg) (FD : ∃ fd, FunD K "in_span" "in_span" (defArgs s_in_span) (defBody s_in_span) (defScope s_in_span) [] [] (He.ga K "in_span") fd) (hm : mg "in_span" = some (.ref (He.ga K "in_span"))) (F_need_span : Fok P w K mg base (L2.CX P w) 4 "need_span" ["value"] (sp_need_span K)) (F_need_key : Fok P w K mg base (L2.CX P w) 2 "need_key" ["value"] (sp_need_key K)) (F_has_key : Fok P w K mg base CX0 1 "has_key" ["span", "key"] (sp_has_key K))  : FokK P w K mg base (L2.CX P w) 5 "in_span" ["span", "key"] (sp_in_span K) 0 ["key", "span"] [1, 0] := by
  obtain ⟨fd, F⟩ := FD
  exact ⟨⟨fd, okf_in_span T F F_need_span F_need_key F_has_key , kbinds F fun _ _ _ _ _ _ us ws h1 h2 => match us, ws, h1, h2 with | [], [_, _], _, _ => rfl⟩, hm, F.kp⟩
abbrev s_greater_limit : Stmt := top 12
theorem sc_greater_limit : FnScope ["one", "other"] ["one", "other"] (defScope s_greater_limit) := ⟨rfl, rfl, rfl, by decide +kernel, rfl, by decide +kernel, by decide +kernel⟩
theorem okf_greater_limit {fd : FuncData} (T : Txt P K mg) (F : FunD K "greater_limit" "greater_limit" (defArgs s_greater_limit) (defBody s_greater_limit) (defScope s_greater_limit) [] [] (He.ga K "greater_limit") fd)   : FnOk P w K mg base CX0 1 (He.ga K "greater_limit") fd ["one", "other"] (sp_greater_limit K) := by
  have nd := sc_greater_limit.nd
  refine F.ok (k := 0) sc_greater_limit (len_greater_limit K) (fun cdv A outer s H vs Q E hr h => ⟨t_greater_limit K, PSs.nox ?_, pure_greater_limit K vs H Q E h⟩)
  have hu : (A.deeper (envOfC "greater_limit" (defScope s_greater_limit) s.heap.objs.size (He.ga K "greater_limit") cdv)).units + 64 < cLine := by
    have h1 := hr.un
    omega
  exact (pss_cons (ps_if (PW.pt (pw_or (pt_cmpR op_isA (pv 0) (pe_non) (nomark _)) (pw_or1 (pt_cmpR op_isA (pv 1) (pe_non) (nomark _))))) (pss_one (ps_ret (pe_ifExp (pt_cmpR op_isA (pv 0) (pe_non) (nomark _)) (pv 1) (pv 0)))) pss_nil)
    (pss_one (ps_ret (pe_callB (call_maxA rfl) (by rfl) T.b_max (by decide +kernel) (pa_cons (pe_lst (pa_cons (pv 0) (pa_cons (pv 1) pa_nil))) pa_nil)))))
theorem ok_greater_limit (T : Txt P K mg) (FD : ∃ fd, FunD K "greater_limit" "greater_limit" (defArgs s_greater_limit) (defBody s_greater_limit) (defScope s_greater_limit) [] [] (He.ga K "greater_limit") fd) (hm : mg "greater_limit" = some (.ref (He.ga K "greater_limit")))   : Fok P w K mg base CX0 1 "greater_limit" ["one", "other"] (sp_greater_limit K) := by
  obtain ⟨fd, F⟩ := FD
  exact ⟨⟨fd, okf_greater_limit T F  , F.bindsN fun _ _ _ _ _ _ us hl => match us, hl with | [_, _], _ => rfl⟩, hm, F.kp⟩
abbrev s_lesser_limit : Stmt := top 13
theorem sc_lesser_limit : FnScope ["one", "other"] ["one", "other"] (defScope s_lesser_limit) := ⟨rfl, rfl, rfl, by decide +kernel, rfl, by decide +kernel, by decide +kernel⟩
theorem okf_lesser_limit {fd : FuncData} (T : Txt P K mg) (F : FunD K "lesser_limit" "lesser_limit" (defArgs s_lesser_limit) (defBody s_lesser_limit) (defScope s_lesser_limit) [] [] (He.ga K "lesser_limit") fd)   : FnOk P w K mg base CX0 1 (He.ga K "lesser_limit") fd ["one", "other"] (sp_lesser_limit K) := by
  have nd := sc_lesser_limit.nd
  refine F.ok (k := 0) sc_lesser_limit (len_lesser_limit K) (fun cdv A outer s H vs Q E hr h => ⟨t_lesser_limit K, PSs.nox ?_, pure_lesser_limit K vs H Q E h⟩)
  have hu : (A.deeper (envOfC "lesser_limit" (defScope s_lesser_limit) s.heap.objs.size (He.ga K "lesser_limit") cdv)).units + 64 < cLine := by
    have h1 := hr.un
    omega
  exact (pss_cons (ps_if (PW.pt (pw_or (pt_cmpR op_isA (pv 0) (pe_non) (nomark _)) (pw_or1 (pt_cmpR op_isA (pv 1) (pe_non) (nomark _))))) (pss_one (ps_ret (pe_ifExp (pt_cmpR op_isA (pv 0) (pe_non) (nomark _)) (pv 1) (pv 0)))) pss_nil)
    (pss_one (ps_ret (pe_callB (call_minA rfl) (by rfl) T.b_min (by decide +kernel) (pa_cons (pe_lst (pa_cons (pv 0) (pa_cons (pv 1) pa_nil))) pa_nil)))))
theorem ok_lesser_limit (T : Txt P K mg) (FD : ∃ fd, FunD K "lesser_limit" "lesser_limit" (defArgs s_lesser_limit) (defBody s_lesser_limit) (defScope s_lesser_limit) [] [] (He.ga K "lesser_limit") fd) (hm : mg "lesser_limit" = some (.ref (He.ga K "lesser_limit")))   : Fok P w K mg base CX0 1 "lesser_limit" ["one", "other"] (sp_lesser_limit K) := by
  obtain ⟨fd, F⟩ := FD
  exact ⟨⟨fd, okf_lesser_limit T F  , F.bindsN fun _ _ _ _ _ _ us hl => match us, hl with | [_, _], _ => rfl⟩, hm, F.kp⟩
abbrev s_common : Stmt := top 14
theorem sc_common : FnScope ["one", "other", "found"] ["one", "other"] (defScope s_common) := ⟨rfl, rfl, rfl, by decide +kernel, rfl, by decide +kernel, by decide +kernel⟩
theorem okf_common {fd : FuncData} (T : Txt P K mg) (F : FunD K "common" "common" (defArgs s_common) (defBody s_common) (defScope s_common) [] [] (He.ga K "common") fd) (F_need_span : Fok P w K mg base (L2.CX P w) 4 "need_span" ["value"] (sp_need_span K)) (F_lesser_limit : Fok P w K mg base CX0 1 "lesser_limit" ["one", "other"] (sp_lesser_limit K)) (F_greater_limit : Fok P w K mg base CX0 1 "greater_limit" ["one", "other"] (sp_greater_limit K)) (F_is_span : Fok P w K mg base CX0 3 "is_span" ["value"] (sp_is_span K))  : FnOk P w K mg base (L2.CX P w) 5 (He.ga K "common") fd ["one", "other"] (sp_common K) := by
  have nd := sc_common.nd
  refine F.ok (k := 4) sc_common (len_common K) (fun cdv A outer s H vs Q E hr h => ⟨t_common K E, ?_, pure_common K vs H Q E h⟩)
  have hu : (A.deeper (envOfC "common" (defScope s_common) s.heap.objs.size (He.ga K "common") cdv)).units + 64 < cLine := by
    have h1 := hr.un
    omega
  exact (pss_cons (ps_expr (pe_callG F_need_span (hr.mono (by decide)) (by rfl) (takes_of rfl rfl rfl rfl) (pa_cons (pv 0) pa_nil)))
    (pss_cons (ps_expr (pe_callG F_need_span (hr.mono (by decide)) (by rfl) (takes_of rfl rfl rfl rfl) (pa_cons (pv 1) pa_nil)))
    (pss_cons (ps_set (i := 2) nd (by rfl) (Or.inl rfl) (pe_tup (pa_cons (pe_callF F_greater_limit (hr.mono (by decide)) (by rfl) pass0 (pa_cons (pe_ix ix_seq (pv 0) (pe_int) (fun _ _ => rfl)) (pa_cons (pe_ix ix_seq (pv 1) (pe_int) (fun _ _ => rfl)) pa_nil))) (pa_cons (pe_callF F_lesser_limit (hr.mono (by decide)) (by rfl) pass0 (pa_cons (pe_ix ix_seq (pv 0) (pe_int) (fun _ _ => rfl)) (pa_cons (pe_ix ix_seq (pv 1) (pe_int) (fun _ _ => rfl)) pa_nil))) pa_nil))))
    (pss_one (ps_ret (pe_ifExp (pt_val (pe_callF F_is_span (hr.mono (by decide)) (by rfl) pass0 (pa_cons (pv 2) pa_nil))) (pv 2) (pe_non)))))))
theorem ok_common (T : Txt P K mg) (FD : ∃ fd, FunD K "common" "common" (defArgs s_common) (defBody s_common) (defScope s_common) [] [] (He.ga K "common") fd) (hm : mg "common" = some (.ref (He.ga K "common"))) (F_need_span : Fok P w K mg base (L2.CX P w) 4 "need_span" ["value"] (sp_need_span K)) (F_lesser_limit : Fok P w K mg base CX0 1 "lesser_limit" ["one", "other"] (sp_lesser_limit K)) (F_greater_limit : Fok P w K mg base CX0 1 "greater_limit" ["one", "other"] (sp_greater_limit K)) (F_is_span : Fok P w K mg base CX0 3 "is_span" ["value"] (sp_is_span K))  : Fok P w K mg base (L2.CX P w) 5 "common" ["one", "other"] (sp_common K) := by
  obtain ⟨fd, F⟩ := FD
  exact ⟨⟨fd, okf_common T F F_need_span F_lesser_limit F_greater_limit F_is_span , F.bindsN fun _ _ _ _ _ _ us hl => match us, hl with | [_, _], _ => rfl⟩, hm, F.kp⟩
theorem okkG_common_0_other_one (T : Txt P K mg) (FD : ∃ fd, FunD K "common" "common" (defArgs s_common) (defBody s_common) (defScope s_common) [] [] (He.ga K "common") fd) (hm : mg "common" = some (.ref (He.ga K "common"))) (F_need_span : Fok P w K mg base (L2.CX P w) 4 "need_span" ["value"] (sp_need_span K)) (F_lesser_limit : Fok P w K mg base CX0 1 "lesser_limit" ["one", "other"] (sp_lesser_limit K)) (F_greater_limit : Fok P w K mg base CX0 1 "greater_limit" ["one", "other"] (sp_greater_limit K)) (F_is_span : Fok P w K mg base CX0 3 "is_span" ["value"] (sp_is_span K))  : FokK P w K mg base (L2.CX P w) 5 "common" ["one", "other"] (sp_common K) 0 ["other", "one"] [1, 0] := by
  obtain ⟨fd, F⟩ := FD
  exact ⟨⟨fd, okf_common T F F_need_span F_lesser_limit F_greater_limit F_is_span , kbinds F fun _ _ _ _ _ _ us ws h1 h2 => match us, ws, h1, h2 with | [], [_, _], _, _ => rfl⟩, hm, F.kp⟩
abbrev s_meet : Stmt := top 15
theorem sc_meet : FnScope ["one", "other"] ["one", "other"] (defScope s_meet) := ⟨rfl, rfl, rfl, by decide +kernel, rfl, by decide +kernel, by decide +kernel⟩
theorem okf_meet {fd : FuncData} (T : Txt P K mg) (F : FunD K "meet" "meet" (defArgs s_meet) (defBody s_meet) (defScope s_meet) [] [] (He.ga K "meet") fd) (F_common : Fok P w K mg base (L2.CX P w) 5 "common" ["one", "other"] (sp_common K))  : FnOk P w K mg base (L2.CX P w) 6 (He.ga K "meet") fd ["one", "other"] (sp_meet K) := by
  have nd := sc_meet.nd
  refine F.ok (k := 5) sc_meet (len_meet K) (fun cdv A outer s H vs Q E hr h => ⟨t_meet K E, ?_, pure_meet K vs H Q E h⟩)
  have hu : (A.deeper (envOfC "meet" (defScope s_meet) s.heap.objs.size (He.ga K "meet") cdv)).units + 64 < cLine := by
    have h1 := hr.un
    omega
  exact (pss_one (ps_ret (pe_cmpR op_notA (pe_callG F_common (hr.mono (by decide)) (by rfl) (takes_of rfl rfl rfl rfl) (pa_cons (pv 0) (pa_cons (pv 1) pa_nil))) (pe_non) (nomark _))))
theorem ok_meet (T : Txt P K mg) (FD : ∃ fd, FunD K "meet" "meet" (defArgs s_meet) (defBody s_meet) (defScope s_meet) [] [] (He.ga K "meet") fd) (hm : mg "meet" = some (.ref (He.ga K "meet"))) (F_common : Fok P w K mg base (L2.CX P w) 5 "common" ["one", "other"] (sp_common K))  : Fok P w K mg base (L2.CX P w) 6 "meet" ["one", "other"] (sp_meet K) := by
  obtain ⟨fd, F⟩ := FD
  exact ⟨⟨fd, okf_meet T F F_common , F.bindsN fun _ _ _ _ _ _ us hl => match us, hl with | [_, _], _ => rfl⟩, hm, F.kp⟩
abbrev s_law_cell : Stmt := top 17
theorem sc_law_cell : FnScope ["script", "k"] ["script", "k"] (defScope s_law_cell) := ⟨rfl, rfl, rfl, by decide +kernel, rfl, by decide +kernel, by decide +kernel⟩
theorem okf_law_cell {fd : FuncData} (T : Txt P K mg) (F : FunD K "_law_cell" "_law_cell" (defArgs s_law_cell) (defBody s_law_cell) (defScope s_law_cell) [] [] (He.ga K "_law_cell") fd)   : FnOk P w K mg base CX0 1 (He.ga K "_law_cell") fd ["script", "k"] (sp_law_cell K) := by
  have nd := sc_law_cell.nd
  refine F.ok (k := 0) sc_law_cell (len_law_cell K) (fun cdv A outer s H vs Q E hr h => ⟨t_law_cell K, PSs.nox ?_, pure_law_cell K vs H Q E h⟩)
  have hu : (A.deeper (envOfC "_law_cell" (defScope s_law_cell) s.heap.objs.size (He.ga K "_law_cell") cdv)).units + 64 < cLine := by
    have h1 := hr.un
    omega
  exact (pss_cons (ps_if (pt_cmpR op_ltA (pv 1) (pe_callB call_lenA (by rfl) T.b_len (by decide +kernel) (pa_cons (pv 0) pa_nil)) (nomark _)) (pss_one (ps_ret (pe_ix ix_seq (pv 0) (pv 1) (fun _ _ => rfl)))) pss_nil)
    (pss_one (ps_ret (pe_op op_addA (pe_op op_mulA (pe_int) (pv 1)) (pe_int)))))
theorem ok_law_cell (T : Txt P K mg) (FD : ∃ fd, FunD K "_law_cell" "_law_cell" (defArgs s_law_cell) (defBody s_law_cell) (defScope s_law_cell) [] [] (He.ga K "_law_cell") fd) (hm : mg "_law_cell" = some (.ref (He.ga K "_law_cell")))   : Fok P w K mg base CX0 1 "_law_cell" ["script", "k"] (sp_law_cell K) := by
  obtain ⟨fd, F⟩ := FD
  exact ⟨⟨fd, okf_law_cell T F  , F.bindsN fun _ _ _ _ _ _ us hl => match us, hl with | [_, _], _ => rfl⟩, hm, F.kp⟩
abbrev s_law_box : Stmt := top 18
theorem sc_law_box : FnScope ["cell"] ["cell"] (defScope s_law_box) := ⟨rfl, rfl, rfl, by decide +kernel, rfl, by decide +kernel, by decide +kernel⟩
theorem okf_law_box {fd : FuncData} (T : Txt P K mg) (F : FunD K "_law_box" "_law_box" (defArgs s_law_box) (defBody s_law_box) (defScope s_law_box) [] [] (He.ga K "_law_box") fd)   : FnOk P w K mg base CX0 1 (He.ga K "_law_box") fd ["cell"] (sp_law_box K) := by
  have nd := sc_law_box.nd
  refine F.ok (k := 0) sc_law_box (len_law_box K) (fun cdv A outer s H vs Q E hr h => ⟨t_law_box K, PSs.nox ?_, pure_law_box K vs H Q E h⟩)
  have hu : (A.deeper (envOfC "_law_box" (defScope s_law_box) s.heap.objs.size (He.ga K "_law_box") cdv)).units + 64 < cLine := by
    have h1 := hr.un
    omega
  exact (pss_one (ps_ret (pe_lst (pa_cons (pe_callB (call_maxA rfl) (by rfl) T.b_max (by decide +kernel) (pa_cons (pe_int) (pa_cons (pe_op op_subA (pv 0) (pe_op op_powA (pe_int) (pe_int))) pa_nil))) (pa_cons (pe_op op_modA (pv 0) (pe_int)) (pa_cons (pe_int) pa_nil))))))
theorem ok_law_box (T : Txt P K mg) (FD : ∃ fd, FunD K "_law_box" "_law_box" (defArgs s_law_box) (defBody s_law_box) (defScope s_law_box) [] [] (He.ga K "_law_box") fd) (hm : mg "_law_box" = some (.ref (He.ga K "_law_box")))   : Fok P w K mg base CX0 1 "_law_box" ["cell"] (sp_law_box K) := by
  obtain ⟨fd, F⟩ := FD
  exact ⟨⟨fd, okf_law_box T F  , F.bindsN fun _ _ _ _ _ _ us hl => match us, hl with | [_], _ => rfl⟩, hm, F.kp⟩
abbrev s_law_take : Stmt := top 19
theorem sc_law_take : FnScope ["box", "many", "digit", "number"] ["box", "many"] (defScope s_law_take) := ⟨rfl, rfl, rfl, by decide +kernel, rfl, by decide +kernel, by decide +kernel⟩
theorem okf_law_take {fd : FuncData} (T : Txt P K mg) (F : FunD K "_law_take" "_law_take" (defArgs s_law_take) (defBody s_law_take) (defScope s_law_take) [] [] (He.ga K "_law_take") fd)   : FnOk P w K mg base CX0 1 (He.ga K "_law_take") fd ["box", "many"] (sp_law_take K) := by
  have nd := sc_law_take.nd
  refine F.ok (k := 0) sc_law_take (len_law_take K) (fun cdv A outer s H vs Q E hr h => ⟨t_law_take K, PSs.nox ?_, pure_law_take K vs H Q E h⟩)
  have hu : (A.deeper (envOfC "_law_take" (defScope s_law_take) s.heap.objs.size (He.ga K "_law_take") cdv)).units + 64 < cLine := by
    have h1 := hr.un
    omega
  exact (pss_cons (ps_if (pt_cmpR op_gtA (pe_ix ix_seq (pv 0) (pe_int) (fun _ _ => rfl)) (pe_int) (nomark _)) (pss_cons (ps_set (i := 2) nd (by rfl) (Or.inl rfl) (pe_op op_modA (pe_ix ix_seq (pv 0) (pe_int) (fun _ _ => rfl)) (pv 1)))
    (pss_cons (ps_asg (pe_op op_divA (pe_ix ix_seq (pv 0) (pe_int) (fun _ _ => rfl)) (pv 1)) (pg_sub (pv 0) (pe_int) set_list))
    (pss_one (ps_ret (pv 2))))) pss_nil)
    (pss_cons (ps_asg (pe_op op_addA (pe_ix ix_seq (pv 0) (pe_int) (fun _ _ => rfl)) (pe_int)) (pg_sub (pv 0) (pe_int) set_list))
    (pss_cons (ps_set (i := 3) nd (by rfl) (Or.inl rfl) (pe_op op_modA (pe_op op_powA (pe_op op_addA (pe_op op_addA (pe_ix ix_seq (pv 0) (pe_int) (fun _ _ => rfl)) (pe_op op_mulA (pe_int) (pe_ix ix_seq (pv 0) (pe_int) (fun _ _ => rfl)))) (pe_int)) (pe_int)) (pe_int)))
    (pss_cons (ps_set (i := 3) nd (by rfl) (Or.inl rfl) (pe_op op_modA (pe_op op_powA (pe_op op_addA (pv 3) (pe_op op_mulA (pe_int) (pe_ix ix_seq (pv 0) (pe_int) (fun _ _ => rfl)))) (pe_int)) (pe_int)))
    (pss_one (ps_ret (pe_op op_modA (pe_op op_divA (pv 3) (pe_int)) (pv 1))))))))
theorem ok_law_take (T : Txt P K mg) (FD : ∃ fd, FunD K "_law_take" "_law_take" (defArgs s_law_take) (defBody s_law_take) (defScope s_law_take) [] [] (He.ga K "_law_take") fd) (hm : mg "_law_take" = some (.ref (He.ga K "_law_take")))   : Fok P w K mg base CX0 1 "_law_take" ["box", "many"] (sp_law_take K) := by
  obtain ⟨fd, F⟩ := FD
  exact ⟨⟨fd, okf_law_take T F  , F.bindsN fun _ _ _ _ _ _ us hl => match us, hl with | [_, _], _ => rfl⟩, hm, F.kp⟩
abbrev s_law_has : Stmt := top 20
theorem sc_law_has : FnScope ["piece", "place"] ["piece", "place"] (defScope s_law_has) := ⟨rfl, rfl, rfl, by decide +kernel, rfl, by decide +kernel, by decide +kernel⟩
theorem okf_law_has {fd : FuncData} (T : Txt P K mg) (F : FunD K "_law_has" "_law_has" (defArgs s_law_has) (defBody s_law_has) (defScope s_law_has) [] [] (He.ga K "_law_has") fd)   : FnOk P w K mg base CX0 1 (He.ga K "_law_has") fd ["piece", "place"] (sp_law_has K) := by
  have nd := sc_law_has.nd
  refine F.ok (k := 0) sc_law_has (len_law_has K) (fun cdv A outer s H vs Q E hr h => ⟨t_law_has K, PSs.nox ?_, pure_law_has K vs H Q E h⟩)
  have hu : (A.deeper (envOfC "_law_has" (defScope s_law_has) s.heap.objs.size (He.ga K "_law_has") cdv)).units + 64 < cLine := by
    have h1 := hr.un
    omega
  exact (pss_one (ps_ret ((pe_and ((pe_or (pe_cmpR op_isA (pe_ix ix_seq (pv 0) (pe_int) (fun _ _ => rfl)) (pe_non) (nomark _)) (pe_one (pe_cmpR op_leA (pe_ix ix_seq (pv 0) (pe_int) (fun _ _ => rfl)) (pv 1) (nomark _))))) (pe_one ((pe_or (pe_cmpR op_isA (pe_ix ix_seq (pv 0) (pe_int) (fun _ _ => rfl)) (pe_non) (nomark _)) (pe_one (pe_cmpR op_ltA (pv 1) (pe_ix ix_seq (pv 0) (pe_int) (fun _ _ => rfl)) (nomark _))))))))))
theorem ok_law_has (T : Txt P K mg) (FD : ∃ fd, FunD K "_law_has" "_law_has" (defArgs s_law_has) (defBody s_law_has) (defScope s_law_has) [] [] (He.ga K "_law_has") fd) (hm : mg "_law_has" = some (.ref (He.ga K "_law_has")))   : Fok P w K mg base CX0 1 "_law_has" ["piece", "place"] (sp_law_has K) := by
  obtain ⟨fd, F⟩ := FD
  exact ⟨⟨fd, okf_law_has T F  , F.bindsN fun _ _ _ _ _ _ us hl => match us, hl with | [_, _], _ => rfl⟩, hm, F.kp⟩
abbrev s_law_span : Stmt := top 21
theorem sc_law_span : FnScope ["box", "great", "low", "high"] ["box"] (defScope s_law_span) := ⟨rfl, rfl, rfl, by decide +kernel, rfl, by decide +kernel, by decide +kernel⟩
theorem okf_law_span {fd : FuncData} (T : Txt P K mg) (F : FunD K "_law_span" "_law_span" (defArgs s_law_span) (defBody s_law_span) (defScope s_law_span) [] [] (He.ga K "_law_span") fd) (F_law_take : Fok P w K mg base CX0 1 "_law_take" ["box", "many"] (sp_law_take K))  : FnOk P w K mg base CX0 2 (He.ga K "_law_span") fd ["box"] (sp_law_span K) := by
  have nd := sc_law_span.nd
  refine F.ok (k := 1) sc_law_span (len_law_span K) (fun cdv A outer s H vs Q E hr h => ⟨t_law_span K, PSs.nox ?_, pure_law_span K vs H Q E h⟩)
  have hu : (A.deeper (envOfC "_law_span" (defScope s_law_span) s.heap.objs.size (He.ga K "_law_span") cdv)).units + 64 < cLine := by
    have h1 := hr.un
    omega
  exact (pss_cons (ps_set (i := 1) nd (by rfl) (Or.inl rfl) (pe_ix ix_seq (pe_lst (pa_cons (pe_int) (pa_cons (pe_int) (pa_cons (pe_op op_powA (pe_int) (pe_int)) pa_nil)))) (pe_callF F_law_take (hr.mono (by decide)) (by rfl) pass0 (pa_cons (pv 0) (pa_cons (pe_int) pa_nil))) (fun _ _ => rfl)))
    (pss_cons (ps_set (i := 2) nd (by rfl) (Or.inl rfl) (pe_op op_mulA (pe_op op_subA (pe_callF F_law_take (hr.mono (by decide)) (by rfl) pass0 (pa_cons (pv 0) (pa_cons (pe_int) pa_nil))) (pe_int)) (pv 1)))
    (pss_cons (ps_set (i := 3) nd (by rfl) (Or.inl rfl) (pe_op op_addA (pv 2) (pe_op op_mulA (pe_op op_addA (pe_int) (pe_callF F_law_take (hr.mono (by decide)) (by rfl) pass0 (pa_cons (pv 0) (pa_cons (pe_int) pa_nil)))) (pv 1))))
    (pss_one (ps_ret (pe_ix ix_seq (pe_lst (pa_cons (pe_tup (pa_cons (pv 2) (pa_cons (pv 3) pa_nil))) (pa_cons (pe_tup (pa_cons (pv 2) (pa_cons (pv 3) pa_nil))) (pa_cons (pe_tup (pa_cons (pe_non) (pa_cons (pv 3) pa_nil))) (pa_cons (pe_tup (pa_cons (pv 2) (pa_cons (pe_non) pa_nil))) (pa_cons (pe_tup (pa_cons (pe_non) (pa_cons (pe_non) pa_nil))) pa_nil)))))) (pe_callF F_law_take (hr.mono (by decide)) (by rfl) pass0 (pa_cons (pv 0) (pa_cons (pe_int) pa_nil))) (fun _ _ => rfl)))))))
theorem ok_law_span (T : Txt P K mg) (FD : ∃ fd, FunD K "_law_span" "_law_span" (defArgs s_law_span) (defBody s_law_span) (defScope s_law_span) [] [] (He.ga K "_law_span") fd) (hm : mg "_law_span" = some (.ref (He.ga K "_law_span"))) (F_law_take : Fok P w K mg base CX0 1 "_law_take" ["box", "many"] (sp_law_take K))  : Fok P w K mg base CX0 2 "_law_span" ["box"] (sp_law_span K) := by
  obtain ⟨fd, F⟩ := FD
  exact ⟨⟨fd, okf_law_span T F F_law_take , F.bindsN fun _ _ _ _ _ _ us hl => match us, hl with | [_], _ => rfl⟩, hm, F.kp⟩
abbrev s_law_keys : Stmt := top 22
theorem sc_law_keys : FnScope ["spans", "found", "piece", "limit"] ["spans"] (defScope s_law_keys) := ⟨rfl, rfl, rfl, by decide +kernel, rfl, by decide +kernel, by decide +kernel⟩
theorem okf_law_keys {fd : FuncData} (T : Txt P K mg) (F : FunD K "_law_keys" "_law_keys" (defArgs s_law_keys) (defBody s_law_keys) (defScope s_law_keys) [] [] (He.ga K "_law_keys") fd)   : FnOk P w K mg base CX0 1 (He.ga K "_law_keys") fd ["spans"] (sp_law_keys K) := by
  have nd := sc_law_keys.nd
  refine F.ok (k := 0) sc_law_keys (len_law_keys K) (fun cdv A outer s H vs Q E hr h => ⟨t_law_keys K, PSs.nox ?_, pure_law_keys K vs H Q E h⟩)
  have hu : (A.deeper (envOfC "_law_keys" (defScope s_law_keys) s.heap.objs.size (He.ga K "_law_keys") cdv)).units + 64 < cLine := by
    have h1 := hr.un
    omega
  exact (pss_cons (ps_set (i := 1) nd (by rfl) (Or.inl rfl) (pe_lst (pa_cons (pe_int) pa_nil)))
    (pss_cons (ps_for PassesOwn.never rfl (pi_any (pv 0)) (pg_name (i := 2) nd (by rfl) (by first | exact Or.inl rfl | exact Or.inr rfl)) (pss_one (ps_for PassesOwn.never rfl (pi_any (pv 2)) (pg_name (i := 3) nd (by rfl) (by first | exact Or.inl rfl | exact Or.inr rfl)) (pss_one (ps_if (pt_cmpR op_notA (pv 3) (pe_non) (nomark _)) (pss_one (ps_set (i := 1) nd (by rfl) (Or.inl rfl) (pe_op op_addA (pv 1) (pe_lst (pa_cons (pe_op op_subA (pv 3) (pe_int)) (pa_cons (pv 3) (pa_cons (pe_op op_addA (pv 3) (pe_int)) pa_nil))))))) pss_nil)))))
    (pss_one (ps_ret (pv 1)))))
theorem ok_law_keys (T : Txt P K mg) (FD : ∃ fd, FunD K "_law_keys" "_law_keys" (defArgs s_law_keys) (defBody s_law_keys) (defScope s_law_keys) [] [] (He.ga K "_law_keys") fd) (hm : mg "_law_keys" = some (.ref (He.ga K "_law_keys")))   : Fok P w K mg base CX0 1 "_law_keys" ["spans"] (sp_law_keys K) := by
  obtain ⟨fd, F⟩ := FD
  exact ⟨⟨fd, okf_law_keys T F  , F.bindsN fun _ _ _ _ _ _ us hl => match us, hl with | [_], _ => rfl⟩, hm, F.kp⟩
abbrev s_law_told : Stmt := top 23
theorem sc_law_told : FnScope ["way", "first", "second", "e"] ["way", "first", "second"] (defScope s_law_told) := ⟨rfl, rfl, rfl, by decide +kernel, rfl, by decide +kernel, by decide +kernel⟩
theorem okf_law_told {fd : FuncData} (T : Txt P K mg) (F : FunD K "_law_told" "_law_told" (defArgs s_law_told) (defBody s_law_told) (defScope s_law_told) [] [] (He.ga K "_law_told") fd) (F_in_span : Fok P w K mg base (L2.CX P w) 5 "in_span" ["span", "key"] (sp_in_span K)) (F_meet : Fok P w K mg base (L2.CX P w) 6 "meet" ["one", "other"] (sp_meet K)) (G_common_0_other_one : FokK P w K mg base (L2.CX P w) 5 "common" ["one", "other"] (sp_common K) 0 ["other", "one"] [1, 0]) : FnOk P w K mg base CX0 7 (He.ga K "_law_told") fd ["way", "first", "second"] (sp_law_told K) := by
  have nd := sc_law_told.nd
  refine F.ok (k := 6) sc_law_told (len_law_told K) (fun cdv A outer s H vs Q E hr h => ⟨t_law_told K, PSs.nox ?_, pure_law_told K vs H Q E T.exm h⟩)
  have hu : (A.deeper (envOfC "_law_told" (defScope s_law_told) s.heap.objs.size (He.ga K "_law_told") cdv)).units + 64 < cLine := by
    have h1 := hr.un
    omega
  exact (pss_one (ps_try_mix (tb := fun W => (tSeq (tIfS (tTest (tOp (rEqA K) (tVar 0) (tC (.int 0)))) (tRet (tLst (tCons (tC (.str "told")) (tCons (tCallS (sp_in_span K) (WE W) (tCons (tVar 1) (tCons (tVar 2) tNil))) tNil)))) tNext)
    (tSeq (tIfS (tTest (tOp (rEqA K) (tVar 0) (tC (.int 1)))) (tRet (tLst (tCons (tC (.str "told")) (tCons (tCallS (sp_meet K) (WE W) (tCons (tVar 1) (tCons (tVar 2) tNil))) tNil)))) tNext)
    (tRet (tLst (tCons (tC (.str "told")) (tCons (tCallP [1, 0] 0 2 (sp_common K) (WE W) tNil (tCons (tVar 2) (tCons (tVar 1) tNil))) tNil))))))) (Wout := (fun _ _ _ _ => False)) (l := (.ref (He.ga K "InvalidSpan"), some 3, fun a cls d => (tRet (tLst (tCons (tC (.str "span")) (tCons (tXf a cls d (He.ga K "InvalidSpan") "value" (tVar 3)) tNil))))) :: ((.ref (He.ga K "InvalidKey"), some 3, fun a cls d => (tRet (tLst (tCons (tC (.str "key")) (tCons (tXf a cls d (He.ga K "InvalidKey") "value" (tVar 3)) tNil))))) :: ([]))) rfl rfl takes_none5 (fun W pn xe tk po => (pss_cons (ps_if (pt_cmpR (op_eqA hu) (pv 0) (pe_int) (nomark _)) (pss_one (ps_ret (pe_lst (pa_cons (pe_str) (pa_cons (pe_callG F_in_span (hr.mono (by decide)) (by rfl) tk (pa_cons (pv 1) (pa_cons (pv 2) pa_nil))) pa_nil))))) pss_nil)
    (pss_cons (ps_if (pt_cmpR (op_eqA hu) (pv 0) (pe_int) (nomark _)) (pss_one (ps_ret (pe_lst (pa_cons (pe_str) (pa_cons (pe_callG F_meet (hr.mono (by decide)) (by rfl) tk (pa_cons (pv 1) (pa_cons (pv 2) pa_nil))) pa_nil))))) pss_nil)
    (pss_one (ps_ret (pe_lst (pa_cons (pe_str) (pa_cons (pe_callP0 G_common_0_other_one (hr.mono (by decide)) (by rfl) (fun σ => passAt tk σ) (pk_cons (pv 2) (pk_cons (pv 1) pk_nil))) pa_nil)))))))) (HdZ.as_ nd (by rfl) rfl ⟨by rfl, by decide, Or.inl T.g_InvalidSpan⟩ (fun a oe cls d pn hz hf => (pss_one (ps_ret (pe_lst (pa_cons (pe_str) (pa_cons (pe_xf T.xf_InvalidSpan T.na_InvalidSpan_value hz hf (pv 3)) pa_nil)))))) (HdZ.as_ nd (by rfl) rfl ⟨by rfl, by decide, Or.inl T.g_InvalidKey⟩ (fun a oe cls d pn hz hf => (pss_one (ps_ret (pe_lst (pa_cons (pe_str) (pa_cons (pe_xf T.xf_InvalidKey T.na_InvalidKey_value hz hf (pv 3)) pa_nil)))))) HdZ.nil))))
theorem ok_law_told (T : Txt P K mg) (FD : ∃ fd, FunD K "_law_told" "_law_told" (defArgs s_law_told) (defBody s_law_told) (defScope s_law_told) [] [] (He.ga K "_law_told") fd) (hm : mg "_law_told" = some (.ref (He.ga K "_law_told"))) (F_in_span : Fok P w K mg base (L2.CX P w) 5 "in_span" ["span", "key"] (sp_in_span K)) (F_meet : Fok P w K mg base (L2.CX P w) 6 "meet" ["one", "other"] (sp_meet K)) (G_common_0_other_one : FokK P w K mg base (L2.CX P w) 5 "common" ["one", "other"] (sp_common K) 0 ["other", "one"] [1, 0]) : Fok P w K mg base CX0 7 "_law_told" ["way", "first", "second"] (sp_law_told K) := by
  obtain ⟨fd, F⟩ := FD
  exact ⟨⟨fd, okf_law_told T F F_in_span F_meet G_common_0_other_one, F.bindsN fun _ _ _ _ _ _ us hl => match us, hl with | [_, _, _], _ => rfl⟩, hm, F.kp⟩
abbrev s_law_same : Stmt := top 25
theorem sc_law_same : FnScope ["told", "first", "second", "place", "limits", "limit"] ["told", "first", "second"] (defScope s_law_same) := ⟨rfl, rfl, rfl, by decide +kernel, rfl, by decide +kernel, by decide +kernel⟩
theorem okf_law_same {fd : FuncData} (T : Txt P K mg) (F : FunD K "_law_same" "_law_same" (defArgs s_law_same) (defBody s_law_same) (defScope s_law_same) [] [] (He.ga K "_law_same") fd) (F_law_keys : Fok P w K mg base CX0 1 "_law_keys" ["spans"] (sp_law_keys K)) (F_law_has : Fok P w K mg base CX0 1 "_law_has" ["piece", "place"] (sp_law_has K))  : FnOk P w K mg base CX0 2 (He.ga K "_law_same") fd ["told", "first", "second"] (sp_law_same K) := by
  have nd := sc_law_same.nd
  refine F.ok (k := 1) sc_law_same (len_law_same K) (fun cdv A outer s H vs Q E hr h => ⟨t_law_same K, PSs.nox ?_, pure_law_same K vs H Q E h⟩)
  have hu : (A.deeper (envOfC "_law_same" (defScope s_law_same) s.heap.objs.size (He.ga K "_law_same") cdv)).units + 64 < cLine := by
    have h1 := hr.un
    omega
  exact (pss_cons (ps_for PassesOwn.never rfl (pi_any (pe_callF F_law_keys (hr.mono (by decide)) (by rfl) pass0 (pa_cons (pe_lst (pa_cons (pv 0) (pa_cons (pv 1) (pa_cons (pv 2) pa_nil)))) pa_nil))) (pg_name (i := 3) nd (by rfl) (by first | exact Or.inl rfl | exact Or.inr rfl)) (pss_one (ps_if (pt_cmpR (op_neA hu) (pe_callF F_law_has (hr.mono (by decide)) (by rfl) pass0 (pa_cons (pv 0) (pa_cons (pv 3) pa_nil))) ((pe_and (pe_callF F_law_has (hr.mono (by decide)) (by rfl) pass0 (pa_cons (pv 1) (pa_cons (pv 3) pa_nil))) (pe_one (pe_callF F_law_has (hr.mono (by decide)) (by rfl) pass0 (pa_cons (pv 2) (pa_cons (pv 3) pa_nil)))))) (nomark _)) (pss_one (ps_ret (pe_bl))) pss_nil)))
    (pss_cons (ps_set (i := 4) nd (by rfl) (Or.inr rfl) (pe_lc (own := [("limit", 5)]) rfl nd (pi_any (pe_op op_addA (pv 1) (pv 2))) (blkOk_by (own := [("limit", 5)]) (N := ["told", "first", "second", "place", "limits", "limit"]) (sc := defScope s_law_same) (by decide +kernel)) (fun _ _ _ _ _ => (pg_name (i := 5) nd (by rfl) (by first | exact Or.inl rfl | exact Or.inr rfl))) (fun _ _ _ _ _ => (pts_one (pt_cmpR op_notA (pv 5) (pe_non) (nomark _)))) (fun _ _ _ _ _ => (pv 5))))
    (pss_one (ps_ret (pe_cmpR (op_eqA hu) (pe_lc (own := [("limit", 5)]) rfl nd (pi_any (pv 0)) (blkOk_by (own := [("limit", 5)]) (N := ["told", "first", "second", "place", "limits", "limit"]) (sc := defScope s_law_same) (by decide +kernel)) (fun _ _ _ _ _ => (pg_name (i := 5) nd (by rfl) (by first | exact Or.inl rfl | exact Or.inr rfl))) (fun _ _ _ _ _ => (pts_one (PW.pt (pw_and (pt_cmpR op_notA (pv 5) (pe_non) (nomark _)) (pw_and1 (pt_cmpR op_ninA (pv 5) (pv 4) (by rfl))))))) (fun _ _ _ _ _ => (pv 5))) (pe_lst pa_nil) (nomark _))))))
theorem ok_law_same (T : Txt P K mg) (FD : ∃ fd, FunD K "_law_same" "_law_same" (defArgs s_law_same) (defBody s_law_same) (defScope s_law_same) [] [] (He.ga K "_law_same") fd) (hm : mg "_law_same" = some (.ref (He.ga K "_law_same"))) (F_law_keys : Fok P w K mg base CX0 1 "_law_keys" ["spans"] (sp_law_keys K)) (F_law_has : Fok P w K mg base CX0 1 "_law_has" ["piece", "place"] (sp_law_has K))  : Fok P w K mg base CX0 2 "_law_same" ["told", "first", "second"] (sp_law_same K) := by
  obtain ⟨fd, F⟩ := FD
  exact ⟨⟨fd, okf_law_same T F F_law_keys F_law_has , F.bindsN fun _ _ _ _ _ _ us hl => match us, hl with | [_, _, _], _ => rfl⟩, hm, F.kp⟩
abbrev s_law_right : Stmt := top 24
theorem sc_law_right : FnScope ["first", "second", "keys", "both", "place", "told", "inner", "item"] ["first", "second"] (defScope s_law_right) := ⟨rfl, rfl, rfl, by decide +kernel, rfl, by decide +kernel, by decide +kernel⟩
theorem okf_law_right {fd : FuncData} (T : Txt P K mg) (F : FunD K "_law_right" "_law_right" (defArgs s_law_right) (defBody s_law_right) (defScope s_law_right) [] [] (He.ga K "_law_right") fd) (F_law_keys : Fok P w K mg base CX0 1 "_law_keys" ["spans"] (sp_law_keys K)) (F_law_has : Fok P w K mg base CX0 1 "_law_has" ["piece", "place"] (sp_law_has K)) (F_in_span : Fok P w K mg base (L2.CX P w) 5 "in_span" ["span", "key"] (sp_in_span K)) (F_meet : Fok P w K mg base (L2.CX P w) 6 "meet" ["one", "other"] (sp_meet K)) (F_common : Fok P w K mg base (L2.CX P w) 5 "common" ["one", "other"] (sp_common K)) (F_law_same : Fok P w K mg base CX0 2 "_law_same" ["told", "first", "second"] (sp_law_same K)) (G_in_span_0_key_span : FokK P w K mg base (L2.CX P w) 5 "in_span" ["span", "key"] (sp_in_span K) 0 ["key", "span"] [1, 0]) : FnOk P w K mg base CX0 7 (He.ga K "_law_right") fd ["first", "second"] (sp_law_right K) := by
  have nd := sc_law_right.nd
  refine F.ok (k := 6) sc_law_right (len_law_right K) (fun cdv A outer s H vs Q E hr h => ⟨t_law_right K, PSs.nox ?_, pure_law_right K vs H Q E h⟩)
  have hu : (A.deeper (envOfC "_law_right" (defScope s_law_right) s.heap.objs.size (He.ga K "_law_right") cdv)).units + 64 < cLine := by
    have h1 := hr.un
    omega
  exact (pss_cons (ps_set (i := 2) nd (by rfl) (Or.inl rfl) (pe_callF F_law_keys (hr.mono (by decide)) (by rfl) pass0 (pa_cons (pe_lst (pa_cons (pv 0) (pa_cons (pv 1) pa_nil))) pa_nil)))
    (pss_cons (ps_setLc (own := [("place", 4)]) (i := 3) rfl nd rfl rfl (sw_true rfl rfl rfl (by decide +kernel)) (pi_any (pv 2)) (blkOk_by (own := [("place", 4)]) (N := ["first", "second", "keys", "both", "place", "told", "inner", "item"]) (sc := defScope s_law_right) (by decide +kernel)) (fun _ _ _ _ _ => (pg_name (i := 4) nd (by rfl) (by first | exact Or.inl rfl | exact Or.inr rfl))) (fun _ _ _ _ _ => (pts_one (PW.pt (pw_and (pt_val (pe_callF F_law_has (hr.mono (by decide)) (by rfl) pass0 (pa_cons (pv 0) (pa_cons (pv 4) pa_nil)))) (pw_and1 (pt_val (pe_callF F_law_has (hr.mono (by decide)) (by rfl) pass0 (pa_cons (pv 1) (pa_cons (pv 4) pa_nil))))))))) (fun _ _ _ _ _ => (pv 4)))
    (pss_cons (ps_for PassesOwn.never rfl (pi_any (pv 2)) (pg_name (i := 4) nd (by rfl) (by first | exact Or.inl rfl | exact Or.inr rfl)) (pss_cons (ps_set (i := 5) nd (by rfl) (Or.inr rfl) (pe_lst (pa_cons (pe_callF F_in_span (hr.mono (by decide)) (by rfl) passL (pa_cons (pv 0) (pa_cons (pv 4) pa_nil))) (pa_cons (pe_callP0 G_in_span_0_key_span (hr.mono (by decide)) (by rfl) passAtL (pk_cons (pv 4) (pk_cons (pv 1) pk_nil))) pa_nil))))
    (pss_cons (ps_if (pt_cmpR (op_neA hu) (pe_lc (own := [("item", 7)]) rfl nd (pi_any (pv 5)) (blkOk_by (own := [("item", 7)]) (N := ["first", "second", "keys", "both", "place", "told", "inner", "item"]) (sc := defScope s_law_right) (by decide +kernel)) (fun _ _ _ _ _ => (pg_name (i := 7) nd (by rfl) (by first | exact Or.inl rfl | exact Or.inr rfl))) (fun _ _ _ _ _ => (pts_one (pt_not (pt_val (pe_callB call_isi (by rfl) T.b_isinstance (by decide +kernel) (pa_cons (pv 7) (pa_cons (pe_bltn (by rfl) T.b_bool (by decide +kernel) rfl) pa_nil))))))) (fun _ _ _ _ _ => (pv 7))) (pe_lst pa_nil) (nomark _)) (pss_one (ps_ret (pe_bl))) pss_nil)
    (pss_one (ps_if (pt_cmpR (op_neA hu) (pv 5) (pe_lst (pa_cons (pe_callF F_law_has (hr.mono (by decide)) (by rfl) pass0 (pa_cons (pv 0) (pa_cons (pv 4) pa_nil))) (pa_cons (pe_callF F_law_has (hr.mono (by decide)) (by rfl) pass0 (pa_cons (pv 1) (pa_cons (pv 4) pa_nil))) pa_nil))) (nomark _)) (pss_one (ps_ret (pe_bl))) pss_nil)))))
    (pss_cons (ps_if (PW.pt (pw_or (pt_not (pt_val (pe_callB call_isi (by rfl) T.b_isinstance (by decide +kernel) (pa_cons (pe_callF F_meet (hr.mono (by decide)) (by rfl) passL (pa_cons (pv 0) (pa_cons (pv 1) pa_nil))) (pa_cons (pe_bltn (by rfl) T.b_bool (by decide +kernel) rfl) pa_nil))))) (pw_or1 (pt_cmpR (op_neA hu) (pe_callF F_meet (hr.mono (by decide)) (by rfl) passL (pa_cons (pv 0) (pa_cons (pv 1) pa_nil))) (pe_cmpR (op_neA hu) (pv 3) (pe_lst pa_nil) (nomark _)) (nomark _))))) (pss_one (ps_ret (pe_bl))) pss_nil)
    (pss_cons (ps_set (i := 5) nd (by rfl) (Or.inr rfl) (pe_callF F_common (hr.mono (by decide)) (by rfl) passL (pa_cons (pv 0) (pa_cons (pv 1) pa_nil))))
    (pss_cons (ps_if (PW.pt (pw_or (pt_cmpR op_isA (pv 5) (pe_non) (nomark _)) (pw_or1 (pt_cmpR (op_eqA hu) (pv 3) (pe_lst pa_nil) (nomark _))))) (pss_one (ps_ret ((pe_and (pe_cmpR op_isA (pv 5) (pe_non) (nomark _)) (pe_one (pe_cmpR (op_eqA hu) (pv 3) (pe_lst pa_nil) (nomark _))))))) pss_nil)
    (pss_cons (ps_if (PW.pt (pw_or (pt_not (pt_val (pe_callB call_isi (by rfl) T.b_isinstance (by decide +kernel) (pa_cons (pv 5) (pa_cons (pe_bltn (by rfl) T.b_tuple (by decide +kernel) rfl) pa_nil))))) (pw_or (pt_cmpR (op_neA hu) (pe_callB call_lenA (by rfl) T.b_len (by decide +kernel) (pa_cons (pv 5) pa_nil)) (pe_int) (nomark _)) (pw_or1 (pt_cmpR (op_neA hu) (pe_callF F_common (hr.mono (by decide)) (by rfl) passL (pa_cons (pv 1) (pa_cons (pv 0) pa_nil))) (pv 5) (nomark _)))))) (pss_one (ps_ret (pe_bl))) pss_nil)
    (pss_cons (ps_setLc (own := [("place", 4)]) (i := 6) rfl nd rfl rfl (sw_true rfl rfl rfl (by decide +kernel)) (pi_any (pe_op op_addA (pv 2) (pe_callF F_law_keys (hr.mono (by decide)) (by rfl) pass0 (pa_cons (pe_lst (pa_cons (pv 5) pa_nil)) pa_nil)))) (blkOk_by (own := [("place", 4)]) (N := ["first", "second", "keys", "both", "place", "told", "inner", "item"]) (sc := defScope s_law_right) (by decide +kernel)) (fun _ _ _ _ _ => (pg_name (i := 4) nd (by rfl) (by first | exact Or.inl rfl | exact Or.inr rfl))) (fun _ _ _ _ _ => (pts_one (pt_val (pe_callF F_law_has (hr.mono (by decide)) (by rfl) pass0 (pa_cons (pv 5) (pa_cons (pv 4) pa_nil)))))) (fun _ _ _ _ _ => (pv 4)))
    (pss_one (ps_ret ((pe_and (pe_cmpR (op_neA hu) (pv 6) (pe_lst pa_nil) (nomark _)) (pe_one (pe_callF F_law_same (hr.mono (by decide)) (by rfl) pass0 (pa_cons (pv 5) (pa_cons (pv 0) (pa_cons (pv 1) pa_nil)))))))))))))))))
theorem ok_law_right (T : Txt P K mg) (FD : ∃ fd, FunD K "_law_right" "_law_right" (defArgs s_law_right) (defBody s_law_right) (defScope s_law_right) [] [] (He.ga K "_law_right") fd) (hm : mg "_law_right" = some (.ref (He.ga K "_law_right"))) (F_law_keys : Fok P w K mg base CX0 1 "_law_keys" ["spans"] (sp_law_keys K)) (F_law_has : Fok P w K mg base CX0 1 "_law_has" ["piece", "place"] (sp_law_has K)) (F_in_span : Fok P w K mg base (L2.CX P w) 5 "in_span" ["span", "key"] (sp_in_span K)) (F_meet : Fok P w K mg base (L2.CX P w) 6 "meet" ["one", "other"] (sp_meet K)) (F_common : Fok P w K mg base (L2.CX P w) 5 "common" ["one", "other"] (sp_common K)) (F_law_same : Fok P w K mg base CX0 2 "_law_same" ["told", "first", "second"] (sp_law_same K)) (G_in_span_0_key_span : FokK P w K mg base (L2.CX P w) 5 "in_span" ["span", "key"] (sp_in_span K) 0 ["key", "span"] [1, 0]) : Fok P w K mg base CX0 7 "_law_right" ["first", "second"] (sp_law_right K) := by
  obtain ⟨fd, F⟩ := FD
  exact ⟨⟨fd, okf_law_right T F F_law_keys F_law_has F_in_span F_meet F_common F_law_same G_in_span_0_key_span, F.bindsN fun _ _ _ _ _ _ us hl => match us, hl with | [_, _], _ => rfl⟩, hm, F.kp⟩
abbrev s_law : Stmt := top 26
theorem sc_law : FnScope ["script", "k", "box", "first", "second", "bad", "worse", "way", "strange"] ["script"] (defScope s_law) := ⟨rfl, rfl, rfl, by decide +kernel, rfl, by decide +kernel, by decide +kernel⟩
theorem okf_law {fd : FuncData} (T : Txt P K mg) (F : FunD K "law" "law" (defArgs s_law) (defBody s_law) (defScope s_law) [] [] (He.ga K "law") fd) (F_law_box : Fok P w K mg base CX0 1 "_law_box" ["cell"] (sp_law_box K)) (F_law_cell : Fok P w K mg base CX0 1 "_law_cell" ["script", "k"] (sp_law_cell K)) (F_law_span : Fok P w K mg base CX0 2 "_law_span" ["box"] (sp_law_span K)) (F_law_right : Fok P w K mg base CX0 7 "_law_right" ["first", "second"] (sp_law_right K)) (F_law_take : Fok P w K mg base CX0 1 "_law_take" ["box", "many"] (sp_law_take K)) (F_law_told : Fok P w K mg base CX0 7 "_law_told" ["way", "first", "second"] (sp_law_told K))  : FnOk P w K mg base CX0 8 (He.ga K "law") fd ["script"] (sp_law K) := by
  have nd := sc_law.nd
  refine F.ok (k := 7) sc_law (len_law K) (fun cdv A outer s H vs Q E hr h => ⟨t_law K, PSs.nox ?_, pure_law K vs H Q E h⟩)
  have hu : (A.deeper (envOfC "law" (defScope s_law) s.heap.objs.size (He.ga K "law") cdv)).units + 64 < cLine := by
    have h1 := hr.un
    omega
  exact (pss_cons (ps_for PassesOwn.never rfl (pi_range1 (by rfl) T.b_range (pa_cons (pe_callB (call_maxA rfl) (by rfl) T.b_max (by decide +kernel) (pa_cons (pe_int) (pa_cons (pe_callB (call_minA rfl) (by rfl) T.b_min (by decide +kernel) (pa_cons (pe_int) (pa_cons (pe_callB call_lenA (by rfl) T.b_len (by decide +kernel) (pa_cons (pv 0) pa_nil)) pa_nil))) pa_nil))) pa_nil)) (pg_name (i := 1) nd (by rfl) (by first | exact Or.inl rfl | exact Or.inr rfl)) (pss_cons (ps_set (i := 2) nd (by rfl) (Or.inl rfl) (pe_callF F_law_box (hr.mono (by decide)) (by rfl) pass0 (pa_cons (pe_callF F_law_cell (hr.mono (by decide)) (by rfl) pass0 (pa_cons (pv 0) (pa_cons (pv 1) pa_nil))) pa_nil)))
    (pss_cons (ps_par (by rfl) nd rfl rfl (by decide) rfl rfl (pa_cons (pe_callF F_law_span (hr.mono (by decide)) (by rfl) pass0 (pa_cons (pv 2) pa_nil)) (pa_cons (pe_callF F_law_span (hr.mono (by decide)) (by rfl) pass0 (pa_cons (pv 2) pa_nil)) pa_nil)) (by rfl))
    (pss_cons (ps_if (pt_not (pt_val (pe_callF F_law_right (hr.mono (by decide)) (by rfl) pass0 (pa_cons (pv 3) (pa_cons (pv 4) pa_nil))))) (pss_one (ps_ret (pe_bl))) pss_nil)
    (pss_cons (ps_set (i := 5) nd (by rfl) (Or.inl rfl) (pe_ix ix_seq (pe_lst (pa_cons (pe_non) (pa_cons (pe_int) (pa_cons (pe_lst (pa_cons (pe_int) (pa_cons (pe_int) pa_nil))) (pa_cons (pe_tup (pa_cons (pe_int) (pa_cons (pe_int) pa_nil))) (pa_cons (pe_tup (pa_cons (pe_int) (pa_cons (pe_int) pa_nil))) (pa_cons (pe_tup (pa_cons (pe_int) (pa_cons (pe_bl) pa_nil))) (pa_cons (pe_str) (pa_cons (pe_tup pa_nil) pa_nil))))))))) (pe_callF F_law_take (hr.mono (by decide)) (by rfl) pass0 (pa_cons (pv 2) (pa_cons (pe_int) pa_nil))) (fun _ _ => rfl)))
    (pss_cons (ps_set (i := 6) nd (by rfl) (Or.inl rfl) (pe_ix ix_seq (pe_lst (pa_cons (pe_str) (pa_cons (pe_dnewK) (pa_cons (pe_tup (pa_cons (pe_int) (pa_cons (pe_int) pa_nil))) pa_nil)))) (pe_callF F_law_take (hr.mono (by decide)) (by rfl) pass0 (pa_cons (pv 2) (pa_cons (pe_int) pa_nil))) (fun _ _ => rfl)))
    (pss_cons (ps_for PassesOwn.never rfl (pi_range1 (by rfl) T.b_range (pa_cons (pe_int) pa_nil)) (pg_name (i := 7) nd (by rfl) (by first | exact Or.inl rfl | exact Or.inr rfl)) (pss_one (ps_if (PW.pt (pw_or (pt_cmpR (op_neA hu) (pe_callF F_law_told (hr.mono (by decide)) (by rfl) pass0 (pa_cons (pv 7) (pa_cons (pv 5) (pa_cons (pv 6) pa_nil)))) (pe_lst (pa_cons (pe_str) (pa_cons (pv 5) pa_nil))) (nomark _)) (pw_or1 (pt_cmpR (op_neA hu) (pe_callF F_law_told (hr.mono (by decide)) (by rfl) pass0 (pa_cons (pv 7) (pa_cons (pv 6) (pa_cons (pv 5) pa_nil)))) (pe_lst (pa_cons (pe_str) (pa_cons (pv 6) pa_nil))) (nomark _))))) (pss_one (ps_ret (pe_bl))) pss_nil)))
    (pss_cons (ps_for PassesOwn.never rfl (pi_any (pe_lst (pa_cons (pe_int) (pa_cons (pe_int) pa_nil)))) (pg_name (i := 7) nd (by rfl) (by first | exact Or.inl rfl | exact Or.inr rfl)) (pss_one (ps_if (pt_cmpR (op_neA hu) (pe_callF F_law_told (hr.mono (by decide)) (by rfl) pass0 (pa_cons (pv 7) (pa_cons (pv 3) (pa_cons (pv 5) pa_nil)))) (pe_lst (pa_cons (pe_str) (pa_cons (pv 5) pa_nil))) (nomark _)) (pss_one (ps_ret (pe_bl))) pss_nil)))
    (pss_cons (ps_set (i := 8) nd (by rfl) (Or.inl rfl) (pe_ix ix_seq (pe_lst (pa_cons (pe_non) (pa_cons (pe_bl) (pa_cons (pe_str) (pa_cons (pe_tup (pa_cons (pe_int) (pa_cons (pe_int) pa_nil))) (pa_cons (pe_lst (pa_cons (pe_int) pa_nil)) pa_nil)))))) (pe_callF F_law_take (hr.mono (by decide)) (by rfl) pass0 (pa_cons (pv 2) (pa_cons (pe_int) pa_nil))) (fun _ _ => rfl)))
    (pss_one (ps_if (pt_cmpR (op_neA hu) (pe_callF F_law_told (hr.mono (by decide)) (by rfl) pass0 (pa_cons (pe_int) (pa_cons (pv 3) (pa_cons (pv 8) pa_nil)))) (pe_lst (pa_cons (pe_str) (pa_cons (pv 8) pa_nil))) (nomark _)) (pss_one (ps_ret (pe_bl))) pss_nil)))))))))))
    (pss_one (ps_ret (pe_bl))))
theorem ok_law (T : Txt P K mg) (FD : ∃ fd, FunD K "law" "law" (defArgs s_law) (defBody s_law) (defScope s_law) [] [] (He.ga K "law") fd) (hm : mg "law" = some (.ref (He.ga K "law"))) (F_law_box : Fok P w K mg base CX0 1 "_law_box" ["cell"] (sp_law_box K)) (F_law_cell : Fok P w K mg base CX0 1 "_law_cell" ["script", "k"] (sp_law_cell K)) (F_law_span : Fok P w K mg base CX0 2 "_law_span" ["box"] (sp_law_span K)) (F_law_right : Fok P w K mg base CX0 7 "_law_right" ["first", "second"] (sp_law_right K)) (F_law_take : Fok P w K mg base CX0 1 "_law_take" ["box", "many"] (sp_law_take K)) (F_law_told : Fok P w K mg base CX0 7 "_law_told" ["way", "first", "second"] (sp_law_told K))  : Fok P w K mg base CX0 8 "law" ["script"] (sp_law K) := by
  obtain ⟨fd, F⟩ := FD
  exact ⟨⟨fd, okf_law T F F_law_box F_law_cell F_law_span F_law_right F_law_take F_law_told , F.bindsN fun _ _ _ _ _ _ us hl => match us, hl with | [_], _ => rfl⟩, hm, F.kp⟩
end
/-! ### the head's facts -/
def fa : List He.Fa := [.free "bool", .free "int", .free "isinstance", .free "len", .free "max", .free "min", .free "range", .free "super", .free "tuple", .glo "InvalidKey", .glo "InvalidSpan", .exm "InvalidKey" "InvalidKey" true, .exm "InvalidKey" "InvalidSpan" false, .exm "InvalidSpan" "InvalidKey" false, .exm "InvalidSpan" "InvalidSpan" true, .glo "is_integer", .glo "is_limit", .glo "is_span", .glo "need_span", .glo "need_key", .glo "has_key", .glo "in_span", .glo "greater_limit", .glo "lesser_limit", .glo "common", .glo "meet", .glo "_law_cell", .glo "_law_box", .glo "_law_take", .glo "_law_has", .glo "_law_span", .glo "_law_keys", .glo "_law_told", .glo "_law_same", .glo "_law_right", .glo "law"]
def fn : List He.DefD := [⟨("is_integer", none), "is_integer", "is_integer", defArgs s_is_integer, defBody s_is_integer, defScope s_is_integer, [], []⟩, ⟨("is_limit", none), "is_limit", "is_limit", defArgs s_is_limit, defBody s_is_limit, defScope s_is_limit, [], []⟩, ⟨("is_span", none), "is_span", "is_span", defArgs s_is_span, defBody s_is_span, defScope s_is_span, [], []⟩, ⟨("need_span", none), "need_span", "need_span", defArgs s_need_span, defBody s_need_span, defScope s_need_span, [], []⟩, ⟨("need_key", none), "need_key", "need_key", defArgs s_need_key, defBody s_need_key, defScope s_need_key, [], []⟩, ⟨("has_key", none), "has_key", "has_key", defArgs s_has_key, defBody s_has_key, defScope s_has_key, [], []⟩, ⟨("in_span", none), "in_span", "in_span", defArgs s_in_span, defBody s_in_span, defScope s_in_span, [], []⟩, ⟨("greater_limit", none), "greater_limit", "greater_limit", defArgs s_greater_limit, defBody s_greater_limit, defScope s_greater_limit, [], []⟩, ⟨("lesser_limit", none), "lesser_limit", "lesser_limit", defArgs s_lesser_limit, defBody s_lesser_limit, defScope s_lesser_limit, [], []⟩, ⟨("common", none), "common", "common", defArgs s_common, defBody s_common, defScope s_common, [], []⟩, ⟨("meet", none), "meet", "meet", defArgs s_meet, defBody s_meet, defScope s_meet, [], []⟩, ⟨("_law_cell", none), "_law_cell", "_law_cell", defArgs s_law_cell, defBody s_law_cell, defScope s_law_cell, [], []⟩, ⟨("_law_box", none), "_law_box", "_law_box", defArgs s_law_box, defBody s_law_box, defScope s_law_box, [], []⟩, ⟨("_law_take", none), "_law_take", "_law_take", defArgs s_law_take, defBody s_law_take, defScope s_law_take, [], []⟩, ⟨("_law_has", none), "_law_has", "_law_has", defArgs s_law_has, defBody s_law_has, defScope s_law_has, [], []⟩, ⟨("_law_span", none), "_law_span", "_law_span", defArgs s_law_span, defBody s_law_span, defScope s_law_span, [], []⟩, ⟨("_law_keys", none), "_law_keys", "_law_keys", defArgs s_law_keys, defBody s_law_keys, defScope s_law_keys, [], []⟩, ⟨("_law_told", none), "_law_told", "_law_told", defArgs s_law_told, defBody s_law_told, defScope s_law_told, [], []⟩, ⟨("_law_same", none), "_law_same", "_law_same", defArgs s_law_same, defBody s_law_same, defScope s_law_same, [], []⟩, ⟨("_law_right", none), "_law_right", "_law_right", defArgs s_law_right, defBody s_law_right, defScope s_law_right, [], []⟩, ⟨("law", none), "law", "law", defArgs s_law, defBody s_law, defScope s_law, [], []⟩]
def fs : List ((Str × Option Str) × FnS) := [(("InvalidKey", some "__init__"), some ("__init__", "InvalidKey.__init__", (PySem.Sxvalue.iA ⟨6, 17, 6, 21⟩ ⟨6, 23, 6, 28⟩), FuncBody.stmts (PySem.Sxvalue.iB "the value is not a key" ⟨7, 8, 7, 13⟩ ⟨7, 8, 7, 15⟩ ⟨7, 8, 7, 24⟩ ⟨7, 25, 7, 49⟩ ⟨7, 8, 7, 50⟩ ⟨7, 8, 7, 50⟩ ⟨8, 8, 8, 12⟩ ⟨8, 8, 8, 18⟩ ⟨8, 21, 8, 26⟩ ⟨8, 8, 8, 26⟩), PySem.Sxvalue.iS, mainGlobals, [("__class__" : Str)], builtinsNs)),
  (("InvalidSpan", some "__init__"), some ("__init__", "InvalidSpan.__init__", (PySem.Sxvalue.iA ⟨11, 17, 11, 21⟩ ⟨11, 23, 11, 28⟩), FuncBody.stmts (PySem.Sxvalue.iB "the value is not a span" ⟨12, 8, 12, 13⟩ ⟨12, 8, 12, 15⟩ ⟨12, 8, 12, 24⟩ ⟨12, 25, 12, 50⟩ ⟨12, 8, 12, 51⟩ ⟨12, 8, 12, 51⟩ ⟨13, 8, 13, 12⟩ ⟨13, 8, 13, 18⟩ ⟨13, 21, 13, 26⟩ ⟨13, 8, 13, 26⟩), PySem.Sxvalue.iS, mainGlobals, [("__class__" : Str)], builtinsNs))]
def cu : List (PySem.W.Frag → Bool) := [fun K => Chkvalue PySem.Challenge.pw_shiftparts_k02_spans_laid_over_one_anoth K "InvalidKey", fun K => Chkvalue PySem.Challenge.pw_shiftparts_k02_spans_laid_over_one_anoth K "InvalidSpan", fun K => xfB K (He.ga K "InvalidKey"), fun K => xfB K (He.ga K "InvalidSpan"), fun K => eqB (PySem.W.findIn K (.ref (He.ga K "InvalidKey")) "value") (some none), fun K => eqB (PySem.W.findIn K (.ref (He.ga K "InvalidSpan")) "value") (some none)]
theorem all_ok {P : Program} {w : World} {K : PySem.W.Frag} {h : Heap} {mg : Str → Option Value} {f : Addr} (hPf : P.main.file = PySem.Challenge.pw_shiftparts_k02_spans_laid_over_one_anoth.main.file) (hPs : (P.main.scope.names.lookup ("super" : Str)).isSome = false) (X : K.In h) (G : h.Ns mainGlobals mg) (hfa : mg ("law" : Str) = some (.ref f)) (c : SaysX fa fn fs cu K) :
    ∃ fd : FuncData, (∀ (s : Shared) (v : Value), BindsTo s fd ⟨[v], []⟩ [("script", v)]) ∧ ∀ base : Heap, K.In base → base.Ns mainGlobals mg → FnOk P w K mg base CX0 8 f fd ["script"] (sp_law K) := by
  have T : Txt P K mg := ⟨(He.free_ok X G (c.fact 0 (f := .free "bool") rfl)),
    (He.free_ok X G (c.fact 1 (f := .free "int") rfl)),
    (He.free_ok X G (c.fact 2 (f := .free "isinstance") rfl)),
    (He.free_ok X G (c.fact 3 (f := .free "len") rfl)),
    (He.free_ok X G (c.fact 4 (f := .free "max") rfl)),
    (He.free_ok X G (c.fact 5 (f := .free "min") rfl)),
    (He.free_ok X G (c.fact 6 (f := .free "range") rfl)),
    (He.free_ok X G (c.fact 7 (f := .free "super") rfl)),
    (He.free_ok X G (c.fact 8 (f := .free "tuple") rfl)),
    (He.glo_ok X G (c.fact 9 (f := .glo "InvalidKey") rfl)),
    (He.glo_ok X G (c.fact 10 (f := .glo "InvalidSpan") rfl)),
    (chkvalue_ok (P0 := PySem.Challenge.pw_shiftparts_k02_spans_laid_over_one_anoth) (He.glo_ok X G (c.fact 9 (f := .glo "InvalidKey") rfl)) (He.free_ok X G (c.fact 7 (f := .free "super") rfl)) hPf hPs (c.init 0 (f := (("InvalidKey", some "__init__"), some ("__init__", "InvalidKey.__init__", (PySem.Sxvalue.iA ⟨6, 17, 6, 21⟩ ⟨6, 23, 6, 28⟩), FuncBody.stmts (PySem.Sxvalue.iB "the value is not a key" ⟨7, 8, 7, 13⟩ ⟨7, 8, 7, 15⟩ ⟨7, 8, 7, 24⟩ ⟨7, 25, 7, 49⟩ ⟨7, 8, 7, 50⟩ ⟨7, 8, 7, 50⟩ ⟨8, 8, 8, 12⟩ ⟨8, 8, 8, 18⟩ ⟨8, 21, 8, 26⟩ ⟨8, 8, 8, 26⟩), PySem.Sxvalue.iS, mainGlobals, [("__class__" : Str)], builtinsNs))) rfl) (by decide) (c.own 0 (f := fun K => Chkvalue PySem.Challenge.pw_shiftparts_k02_spans_laid_over_one_anoth K "InvalidKey") rfl)),
    (chkvalue_ok (P0 := PySem.Challenge.pw_shiftparts_k02_spans_laid_over_one_anoth) (He.glo_ok X G (c.fact 10 (f := .glo "InvalidSpan") rfl)) (He.free_ok X G (c.fact 7 (f := .free "super") rfl)) hPf hPs (c.init 1 (f := (("InvalidSpan", some "__init__"), some ("__init__", "InvalidSpan.__init__", (PySem.Sxvalue.iA ⟨11, 17, 11, 21⟩ ⟨11, 23, 11, 28⟩), FuncBody.stmts (PySem.Sxvalue.iB "the value is not a span" ⟨12, 8, 12, 13⟩ ⟨12, 8, 12, 15⟩ ⟨12, 8, 12, 24⟩ ⟨12, 25, 12, 50⟩ ⟨12, 8, 12, 51⟩ ⟨12, 8, 12, 51⟩ ⟨13, 8, 13, 12⟩ ⟨13, 8, 13, 18⟩ ⟨13, 21, 13, 26⟩ ⟨13, 8, 13, 26⟩), PySem.Sxvalue.iS, mainGlobals, [("__class__" : Str)], builtinsNs))) rfl) (by decide) (c.own 1 (f := fun K => Chkvalue PySem.Challenge.pw_shiftparts_k02_spans_laid_over_one_anoth K "InvalidSpan") rfl)),
    (xfB_ok (c.own 2 (f := fun K => xfB K (He.ga K "InvalidKey")) rfl)),
    (xfB_ok (c.own 3 (f := fun K => xfB K (He.ga K "InvalidSpan")) rfl)),
    (eqB_ok (c.own 4 (f := fun K => eqB (PySem.W.findIn K (.ref (He.ga K "InvalidKey")) "value") (some none)) rfl)),
    (eqB_ok (c.own 5 (f := fun K => eqB (PySem.W.findIn K (.ref (He.ga K "InvalidSpan")) "value") (some none)) rfl)),
    ⟨He.exm_ok (c.fact 11 (f := .exm "InvalidKey" "InvalidKey" true) rfl), He.exm_ok (c.fact 12 (f := .exm "InvalidKey" "InvalidSpan" false) rfl), He.exm_ok (c.fact 13 (f := .exm "InvalidSpan" "InvalidKey" false) rfl), He.exm_ok (c.fact 14 (f := .exm "InvalidSpan" "InvalidSpan" true) rfl)⟩⟩
  have hml := He.glo_ok X G (c.fact 35 (f := .glo "law") rfl)
  have e := hfa.symm.trans hml
  cases e
  obtain ⟨fdL, FL⟩ := c.def_ 20 (d := ⟨("law", none), "law", "law", defArgs s_law, defBody s_law, defScope s_law, [], []⟩) rfl
  have b := FunD.bindsA (ps := ["script"]) FL fun _ _ _ _ _ _ us hl => match us, hl with | [_], _ => rfl
  refine ⟨fdL, fun s v => b s [v] rfl, fun base _ _ => ?_⟩
  have O_is_integer := ok_is_integer (P := P) (w := w) (base := base) T (c.def_ 0 (d := ⟨("is_integer", none), "is_integer", "is_integer", defArgs s_is_integer, defBody s_is_integer, defScope s_is_integer, [], []⟩) rfl) (He.glo_ok X G (c.fact 15 (f := .glo "is_integer") rfl)) 
  have O_is_limit := ok_is_limit (P := P) (w := w) (base := base) T (c.def_ 1 (d := ⟨("is_limit", none), "is_limit", "is_limit", defArgs s_is_limit, defBody s_is_limit, defScope s_is_limit, [], []⟩) rfl) (He.glo_ok X G (c.fact 16 (f := .glo "is_limit") rfl)) O_is_integer
  have O_is_span := ok_is_span (P := P) (w := w) (base := base) T (c.def_ 2 (d := ⟨("is_span", none), "is_span", "is_span", defArgs s_is_span, defBody s_is_span, defScope s_is_span, [], []⟩) rfl) (He.glo_ok X G (c.fact 17 (f := .glo "is_span") rfl)) O_is_limit
  have O_need_span := ok_need_span (P := P) (w := w) (base := base) T (c.def_ 3 (d := ⟨("need_span", none), "need_span", "need_span", defArgs s_need_span, defBody s_need_span, defScope s_need_span, [], []⟩) rfl) (He.glo_ok X G (c.fact 18 (f := .glo "need_span") rfl)) O_is_span
  have O_need_key := ok_need_key (P := P) (w := w) (base := base) T (c.def_ 4 (d := ⟨("need_key", none), "need_key", "need_key", defArgs s_need_key, defBody s_need_key, defScope s_need_key, [], []⟩) rfl) (He.glo_ok X G (c.fact 19 (f := .glo "need_key") rfl)) O_is_integer
  have O_has_key := ok_has_key (P := P) (w := w) (base := base) T (c.def_ 5 (d := ⟨("has_key", none), "has_key", "has_key", defArgs s_has_key, defBody s_has_key, defScope s_has_key, [], []⟩) rfl) (He.glo_ok X G (c.fact 20 (f := .glo "has_key") rfl)) 
  have O_in_span := ok_in_span (P := P) (w := w) (base := base) T (c.def_ 6 (d := ⟨("in_span", none), "in_span", "in_span", defArgs s_in_span, defBody s_in_span, defScope s_in_span, [], []⟩) rfl) (He.glo_ok X G (c.fact 21 (f := .glo "in_span") rfl)) O_need_span O_need_key O_has_key
  have O_in_span_0_key_span := okkG_in_span_0_key_span (P := P) (w := w) (base := base) T (c.def_ 6 (d := ⟨("in_span", none), "in_span", "in_span", defArgs s_in_span, defBody s_in_span, defScope s_in_span, [], []⟩) rfl) (He.glo_ok X G (c.fact 21 (f := .glo "in_span") rfl)) O_need_span O_need_key O_has_key
  have O_greater_limit := ok_greater_limit (P := P) (w := w) (base := base) T (c.def_ 7 (d := ⟨("greater_limit", none), "greater_limit", "greater_limit", defArgs s_greater_limit, defBody s_greater_limit, defScope s_greater_limit, [], []⟩) rfl) (He.glo_ok X G (c.fact 22 (f := .glo "greater_limit") rfl)) 
  have O_lesser_limit := ok_lesser_limit (P := P) (w := w) (base := base) T (c.def_ 8 (d := ⟨("lesser_limit", none), "lesser_limit", "lesser_limit", defArgs s_lesser_limit, defBody s_lesser_limit, defScope s_lesser_limit, [], []⟩) rfl) (He.glo_ok X G (c.fact 23 (f := .glo "lesser_limit") rfl)) 
  have O_common := ok_common (P := P) (w := w) (base := base) T (c.def_ 9 (d := ⟨("common", none), "common", "common", defArgs s_common, defBody s_common, defScope s_common, [], []⟩) rfl) (He.glo_ok X G (c.fact 24 (f := .glo "common") rfl)) O_need_span O_lesser_limit O_greater_limit O_is_span
  have O_common_0_other_one := okkG_common_0_other_one (P := P) (w := w) (base := base) T (c.def_ 9 (d := ⟨("common", none), "common", "common", defArgs s_common, defBody s_common, defScope s_common, [], []⟩) rfl) (He.glo_ok X G (c.fact 24 (f := .glo "common") rfl)) O_need_span O_lesser_limit O_greater_limit O_is_span
  have O_meet := ok_meet (P := P) (w := w) (base := base) T (c.def_ 10 (d := ⟨("meet", none), "meet", "meet", defArgs s_meet, defBody s_meet, defScope s_meet, [], []⟩) rfl) (He.glo_ok X G (c.fact 25 (f := .glo "meet") rfl)) O_common
  have O_law_cell := ok_law_cell (P := P) (w := w) (base := base) T (c.def_ 11 (d := ⟨("_law_cell", none), "_law_cell", "_law_cell", defArgs s_law_cell, defBody s_law_cell, defScope s_law_cell, [], []⟩) rfl) (He.glo_ok X G (c.fact 26 (f := .glo "_law_cell") rfl)) 
  have O_law_box := ok_law_box (P := P) (w := w) (base := base) T (c.def_ 12 (d := ⟨("_law_box", none), "_law_box", "_law_box", defArgs s_law_box, defBody s_law_box, defScope s_law_box, [], []⟩) rfl) (He.glo_ok X G (c.fact 27 (f := .glo "_law_box") rfl)) 
  have O_law_take := ok_law_take (P := P) (w := w) (base := base) T (c.def_ 13 (d := ⟨("_law_take", none), "_law_take", "_law_take", defArgs s_law_take, defBody s_law_take, defScope s_law_take, [], []⟩) rfl) (He.glo_ok X G (c.fact 28 (f := .glo "_law_take") rfl)) 
  have O_law_has := ok_law_has (P := P) (w := w) (base := base) T (c.def_ 14 (d := ⟨("_law_has", none), "_law_has", "_law_has", defArgs s_law_has, defBody s_law_has, defScope s_law_has, [], []⟩) rfl) (He.glo_ok X G (c.fact 29 (f := .glo "_law_has") rfl)) 
  have O_law_span := ok_law_span (P := P) (w := w) (base := base) T (c.def_ 15 (d := ⟨("_law_span", none), "_law_span", "_law_span", defArgs s_law_span, defBody s_law_span, defScope s_law_span, [], []⟩) rfl) (He.glo_ok X G (c.fact 30 (f := .glo "_law_span") rfl)) O_law_take
  have O_law_keys := ok_law_keys (P := P) (w := w) (base := base) T (c.def_ 16 (d := ⟨("_law_keys", none), "_law_keys", "_law_keys", defArgs s_law_keys, defBody s_law_keys, defScope s_law_keys, [], []⟩) rfl) (He.glo_ok X G (c.fact 31 (f := .glo "_law_keys") rfl)) 
  have O_law_told := ok_law_told (P := P) (w := w) (base := base) T (c.def_ 17 (d := ⟨("_law_told", none), "_law_told", "_law_told", defArgs s_law_told, defBody s_law_told, defScope s_law_told, [], []⟩) rfl) (He.glo_ok X G (c.fact 32 (f := .glo "_law_told") rfl)) O_in_span O_meet O_common_0_other_one
  have O_law_same := ok_law_same (P := P) (w := w) (base := base) T (c.def_ 18 (d := ⟨("_law_same", none), "_law_same", "_law_same", defArgs s_law_same, defBody s_law_same, defScope s_law_same, [], []⟩) rfl) (He.glo_ok X G (c.fact 33 (f := .glo "_law_same") rfl)) O_law_keys O_law_has
  have O_law_right := ok_law_right (P := P) (w := w) (base := base) T (c.def_ 19 (d := ⟨("_law_right", none), "_law_right", "_law_right", defArgs s_law_right, defBody s_law_right, defScope s_law_right, [], []⟩) rfl) (He.glo_ok X G (c.fact 34 (f := .glo "_law_right") rfl)) O_law_keys O_law_has O_in_span O_meet O_common O_law_same O_in_span_0_key_span
  exact okf_law (P := P) (w := w) (base := base) T FL O_law_box O_law_cell O_law_span O_law_right O_law_take O_law_told
def lawLevel : Nat := 8
def lawAt : Nat := 26

end Z

namespace Z
open PySem PySem.Spec PyProof.Rows L2
/-! ### the end -/
abbrev R : PySem.W.OpenRow := PySem.W.OpenLaw.row PySem.Challenge.rw_shiftparts_k02_spans_laid_over_one_anoth
abbrev hk : PySem.W.Hook := hookX 4 fa fn fs cu
def ob (s : PySem.W.SharedT) : AlX := obsXG 4 fa fn fs cu (HandSHeadRun.getT s)
theorem ob_eq (s : PySem.W.SharedT) : ob s = hk.obs s.abs := obsXG_eq (HandSHeadRun.getT_eq s)
def loose : List PySem.Str := (["PartsError", "InvalidKey", "InvalidSpan", "is_integer", "is_limit", "is_span", "need_span", "need_key", "has_key", "in_span", "greater_limit", "lesser_limit", "common", "meet", "_law_cell", "_law_box", "_law_take", "_law_has", "_law_span", "_law_keys", "_law_told", "_law_right", "_law_same"] : List PySem.Str)
theorem run (w : World) : HandSHeadRun.RunEq R (PySem.W.view R.prog [26]) hk ob 4000 loose w := by
  intro os
  kernel_rfl
end Z
open PySem PySem.W PySem.Calls PyProof.Rows
theorem PySem.Challenge.cw_shiftparts_k02_spans_laid_over_one_anoth_holds : PySem.Challenge.rw_shiftparts_k02_spans_laid_over_one_anoth.Holds := by
  w_on; o_law
  refine HandSHeadRun.head_any (r := OpenLaw.row PySem.Challenge.rw_shiftparts_k02_spans_laid_over_one_anoth) (q := view (OpenLaw.row PySem.Challenge.rw_shiftparts_k02_spans_laid_over_one_anoth).prog [26]) (H := Z.hk) (ob := Z.ob) (M := 4000) (loose := Z.loose) (d := HandSHeadRun.topDef (OpenLaw.row PySem.Challenge.rw_shiftparts_k02_spans_laid_over_one_anoth).prog 26) (kwd := []) Z.ob_eq
    (by kernel_rfl) (fun s => by kernel_rfl) Z.run (by kernel_rfl) (by kernel_rfl) (by kernel_rfl) (by rfl) (by first | assumption | decide +kernel) (by decide +kernel) ⟨rfl, rfl, rfl, rfl, rfl, by decide +kernel⟩ ?hw ?hc
  case hw => w_witness2
  case hc =>
    refine L2.walk_ofE (l := PySem.Challenge.rw_shiftparts_k02_spans_laid_over_one_anoth) (n := 63) (k := 8) (x := "script") (CX := L2.CX0) rfl (by decide) (by kernel_rfl) ⟨rfl, by decide, by decide⟩ ?F (fun _ _ _ _ z => z)
    intro w mg fa h Y G hmg0
    obtain ⟨K, KX, c⟩ := Y
    have hmg : mg ("law" : PySem.Str) = some (.ref fa) := by
      have e : (HandSHeadRun.topDef (OpenLaw.row PySem.Challenge.rw_shiftparts_k02_spans_laid_over_one_anoth).prog 26).name = ("law" : PySem.Str) := by kernel_rfl
      rw [← e]
      exact hmg0
    obtain ⟨fd, hb, hF⟩ := Z.all_ok (P := (PySem.Challenge.rw_shiftparts_k02_spans_laid_over_one_anoth).prog) (w := w) (by rfl) (by decide +kernel) KX G hmg c
    exact ⟨K, fd, Z.sp_law K, KX, hb, fun H a ns hl _ hS => ⟨a, ns, rfl, hS, hl, fun _ => rfl⟩, hF⟩
#print axioms PySem.Challenge.cw_shiftparts_k02_spans_laid_over_one_anoth_holds

