import PyProof.Rows.All
import Wide.All
import OpenK.AllK
import Wide.FinOn
import HandS.ForMost
import HandS.Flow
import HandS.Style
import HandS.Wide
import HandS.WideMore
import HandS.IsInst
import HandS.Evl
import HandS.Walk
import HandS.Defaults
import HandS.Head0
import HandS.Head1
import HandS.Head2
import HandS.HeadEnd
import HandS.HeadHook1
import HandS.HeadHook2
import PySem.Challenge.RW_shiftparts_k01_kinds_of_values
set_option Elab.async false
set_option linter.all false
set_option maxRecDepth 100000
set_option maxHeartbeats 4000000
/-! == and != of data at any depth: items by identity or by ==, lists and tuples of any length -/
namespace Z
open PySem PySem.Spec PyProof.Rows L2 Evl
def scB : V → V → Bool
  | .non, .non | .non, .int _ | .int _, .non | .non, .bl _ | .bl _, .non | .non, .str _ | .str _, .non => true
  | .int _, .int _ | .bl _, .bl _ | .str _, .str _ | .int _, .str _ | .str _, .int _ | .bl _, .str _ | .str _, .bl _ => true
  | _, _ => false
def isS : V → Bool
  | .non | .bl _ | .int _ | .str _ => true
  | _ => false
/-- items one by one, as far as both go -/
inductive EqZ (E : V → V → Bool → Prop) : List V → List V → List Bool → Prop
  | nil : EqZ E [] [] []
  | nilL {y : V} {ys : List V} : EqZ E [] (y :: ys) []
  | nilR {x : V} {xs : List V} : EqZ E (x :: xs) [] []
  | cons {x y : V} {xs ys : List V} {b : Bool} {e : List Bool} : E x y b → EqZ E xs ys e → EqZ E (x :: xs) (y :: ys) (b :: e)
/-- x == y gives b, items by E -/
inductive EqR (K : PySem.W.Frag) (H : Hp) (E : V → V → Bool → Prop) : V → V → Bool → Prop
  | sc {x y : V} : scB x y = true → EqR K H E x y (decide (x = y))
  | bi (a : Bool) (j : Int) : EqR K H E (.bl a) (.int j) ((if a then 1 else 0) == j)
  | ib (i : Int) (b : Bool) : EqR K H E (.int i) (.bl b) (i == (if b then 1 else 0))
  | ll {a b : Addr} {xs ys : List V} : SqL K H a xs → SqL K H b ys → xs.length ≠ ys.length → EqR K H E (.ref a) (.ref b) false
  | lst {a b : Addr} {xs ys : List V} {e : List Bool} : SqL K H a xs → SqL K H b ys → xs.length = ys.length → EqZ E xs ys e → EqR K H E (.ref a) (.ref b) (e.all id)
  | tup {a b : Addr} {xs ys : List V} {e : List Bool} : SqT K H a xs → SqT K H b ys → EqZ E xs ys e → EqR K H E (.ref a) (.ref b) (e.all id && decide (xs.length = ys.length))
  | lt {a b : Addr} {xs ys : List V} : SqL K H a xs → SqT K H b ys → EqR K H E (.ref a) (.ref b) false
  | tl {a b : Addr} {xs ys : List V} : SqT K H a xs → SqL K H b ys → EqR K H E (.ref a) (.ref b) false
  | ls {a : Addr} {xs : List V} {y : V} : SqL K H a xs → isS y = true → EqR K H E (.ref a) y false
  | sl {a : Addr} {xs : List V} {y : V} : SqL K H a xs → isS y = true → EqR K H E y (.ref a) false
  | ts {a : Addr} {xs : List V} {y : V} : SqT K H a xs → isS y = true → EqR K H E (.ref a) y false
  | st {a : Addr} {xs : List V} {y : V} : SqT K H a xs → isS y = true → EqR K H E y (.ref a) false
/-- two items: the same object, or equal by == -/
def EqI (K : PySem.W.Frag) (H : Hp) : Nat → V → V → Bool → Prop
  | 0 => fun _ _ _ => False
  | n + 1 => fun x y b => (∃ a, x = .ref a ∧ y = .ref a ∧ b = true) ∨ (EqR K H (EqI K H n) x y b ∧ ∀ a, x = .ref a → y ≠ .ref a)
theorem EqI.same {K : PySem.W.Frag} {H : Hp} {n : Nat} (a : Addr) : EqI K H (n + 1) (.ref a) (.ref a) true := .inl ⟨a, rfl, rfl, rfl⟩
theorem EqI.sc {K : PySem.W.Frag} {H : Hp} {n : Nat} {x y : V} (h : scB x y = true) : EqI K H (n + 1) x y (decide (x = y)) := .inr ⟨.sc h, fun a e => by
  subst e
  cases h⟩
theorem EqI.rc {K : PySem.W.Frag} {H : Hp} {n : Nat} {a b : Addr} {k : Bool} (h : EqR K H (EqI K H n) (.ref a) (.ref b) k) (ne : a ≠ b) : EqI K H (n + 1) (.ref a) (.ref b) k := .inr ⟨h, fun c e f => by
  injection e with e
  injection f with f
  exact ne (e.trans f.symm)⟩
section
variable {X : Cx} {pins : List (Addr × Obj)} {σ : L2.St} {H : Hp} {s : Shared}
theorem sc_rc {A : Around} {x y : V} {v u : Value} (h : scB x y = true) (rx : RelV x v) (ry : RelV y u) : SeqAt.RcAt A s v u (decide (x = y)) := by
  have beqd : ∀ (a b : Bool), decide (V.bl a = V.bl b) = (a == b) := fun a b => by cases a <;> cases b <;> rfl
  have beqi : ∀ (a b : Int), decide (V.int a = V.int b) = (a == b) := fun a b => by
    rw [Bool.beq_eq_decide_eq]
    simp
  have beqs : ∀ (a b : Str), decide (V.str a = V.str b) = (a == b) := fun a b => by
    rw [Bool.beq_eq_decide_eq]
    simp
  cases x <;> cases y <;> first | (exact absurd (show false = true from h) Bool.false_ne_true) | skip
  · cases rx; cases ry; exact SeqAt.RcAt.none_none
  · cases rx; cases ry; exact SeqAt.RcAt.none_bool _
  · cases rx; obtain ⟨t, rfl⟩ := ry; exact SeqAt.RcAt.none_int _ _
  · cases rx; obtain ⟨t, rfl⟩ := ry; exact SeqAt.RcAt.none_str _ _
  · cases rx; cases ry; exact SeqAt.RcAt.bool_none _
  · cases rx; cases ry; rw [beqd]; exact SeqAt.RcAt.bool_bool _ _
  · cases rx; obtain ⟨t, rfl⟩ := ry; exact SeqAt.RcAt.bool_str _ _ _
  · cases ry; obtain ⟨t, rfl⟩ := rx; exact SeqAt.RcAt.int_none _ _
  · obtain ⟨t, rfl⟩ := rx; obtain ⟨t', rfl⟩ := ry; rw [beqi]; exact SeqAt.RcAt.int_int _ _ _ _
  · obtain ⟨t, rfl⟩ := rx; obtain ⟨t', rfl⟩ := ry; exact SeqAt.RcAt.int_str _ _ _ _
  · cases ry; obtain ⟨t, rfl⟩ := rx; exact SeqAt.RcAt.str_none _ _
  · cases ry; obtain ⟨t, rfl⟩ := rx; exact SeqAt.RcAt.str_bool _ _ _
  · obtain ⟨t, rfl⟩ := rx; obtain ⟨t', rfl⟩ := ry; exact SeqAt.RcAt.str_int _ _ _ _
  · obtain ⟨t, rfl⟩ := rx; obtain ⟨t', rfl⟩ := ry; rw [beqs]; exact SeqAt.RcAt.str_str _ _ _ _
theorem sc_eq {A : Around} {x y : V} {v u : Value} (h : scB x y = true) (rx : RelV x v) (ry : RelV y u) : SeqAt.EqAt A s v u (decide (x = y)) := by
  have beqd : ∀ (a b : Bool), decide (V.bl a = V.bl b) = (a == b) := fun a b => by cases a <;> cases b <;> rfl
  have beqi : ∀ (a b : Int), decide (V.int a = V.int b) = (a == b) := fun a b => by
    rw [Bool.beq_eq_decide_eq]
    simp
  have beqs : ∀ (a b : Str), decide (V.str a = V.str b) = (a == b) := fun a b => by
    rw [Bool.beq_eq_decide_eq]
    simp
  cases x <;> cases y <;> first | (exact absurd (show false = true from h) Bool.false_ne_true) | skip
  · cases rx; cases ry; exact SeqAt.EqAt.same _
  · cases rx; cases ry; exact SeqAt.EqAt.none_bool _
  · cases rx; obtain ⟨t, rfl⟩ := ry; exact SeqAt.EqAt.none_int _ _
  · cases rx; obtain ⟨t, rfl⟩ := ry; exact SeqAt.EqAt.none_str _ _
  · cases rx; cases ry; exact SeqAt.EqAt.bool_none _
  · cases rx; cases ry; rw [beqd]; exact SeqAt.EqAt.bool_bool _ _
  · cases rx; obtain ⟨t, rfl⟩ := ry; exact SeqAt.EqAt.bool_str _ _ _
  · cases ry; obtain ⟨t, rfl⟩ := rx; exact SeqAt.EqAt.int_none _ _
  · obtain ⟨t, rfl⟩ := rx; obtain ⟨t', rfl⟩ := ry; rw [beqi]; exact SeqAt.EqAt.int_int _ _ _ _
  · obtain ⟨t, rfl⟩ := rx; obtain ⟨t', rfl⟩ := ry; exact SeqAt.EqAt.int_str _ _ _ _
  · cases ry; obtain ⟨t, rfl⟩ := rx; exact SeqAt.EqAt.str_none _ _
  · cases ry; obtain ⟨t, rfl⟩ := rx; exact SeqAt.EqAt.str_bool _ _ _
  · obtain ⟨t, rfl⟩ := rx; obtain ⟨t', rfl⟩ := ry; exact SeqAt.EqAt.str_int _ _ _ _
  · obtain ⟨t, rfl⟩ := rx; obtain ⟨t', rfl⟩ := ry; rw [beqs]; exact SeqAt.EqAt.str_str _ _ _ _
theorem sc_ne {A : Around} {x y : V} {v u : Value} (h : scB x y = true) (rx : RelV x v) (ry : RelV y u) : SeqAt.RcNeAt A s v u (!decide (x = y)) := by
  have beqd : ∀ (a b : Bool), decide (V.bl a = V.bl b) = (a == b) := fun a b => by cases a <;> cases b <;> rfl
  have beqi : ∀ (a b : Int), decide (V.int a = V.int b) = (a == b) := fun a b => by
    rw [Bool.beq_eq_decide_eq]
    simp
  have beqs : ∀ (a b : Str), decide (V.str a = V.str b) = (a == b) := fun a b => by
    rw [Bool.beq_eq_decide_eq]
    simp
  cases x <;> cases y <;> first | (exact absurd (show false = true from h) Bool.false_ne_true) | skip
  · cases rx; cases ry; exact SeqAt.RcNeAt.none_none
  · cases rx; cases ry; exact SeqAt.RcNeAt.none_bool _
  · cases rx; obtain ⟨t, rfl⟩ := ry; exact SeqAt.RcNeAt.none_int _ _
  · cases rx; obtain ⟨t, rfl⟩ := ry; exact SeqAt.RcNeAt.none_str _ _
  · cases rx; cases ry; exact SeqAt.RcNeAt.bool_none _
  · cases rx; cases ry; rw [beqd]; exact SeqAt.RcNeAt.bool_bool _ _
  · cases rx; obtain ⟨t, rfl⟩ := ry; exact SeqAt.RcNeAt.bool_str _ _ _
  · cases ry; obtain ⟨t, rfl⟩ := rx; exact SeqAt.RcNeAt.int_none _ _
  · obtain ⟨t, rfl⟩ := rx; obtain ⟨t', rfl⟩ := ry; rw [beqi]; exact SeqAt.RcNeAt.int_int _ _ _ _
  · obtain ⟨t, rfl⟩ := rx; obtain ⟨t', rfl⟩ := ry; exact SeqAt.RcNeAt.int_str _ _ _ _
  · cases ry; obtain ⟨t, rfl⟩ := rx; exact SeqAt.RcNeAt.str_none _ _
  · cases ry; obtain ⟨t, rfl⟩ := rx; exact SeqAt.RcNeAt.str_bool _ _ _
  · obtain ⟨t, rfl⟩ := rx; obtain ⟨t', rfl⟩ := ry; exact SeqAt.RcNeAt.str_int _ _ _ _
  · obtain ⟨t, rfl⟩ := rx; obtain ⟨t', rfl⟩ := ry; rw [beqs]; exact SeqAt.RcNeAt.str_str _ _ _ _
theorem range_all : ∀ e : List Bool, (List.range e.length).all (fun i => e.getD i false) = e.all id
  | [] => rfl
  | b :: e => by
    rw [List.length_cons, List.range_succ_eq_map, List.all_cons, List.all_map, List.all_cons, ← range_all e]
    rfl
theorem EqZ.len {E : V → V → Bool → Prop} {xs ys : List V} {e : List Bool} (h : EqZ E xs ys e) : e.length = min xs.length ys.length := by
  induction h with
  | nil => rfl
  | nilL => simp
  | nilR => simp
  | cons _ _ ih =>
    simp only [List.length_cons]
    omega
theorem EqZ.run {E : V → V → Bool → Prop} {A : Around} (ih : ∀ {x y : V} {b : Bool} {v u : Value}, E x y b → RelV x v → RelV y u → SeqAt.EqAt A s v u b) {xs ys : List V} {e : List Bool} (h : EqZ E xs ys e) : ∀ {us ws : List Value}, Vals xs us → Vals ys ws →
    ∀ j (h1 : j < us.length) (h2 : j < ws.length), SeqAt.EqAt A s us[j] ws[j] (e.getD j false) := by
  induction h with
  | nil => intro us ws r1 r2 j h1 h2; cases r1; exact absurd h1 (Nat.not_lt_zero j)
  | nilL => intro us ws r1 r2 j h1 h2; cases r1; exact absurd h1 (Nat.not_lt_zero j)
  | nilR => intro us ws r1 r2 j h1 h2; cases r2; exact absurd h2 (Nat.not_lt_zero j)
  | cons h _ k =>
    intro us ws r1 r2 j h1 h2
    cases r1 with
    | cons a1 b1 =>
      cases r2 with
      | cons a2 b2 =>
        cases j with
        | zero => exact ih h a1 a2
        | succ j => exact k b1 b2 j (Nat.lt_of_succ_lt_succ h1) (Nat.lt_of_succ_lt_succ h2)
theorem EqR.run (I : Inv X pins σ H s) {E : V → V → Bool → Prop} {A : Around} (hu : A.units < cLine) (ih : ∀ {x y : V} {b : Bool} {v u : Value}, E x y b → RelV x v → RelV y u → SeqAt.EqAt A.in1 s v u b)
    {x y : V} {b : Bool} {v u : Value} (h : EqR X.K H E x y b) (rx : RelV x v) (ry : RelV y u) : SeqAt.RcAt A s v u b := by
  cases h with
  | sc h => exact sc_rc h rx ry
  | bi a j => cases rx; obtain ⟨t, rfl⟩ := ry; exact SeqAt.RcAt.bool_int _ _ _
  | ib i b => cases ry; obtain ⟨t, rfl⟩ := rx; exact SeqAt.RcAt.int_bool _ _ _
  | ll h1 h2 hn =>
    cases rx; cases ry
    obtain ⟨i1, r1, p1, _⟩ := I.list h1
    obtain ⟨i2, r2, p2, _⟩ := I.list h2
    refine SeqAt.RcAt.lists_lengths p1.isList p2.isList ?_ hu
    have e1 := r1.length
    have e2 := r2.length
    simp only [List.size_toArray, bne_iff_ne]
    omega
  | @lst a b xs ys e h1 h2 hl hz =>
    cases rx; cases ry
    obtain ⟨i1, r1, p1, _⟩ := I.list h1
    obtain ⟨i2, r2, p2, _⟩ := I.list h2
    have e1 := r1.length
    have e2 := r2.length
    have el := hz.len
    have q := SeqAt.RcAt.lists (A := A) (e := fun i => e.getD i false) p1.isList p2.isList (by simp only [List.size_toArray]; omega) hu
      (fun j h1 h2 => hz.run ih r1 r2 j (by simpa using h1) (by simpa using h2))
    rw [show i1.toArray.size = e.length by simp only [List.size_toArray]; omega, range_all] at q
    exact q
  | @tup a b xs ys e h1 h2 hz =>
    cases rx; cases ry
    obtain ⟨i1, r1, p1, _⟩ := I.tuple h1
    obtain ⟨i2, r2, p2, _⟩ := I.tuple h2
    have e1 := r1.length
    have e2 := r2.length
    have el := hz.len
    have q := SeqAt.RcAt.tuples (A := A) (e := fun i => e.getD i false) p1 p2 hu
      (fun j h1 h2 => hz.run ih r1 r2 j (by simpa using h1) (by simpa using h2))
    rw [show min i1.toArray.size i2.toArray.size = e.length by simp only [List.size_toArray]; omega, range_all] at q
    have q2 : (i1.toArray.size == i2.toArray.size) = decide (xs.length = ys.length) := by
      rw [Bool.beq_eq_decide_eq]
      simp only [List.size_toArray]
      rw [e1, e2]
    rw [q2] at q
    exact q
  | lt h1 h2 =>
    cases rx; cases ry
    obtain ⟨i1, r1, p1, _⟩ := I.list h1
    obtain ⟨i2, r2, p2, _⟩ := I.tuple h2
    exact SeqAt.RcAt.list_tuple p1.isList p2 hu
  | tl h1 h2 =>
    cases rx; cases ry
    obtain ⟨i1, r1, p1, _⟩ := I.tuple h1
    obtain ⟨i2, r2, p2, _⟩ := I.list h2
    exact SeqAt.RcAt.tuple_list p1 p2.isList hu
  | ls h1 hs =>
    cases rx
    obtain ⟨i1, r1, p1, _⟩ := I.list h1
    cases y with
    | non => cases ry; exact SeqAt.RcAt.list_none p1.isList hu
    | bl b => cases ry; exact SeqAt.RcAt.list_bool _ p1.isList hu
    | int i => obtain ⟨t, rfl⟩ := ry; exact SeqAt.RcAt.list_int _ _ p1.isList hu
    | str z => obtain ⟨t, rfl⟩ := ry; exact SeqAt.RcAt.list_str _ _ p1.isList hu
    | _ => cases hs
  | sl h1 hs =>
    cases ry
    obtain ⟨i1, r1, p1, _⟩ := I.list h1
    cases x with
    | non => cases rx; exact SeqAt.RcAt.none_list p1.isList hu
    | bl b => cases rx; exact SeqAt.RcAt.bool_list _ p1.isList hu
    | int i => obtain ⟨t, rfl⟩ := rx; exact SeqAt.RcAt.int_list _ _ p1.isList hu
    | str z => obtain ⟨t, rfl⟩ := rx; exact SeqAt.RcAt.str_list _ _ p1.isList hu
    | _ => cases hs
  | ts h1 hs =>
    cases rx
    obtain ⟨i1, r1, p1, _⟩ := I.tuple h1
    cases y with
    | non => cases ry; exact SeqAt.RcAt.tuple_none p1 hu
    | bl b => cases ry; exact SeqAt.RcAt.tuple_bool _ p1 hu
    | int i => obtain ⟨t, rfl⟩ := ry; exact SeqAt.RcAt.tuple_int _ _ p1 hu
    | str z => obtain ⟨t, rfl⟩ := ry; exact SeqAt.RcAt.tuple_str _ _ p1 hu
    | _ => cases hs
  | st h1 hs =>
    cases ry
    obtain ⟨i1, r1, p1, _⟩ := I.tuple h1
    cases x with
    | non => cases rx; exact SeqAt.RcAt.none_tuple p1 hu
    | bl b => cases rx; exact SeqAt.RcAt.bool_tuple _ p1 hu
    | int i => obtain ⟨t, rfl⟩ := rx; exact SeqAt.RcAt.int_tuple _ _ p1 hu
    | str z => obtain ⟨t, rfl⟩ := rx; exact SeqAt.RcAt.str_tuple _ _ p1 hu
    | _ => cases hs
theorem EqR.runNe (I : Inv X pins σ H s) {E : V → V → Bool → Prop} {A : Around} (hu : A.units < cLine) (ih : ∀ {x y : V} {b : Bool} {v u : Value}, E x y b → RelV x v → RelV y u → SeqAt.EqAt A.in1 s v u b)
    {x y : V} {b : Bool} {v u : Value} (h : EqR X.K H E x y b) (rx : RelV x v) (ry : RelV y u) : SeqAt.RcNeAt A s v u (!b) := by
  cases h with
  | sc h => exact sc_ne h rx ry
  | bi a j => cases rx; obtain ⟨t, rfl⟩ := ry; exact SeqAt.RcNeAt.bool_int _ _ _
  | ib i b => cases ry; obtain ⟨t, rfl⟩ := rx; exact SeqAt.RcNeAt.int_bool _ _ _
  | ll h1 h2 hn =>
    cases rx; cases ry
    obtain ⟨i1, r1, p1, _⟩ := I.list h1
    obtain ⟨i2, r2, p2, _⟩ := I.list h2
    refine SeqAt.RcNeAt.lists_lengths p1.isList p2.isList ?_ hu
    have e1 := r1.length
    have e2 := r2.length
    simp only [List.size_toArray, bne_iff_ne]
    omega
  | @lst a b xs ys e h1 h2 hl hz =>
    cases rx; cases ry
    obtain ⟨i1, r1, p1, _⟩ := I.list h1
    obtain ⟨i2, r2, p2, _⟩ := I.list h2
    have e1 := r1.length
    have e2 := r2.length
    have el := hz.len
    have q := SeqAt.RcNeAt.lists (A := A) (e := fun i => e.getD i false) p1.isList p2.isList (by simp only [List.size_toArray]; omega) hu
      (fun j h1 h2 => hz.run ih r1 r2 j (by simpa using h1) (by simpa using h2))
    rw [show i1.toArray.size = e.length by simp only [List.size_toArray]; omega, range_all] at q
    exact q
  | @tup a b xs ys e h1 h2 hz =>
    cases rx; cases ry
    obtain ⟨i1, r1, p1, _⟩ := I.tuple h1
    obtain ⟨i2, r2, p2, _⟩ := I.tuple h2
    have e1 := r1.length
    have e2 := r2.length
    have el := hz.len
    have q := SeqAt.RcNeAt.tuples (A := A) (e := fun i => e.getD i false) p1 p2 hu
      (fun j h1 h2 => hz.run ih r1 r2 j (by simpa using h1) (by simpa using h2))
    rw [show min i1.toArray.size i2.toArray.size = e.length by simp only [List.size_toArray]; omega, range_all] at q
    have q2 : (i1.toArray.size == i2.toArray.size) = decide (xs.length = ys.length) := by
      rw [Bool.beq_eq_decide_eq]
      simp only [List.size_toArray]
      rw [e1, e2]
    rw [q2] at q
    exact q
  | lt h1 h2 =>
    cases rx; cases ry
    obtain ⟨i1, r1, p1, _⟩ := I.list h1
    obtain ⟨i2, r2, p2, _⟩ := I.tuple h2
    exact SeqAt.RcNeAt.list_tuple p1.isList p2 hu
  | tl h1 h2 =>
    cases rx; cases ry
    obtain ⟨i1, r1, p1, _⟩ := I.tuple h1
    obtain ⟨i2, r2, p2, _⟩ := I.list h2
    exact SeqAt.RcNeAt.tuple_list p1 p2.isList hu
  | ls h1 hs =>
    cases rx
    obtain ⟨i1, r1, p1, _⟩ := I.list h1
    cases y with
    | non => cases ry; exact SeqAt.RcNeAt.list_none p1.isList hu
    | bl b => cases ry; exact SeqAt.RcNeAt.list_bool _ p1.isList hu
    | int i => obtain ⟨t, rfl⟩ := ry; exact SeqAt.RcNeAt.list_int _ _ p1.isList hu
    | str z => obtain ⟨t, rfl⟩ := ry; exact SeqAt.RcNeAt.list_str _ _ p1.isList hu
    | _ => cases hs
  | sl h1 hs =>
    cases ry
    obtain ⟨i1, r1, p1, _⟩ := I.list h1
    cases x with
    | non => cases rx; exact SeqAt.RcNeAt.none_list p1.isList hu
    | bl b => cases rx; exact SeqAt.RcNeAt.bool_list _ p1.isList hu
    | int i => obtain ⟨t, rfl⟩ := rx; exact SeqAt.RcNeAt.int_list _ _ p1.isList hu
    | str z => obtain ⟨t, rfl⟩ := rx; exact SeqAt.RcNeAt.str_list _ _ p1.isList hu
    | _ => cases hs
  | ts h1 hs =>
    cases rx
    obtain ⟨i1, r1, p1, _⟩ := I.tuple h1
    cases y with
    | non => cases ry; exact SeqAt.RcNeAt.tuple_none p1 hu
    | bl b => cases ry; exact SeqAt.RcNeAt.tuple_bool _ p1 hu
    | int i => obtain ⟨t, rfl⟩ := ry; exact SeqAt.RcNeAt.tuple_int _ _ p1 hu
    | str z => obtain ⟨t, rfl⟩ := ry; exact SeqAt.RcNeAt.tuple_str _ _ p1 hu
    | _ => cases hs
  | st h1 hs =>
    cases ry
    obtain ⟨i1, r1, p1, _⟩ := I.tuple h1
    cases x with
    | non => cases rx; exact SeqAt.RcNeAt.none_tuple p1 hu
    | bl b => cases rx; exact SeqAt.RcNeAt.bool_tuple _ p1 hu
    | int i => obtain ⟨t, rfl⟩ := rx; exact SeqAt.RcNeAt.int_tuple _ _ p1 hu
    | str z => obtain ⟨t, rfl⟩ := rx; exact SeqAt.RcNeAt.str_tuple _ _ p1 hu
    | _ => cases hs
theorem EqI.run (I : Inv X pins σ H s) : ∀ {n : Nat} {A : Around}, A.units + n < cLine → ∀ {x y : V} {b : Bool} {v u : Value}, EqI X.K H n x y b → RelV x v → RelV y u → SeqAt.EqAt A s v u b
  | 0, _, _, _, _, _, _, _, h, _, _ => h.elim
  | n + 1, A, hu, x, y, b, v, u, h, rx, ry => by
    have hu1 : A.units < cLine := by omega
    rcases h with ⟨a, rfl, rfl, rfl⟩ | ⟨h, hn⟩
    · cases rx; cases ry; exact SeqAt.EqAt.same _
    · have ih : ∀ {x y : V} {b : Bool} {v u : Value}, EqI X.K H n x y b → RelV x v → RelV y u → SeqAt.EqAt A.in1 s v u b := EqI.run I (by show A.units + 1 + n < cLine; omega)
      by_cases hr : ∃ a b, x = V.ref a ∧ y = V.ref b
      · obtain ⟨a, b, rfl, rfl⟩ := hr
        have k := h.run I hu1 ih rx ry
        cases rx; cases ry
        exact SeqAt.EqAt.of_refs (fun e => hn a rfl (by rw [e])) k
      · have hu := hu1
        cases h with
        | sc h => exact sc_eq h rx ry
        | bi a j => cases rx; obtain ⟨t, rfl⟩ := ry; exact SeqAt.EqAt.bool_int _ _ _
        | ib i b => cases ry; obtain ⟨t, rfl⟩ := rx; exact SeqAt.EqAt.int_bool _ _ _
        | ll _ _ _ => exact absurd ⟨_, _, rfl, rfl⟩ hr
        | lst _ _ _ _ => exact absurd ⟨_, _, rfl, rfl⟩ hr
        | tup _ _ _ => exact absurd ⟨_, _, rfl, rfl⟩ hr
        | lt _ _ => exact absurd ⟨_, _, rfl, rfl⟩ hr
        | tl _ _ => exact absurd ⟨_, _, rfl, rfl⟩ hr
        | ls h1 hs =>
          cases rx
          obtain ⟨i1, r1, p1, _⟩ := I.list h1
          cases y with
          | non => cases ry; exact SeqAt.EqAt.list_none p1.isList hu
          | bl b => cases ry; exact SeqAt.EqAt.list_bool _ p1.isList hu
          | int i => obtain ⟨t, rfl⟩ := ry; exact SeqAt.EqAt.list_int _ _ p1.isList hu
          | str z => obtain ⟨t, rfl⟩ := ry; exact SeqAt.EqAt.list_str _ _ p1.isList hu
          | _ => cases hs
        | sl h1 hs =>
          cases ry
          obtain ⟨i1, r1, p1, _⟩ := I.list h1
          cases x with
          | non => cases rx; exact SeqAt.EqAt.none_list p1.isList hu
          | bl b => cases rx; exact SeqAt.EqAt.bool_list _ p1.isList hu
          | int i => obtain ⟨t, rfl⟩ := rx; exact SeqAt.EqAt.int_list _ _ p1.isList hu
          | str z => obtain ⟨t, rfl⟩ := rx; exact SeqAt.EqAt.str_list _ _ p1.isList hu
          | _ => cases hs
        | ts h1 hs =>
          cases rx
          obtain ⟨i1, r1, p1, _⟩ := I.tuple h1
          cases y with
          | non => cases ry; exact SeqAt.EqAt.tuple_none p1 hu
          | bl b => cases ry; exact SeqAt.EqAt.tuple_bool _ p1 hu
          | int i => obtain ⟨t, rfl⟩ := ry; exact SeqAt.EqAt.tuple_int _ _ p1 hu
          | str z => obtain ⟨t, rfl⟩ := ry; exact SeqAt.EqAt.tuple_str _ _ p1 hu
          | _ => cases hs
        | st h1 hs =>
          cases ry
          obtain ⟨i1, r1, p1, _⟩ := I.tuple h1
          cases x with
          | non => cases rx; exact SeqAt.EqAt.none_tuple p1 hu
          | bl b => cases rx; exact SeqAt.EqAt.bool_tuple _ p1 hu
          | int i => obtain ⟨t, rfl⟩ := rx; exact SeqAt.EqAt.int_tuple _ _ p1 hu
          | str z => obtain ⟨t, rfl⟩ := rx; exact SeqAt.EqAt.str_tuple _ _ p1 hu
          | _ => cases hs

/-- x == y, x != y -/
def rEqG (K : PySem.W.Frag) : R2 := fun x y H Q => ∃ b, EqR K H (EqI K H 60) x y b ∧ Q (.bl b) H
def rNeG (K : PySem.W.Frag) : R2 := fun x y H Q => ∃ b, EqR K H (EqI K H 60) x y b ∧ Q (.bl (!b)) H
theorem op_eqG (hu : X.A.units + 64 < cLine) : OpR X (compareOp .Eq) (rEqG X.K) := by
  intro pins s σ H x y v u Q I rx ry h
  obtain ⟨b, e, q⟩ := h
  exact e.run I (A := X.A) (by omega) (EqI.run I (by show X.A.units + 1 + 60 < cLine; omega)) rx ry X.prog X.w _ _ ⟨.bl b, H, I, rfl, q⟩
theorem op_neG (hu : X.A.units + 64 < cLine) : OpR X (compareOp .NotEq) (rNeG X.K) := by
  intro pins s σ H x y v u Q I rx ry h
  obtain ⟨b, e, q⟩ := h
  exact e.runNe I (A := X.A) (by omega) (EqI.run I (by show X.A.units + 1 + 60 < cLine; omega)) rx ry X.prog X.w _ _ ⟨.bl (!b), H, I, rfl, q⟩
end
end Z

/-! L3: wide rules (one rule a construct, whatever the kinds of its operands), and steps for their readings -/
namespace Z
open PySem PySem.Spec PyProof.Rows L2 Evl

/-! ### wide relations -/
def rAddA : R2 := fun x y H Q => (∃ i j, x = .int i ∧ y = .int j ∧ Q (.int (i + j)) H) ∨ (∃ i j, x = .str i ∧ y = .str j ∧ i.length + j.length ≤ sizeLine ∧ Q (.str (i ++ j)) H) ∨ rCat x y H Q
def rSubA : R2 := fun x y H Q => ∃ i j, x = .int i ∧ y = .int j ∧ Q (.int (i - j)) H
def rMulS : R2 := fun x y H Q => ∃ z n, x = .str z ∧ y = .int n ∧ MulOk z n ∧ Q (.str (Txt.mul z n)) H
def rMulA : R2 := fun x y H Q => (∃ i j, x = .int i ∧ y = .int j ∧ CMulW i j ∧ Q (.int (i * j)) H) ∨ rMulS x y H Q ∨ rRep x y H Q
def rDivA : R2 := fun x y H Q => ∃ i j, x = .int i ∧ y = .int j ∧ CDivW i j ∧ Q (.int (i / j)) H
def rModA : R2 := fun x y H Q => ∃ i j, x = .int i ∧ y = .int j ∧ 0 < j ∧ Q (.int (i % j)) H
def rPowA : R2 := fun x y H Q => ∃ i j, x = .int i ∧ y = .int j ∧ CPow i j ∧ Q (.int (i ^ j.toNat)) H
def rEqA (K : PySem.W.Frag) : R2 := fun x y H Q => rEq x y H Q ∨ rEqG K x y H Q ∨ rEqD K x y H Q
def rNeA (K : PySem.W.Frag) : R2 := fun x y H Q => rNe x y H Q ∨ rNeG K x y H Q ∨ rNeD K x y H Q
def rLtA : R2 := fun x y H Q => (∃ i j, x = .int i ∧ y = .int j ∧ Q (.bl (decide (i < j))) H) ∨ (∃ i j, x = .str i ∧ y = .str j ∧ Q (.bl (decide (i.cps.toList < j.cps.toList))) H)
def rLeA : R2 := fun x y H Q => (∃ i j, x = .int i ∧ y = .int j ∧ Q (.bl (decide (i ≤ j))) H) ∨ (∃ i j, x = .str i ∧ y = .str j ∧ Q (.bl (!decide (j.cps.toList < i.cps.toList))) H)
def rGtA : R2 := fun x y H Q => (∃ i j, x = .int i ∧ y = .int j ∧ Q (.bl (decide (j < i))) H) ∨ (∃ i j, x = .str i ∧ y = .str j ∧ Q (.bl (decide (j.cps.toList < i.cps.toList))) H)
def rGeA : R2 := fun x y H Q => (∃ i j, x = .int i ∧ y = .int j ∧ Q (.bl (decide (j ≤ i))) H) ∨ (∃ i j, x = .str i ∧ y = .str j ∧ Q (.bl (!decide (i.cps.toList < j.cps.toList))) H)
def rIsA : R2 := fun x y H Q => (y = .non ∧ Q (.bl (decide (x = .non))) H) ∨ rIsB x y H Q ∨ (∃ a b oa ob, x = .ref a ∧ y = .ref b ∧ H a = some oa ∧ isObj oa = true ∧ H b = some ob ∧ isObj ob = true ∧ Q (.bl (decide (a = b))) H)
def rNotA : R2 := fun x y H Q => (y = .non ∧ Q (.bl (!decide (x = .non))) H) ∨ rNotB x y H Q ∨ (∃ a b oa ob, x = .ref a ∧ y = .ref b ∧ H a = some oa ∧ isObj oa = true ∧ H b = some ob ∧ isObj ob = true ∧ Q (.bl (!decide (a = b))) H)
def rInA (K : PySem.W.Frag) : R2 := fun x y H Q => (∃ (c : Nat) (z : Str), x = .str ⟨#[c]⟩ ∧ y = .str z ∧ Q (.bl (decide (c ∈ z.cps.toList))) H) ∨ rIn K false x y H Q ∨ (∃ i j, x = .str i ∧ y = .str j ∧ Q (.bl (!(Builtin.Str.occurrences j i 0 j.length 1).isEmpty)) H)
def rNinA (K : PySem.W.Frag) : R2 := fun x y H Q => (∃ (c : Nat) (z : Str), x = .str ⟨#[c]⟩ ∧ y = .str z ∧ Q (.bl (!decide (c ∈ z.cps.toList))) H) ∨ rIn K true x y H Q ∨ (∃ i j, x = .str i ∧ y = .str j ∧ Q (.bl (!(!(Builtin.Str.occurrences j i 0 j.length 1).isEmpty))) H)
def rSlA (K : PySem.W.Frag) : V → Option Int → Option Int → Hp → VK → Prop := fun x lo hi H Q => rSlS x lo hi H Q ∨ rSlL K x lo hi H Q
def rLenA (K : PySem.W.Frag) : List V → Hp → VK → Prop := fun xs H Q => (∃ x n, xs = [x] ∧ LenV K x H n ∧ Q (.int n) H) ∨ (∃ a kvs, xs = [V.ref a] ∧ H a = some (.dK kvs) ∧ Q (.int kvs.length) H)
def rMaxA (K : PySem.W.Frag) : List V → Hp → VK → Prop := fun xs H Q => (∃ i j, xs = [.int i, .int j] ∧ Q (.int (if j > i then j else i)) H) ∨ rMax K xs H Q
def rMinA (K : PySem.W.Frag) : List V → Hp → VK → Prop := fun xs H Q => (∃ i j, xs = [.int i, .int j] ∧ Q (.int (if j < i then j else i)) H) ∨ rMin K xs H Q
def rJoinA (K : PySem.W.Frag) : V → List V → Hp → VK → Prop := fun x xs H Q => ∃ a p, ∃ ys : List Str, x = .str a ∧ xs = [.ref p] ∧ (SqL K H p (ys.map V.str) ∨ SqT K H p (ys.map V.str)) ∧ (ys.map (·.length)).sum + ys.length * a.length ≤ 16777216 ∧ Q (.str (Txt.join a ys)) H
def rUpper : V → List V → Hp → VK → Prop := fun x xs H Q => ∃ a, x = .str a ∧ xs = [] ∧ a.length ≤ 5592405 ∧ Q (.str (Txt.upper a)) H
def iAny (K : PySem.W.Frag) (te : TE) : TI := fun σ H R => iList K te σ H R ∨ iTup K te σ H R ∨ iStr te σ H R

section
variable {X : Cx}
theorem op_addA : OpR X (binaryOp .Add) rAddA := op_add.or (op_add_str.or op_cat)
theorem op_subA : OpR X (binaryOp .Sub) rSubA := op_sub
theorem op_mulS : OpR X (binaryOp .Mult) rMulS := by
  intro pins s σ H x y v u Q I rx ry h
  obtain ⟨i, j, rfl, rfl, hz, q⟩ := h
  obtain ⟨t, rfl⟩ := rx
  obtain ⟨t', rfl⟩ := ry
  exact SB.mul hz fun t' k => ⟨.str _, H, I.tok _, ⟨_, rfl⟩, q⟩
theorem op_mulA : OpR X (binaryOp .Mult) rMulA := op_mulW.or (op_mulS.or op_rep)
theorem op_divA : OpR X (binaryOp .FloorDiv) rDivA := op_fdivW
theorem op_modA : OpR X (binaryOp .Mod) rModA := op_mod
theorem op_powA : OpR X (binaryOp .Pow) rPowA := op_pow
theorem op_eqA (hu : X.A.units + 64 < cLine) : OpR X (compareOp .Eq) (rEqA X.K) := op_eq.or ((op_eqG hu).or (op_eqD hu))
theorem op_neA (hu : X.A.units + 64 < cLine) : OpR X (compareOp .NotEq) (rNeA X.K) := op_ne.or ((op_neG hu).or (op_neD hu))
theorem op_ltA : OpR X (compareOp .Lt) rLtA := op_lt.or op_lt_str
theorem op_leA : OpR X (compareOp .LtE) rLeA := op_le.or op_le_str
theorem op_gtA : OpR X (compareOp .Gt) rGtA := op_gt.or op_gt_str
theorem op_geA : OpR X (compareOp .GtE) rGeA := op_ge.or op_ge_str
theorem op_isA : OpR X (compareOp .Is) rIsA := op_isN.or (op_isBl.or op_is_ref)
theorem op_notA : OpR X (compareOp .IsNot) rNotA := op_notN.or (op_notBl.or op_isnot_ref)
theorem op_inA : OpR X (compareOp .In) (rInA X.K) := op_in_sign.or (op_in_seq.or op_in_str)
theorem op_ninA : OpR X (compareOp .NotIn) (rNinA X.K) := op_notIn_sign.or (op_notIn_seq.or op_notIn_str)
theorem sl_A : SlR X (rSlA X.K) := sl_str.or sl_list
theorem call_lenA : CallR X (.builtin "len") (rLenA X.K) := call_len.or call_lenD
theorem call_maxA (hc : X.calm = true) : CallR X (.builtin "max") (rMaxA X.K) := (call_max2 hc).or (cr_max hc)
theorem call_minA (hc : X.calm = true) : CallR X (.builtin "min") (rMinA X.K) := (call_min2 hc).or (cr_min hc)
theorem PI.or {tg iter : Expr} {w1 w2 : TI} (h1 : PI X tg iter w1) (h2 : PI X tg iter w2) : PI X tg iter (fun σ H R => w1 σ H R ∨ w2 σ H R) :=
  ⟨fun pins s σ H R I h => h.elim (h1.run pins s σ H R I) (h2.run pins s σ H R I)⟩
theorem pi_any {tg e : Expr} {te : TE} (he : PE X e te) : PI X tg e (iAny X.K te) := PI.or (pi_list he) (PI.or (pi_tup he) (pi_str he))
theorem pe_gint {x : Str} {i : Int} {pos : Pos} (hg : Gl X x) (hm : ∃ t, X.mg x = some (.int i t)) (hd : (x == ("__debug__" : Str)) = false := by decide) : PE X (.Name x pos) (tC (.int i)) :=
  let ⟨t, h⟩ := hm
  pe_glob hg h ⟨t, rfl⟩ hd
theorem pe_gstr {x : Str} {i : Str} {pos : Pos} (hg : Gl X x) (hm : ∃ t, X.mg x = some (.str i t)) (hd : (x == ("__debug__" : Str)) = false := by decide) : PE X (.Name x pos) (tC (.str i)) :=
  let ⟨t, h⟩ := hm
  pe_glob hg h ⟨t, rfl⟩ hd
end

/-! ### a def behind the top, its promise -/
structure Fok (P : Program) (w : World) (K : PySem.W.Frag) (mg : Str → Option Value) (base : Heap) (CX : CXT) (k : Nat) (x : Str) (ps : List Str) (sp : Sp) : Prop where
  ex : ∃ fd, FnOk P w K mg base CX k (He.ga K x) fd ps sp ∧ Binds K fd ps []
  hm : mg x = some (.ref (He.ga K x))
  kp : PySem.W.keepIn K (.ref (He.ga K x)) = true
theorem pe_callF {X : Cx} {CX : CXT} {k : Nat} {x : Str} {ps : List Str} {sp : Sp} {E : XK} {e : Expr} {es : List Expr} {t : TA} {p pos : Pos} (F : Fok X.prog X.w X.K X.mg X.base CX k x ps sp) (hr : Room k X.A) (hg : Gl X x) (hx : Passes CX X E)
    (ha : PA X (e :: es) t) (hdb : (x == ("__debug__" : Str)) = false := by decide) (he : starEach (e :: es) X.env = (false, eval e X.env) :: starEach es X.env := by rfl) (hpl : (backTo pos (starEach es X.env)).any (·.1) = false := by rfl) :
    PE X (.Call (.Name x p) (e :: es) [] pos) (tCall sp [] E t) :=
  let ⟨_, h1, h2⟩ := F.ex
  pe_call h1 hr hg F.hm F.kp h2 .nil hx ha hdb he hpl

/-! ### heaps -/
/-- all but the object at p is as it was -/
def But (p : Addr) (H H' : Hp) : Prop := ∀ a o, H a = some o → a ≠ p → H' a = some o
theorem Ex.but {p : Addr} {H H' : Hp} (e : Ex H H') : But p H H' := fun a o h _ => e a o h
theorem But.refl {p : Addr} {H : Hp} : But p H H := fun _ _ h _ => h
theorem But.trans {p : Addr} {H H1 H2 : Hp} (a : But p H H1) (b : But p H1 H2) : But p H H2 := fun x o h n => b x o (a x o h n) n
theorem But.ex {p : Addr} {H H1 H2 : Hp} (a : But p H H1) (b : Ex H1 H2) : But p H H2 := fun x o h n => b x o (a x o h n)
theorem But.new {p q : Addr} {H H1 : Hp} {o : HO} (a : But p H H1) (h : H1 q = none) : But p H (upd H1 q o) := a.ex (Ex.new h)
theorem But.set {p : Addr} {H H1 : Hp} {o : HO} (a : But p H H1) : But p H (upd H1 p o) := fun x o h n => by
  rw [upd_ne n]
  exact a x o h n
theorem look_new {H : Hp} {a b : Addr} {o u : HO} (h : H a = some o) (hn : H b = none) : upd H b u a = some o := Ex.new hn _ _ h
theorem look_mut {H : Hp} {a b : Addr} {o u : HO} (h : H a = some o) (hn : a ≠ b) : upd H b u a = some o := by
  rw [upd_ne hn]
  exact h
theorem look_ex {H H' : Hp} {a : Addr} {o : HO} (s : Ex H H') (h : H a = some o) : H' a = some o := s _ _ h
theorem look_but {H H' : Hp} {a p : Addr} {o : HO} (s : But p H H') (h : H a = some o) (n : a ≠ p) : H' a = some o := s _ _ h n
theorem ne_back {H : Hp} {a b : Addr} {o : HO} (h : H a = some o) (h' : H b = none) : b ≠ a := fun e => ne_of_none h h' e.symm

theorem len_ok {n : Nat} (h : n ≤ 16777216) : n ≤ sizeLine := by
  rw [sizeLine_eq]
  exact h
/-! ### steps -/
section
variable {K : PySem.W.Frag} {σ : L2.St} {H : Hp} {Q : VK} {ta tb : TE} {x y v : V}
theorem s_var {i : Nat} (h : σ[i]? = some (some v)) (q : Q v H) : tVar i σ H Q := ⟨v, h, q⟩
theorem s_c (q : Q v H) : tC v σ H Q := q
theorem s_op {r : R2} (h : ta σ H fun x H1 => tb σ H1 fun y H2 => r x y H2 Q) : tOp r ta tb σ H Q := h
theorem s_un {r : V → Hp → VK → Prop} (h : ta σ H fun x H1 => r x H1 Q) : tUn r ta σ H Q := h
theorem s_rU {g : Int → V} {i : Int} (q : Q (g i) H) : rU g (.int i) H Q := ⟨i, rfl, q⟩
theorem s_cb {r : List V → Hp → VK → Prop} {t : TA} (h : t σ H fun vs H1 => r vs H1 Q) : tCB r t σ H Q := h
theorem s_call {sp : Sp} {E : XK} {t : TA} (h : t σ H fun vs H1 => sp vs H1 Q E) : tCall sp [] E t σ H Q := by
  show t σ H fun vs H1 => sp (vs ++ []) H1 Q E
  simp only [List.append_nil]
  exact h
theorem s_if {t : TT} (h : t σ H fun c H1 => if c = true then ta σ H1 Q else tb σ H1 Q) : tIf t ta tb σ H Q := h
theorem s_andV (h : ta σ H fun x H1 => ∃ c, x = .bl c ∧ if c = true then tb σ H1 Q else Q (.bl false) H1) : tAndV ta tb σ H Q := h
theorem s_orV (h : ta σ H fun x H1 => ∃ c, x = .bl c ∧ if c = true then Q (.bl true) H1 else tb σ H1 Q) : tOrV ta tb σ H Q := h
theorem s_notV (h : ta σ H fun x H1 => ∃ c, x = .bl c ∧ Q (.bl (!c)) H1) : tNotV ta σ H Q := h
theorem s_bl {c : Bool} {R : Bool → Prop} (h : R c) : ∃ d, V.bl c = .bl d ∧ R d := ⟨c, rfl, h⟩
theorem s_chain {r r' : R2} {tc : TE} (h : ta σ H fun x H1 => tb σ H1 fun y H2 => r x y H2 fun z H3 => ∃ k, z = .bl k ∧ (if k = true then tc σ H3 fun w' H4 => r' y w' H4 Q else Q (.bl false) H3)) : tChain r r' ta tb tc σ H Q := h
theorem s_lst {t : TA} (h : t σ H fun xs H1 => xs.length ≤ sizeLine ∧ ∀ p, H1 p = none → Q (.ref p) (upd H1 p (.lst xs))) : tLst t σ H Q := h
theorem s_tup {t : TA} (h : t σ H fun xs H1 => xs.length ≤ sizeLine ∧ ∀ p, H1 p = none → Q (.ref p) (upd H1 p (.tup xs))) : tTup t σ H Q := h
theorem s_sl {r : V → Option Int → Option Int → Hp → VK → Prop} {tl th : TO} (h : ta σ H fun x H1 => tl σ H1 fun l H2 => th σ H2 fun u H3 => r x l u H3 Q) : tSl r ta tl th σ H Q := h
theorem s_m0 {r : V → List V → Hp → VK → Prop} {z : Str} (h : r (.str z) [] H Q) : (fun (x : V) H1 => (∃ a, x = .str a) ∧ r x [] H1 Q) (.str z) H := ⟨⟨z, rfl⟩, h⟩
section
variable {R : Bool → Hp → Prop} {t u : TT}
theorem s_test (h : ta σ H fun x H' => ∃ k, x = .bl k ∧ R k H') : tTest ta σ H R := h
theorem s_B (h : ta σ H fun x H' => ∃ k, x = .bl k ∧ R k H') : tB ta σ H R := h
theorem s_and (h : t σ H fun c H1 => if c = true then u σ H1 R else R false H1) : tAnd t u σ H R := h
theorem s_or (h : t σ H fun c H1 => if c = true then R true H1 else u σ H1 R) : tOr t u σ H R := h
theorem s_not (h : t σ H fun c H1 => R (!c) H1) : tNot t σ H R := h
theorem s_yes (h : R true H) : tYes σ H R := h
end
section
variable {R : List V → Hp → Prop} {t : TA}
theorem s_nil (h : R [] H) : tNil σ H R := h
theorem s_cons (h : ta σ H fun x H1 => t σ H1 fun xs H2 => R (x :: xs) H2) : tCons ta t σ H R := h
end
section
variable {R : Option Int → Hp → Prop}
theorem s_nopart (h : R none H) : tNoPart σ H R := h
theorem s_part (h : ta σ H fun x H1 => ∃ i, x = .int i ∧ R (some i) H1) : tPart ta σ H R := h
theorem s_int {i : Int} {R : Int → Prop} (h : R i) : ∃ j, V.int i = .int j ∧ R j := ⟨i, rfl, h⟩
end
theorem s_itet {b : Bool} {A B : Prop} (e : b = true) (h : A) : if b = true then A else B := by
  rw [if_pos e]
  exact h
theorem s_itef {b : Bool} {A B : Prop} (e : b = false) (h : B) : if b = true then A else B := by
  rw [e]
  exact iteF h
/-- what a part gives, whatever follows -/
theorem via {te : TE} (R : V → Hp → Prop) (h : ∀ F : VK, (∀ v H', R v H' → F v H') → te σ H F) (q : ∀ v H', R v H' → Q v H') : te σ H Q := h Q q
theorem ite_via {c : Prop} [Decidable c] {t1 t2 : TE} (R : V → Hp → Prop) (h1 : c → ∀ F : VK, (∀ v H', R v H' → F v H') → t1 σ H F) (h2 : ¬ c → ∀ F : VK, (∀ v H', R v H' → F v H') → t2 σ H F) (q : ∀ v H', R v H' → Q v H') :
    if c then t1 σ H Q else t2 σ H Q := ite2 (fun h => h1 h Q q) (fun h => h2 h Q q)
/-! operators by kinds -/
theorem s_addI {i j : Int} (q : Q (.int (i + j)) H) : rAddA (.int i) (.int j) H Q := .inl ⟨i, j, rfl, rfl, q⟩
theorem s_addS {i j : Str} (h : i.length + j.length ≤ sizeLine) (q : Q (.str (i ++ j)) H) : rAddA (.str i) (.str j) H Q := .inr (.inl ⟨i, j, rfl, rfl, h, q⟩)
theorem s_addL {a b : Addr} {xs ys : List V} (ha : H a = some (.lst xs)) (hb : H b = some (.lst ys)) (h : xs.length + ys.length ≤ sizeLine) (q : ∀ p, H p = none → Q (.ref p) (upd H p (.lst (xs ++ ys)))) : rAddA (.ref a) (.ref b) H Q :=
  .inr (.inr ⟨a, b, xs, ys, rfl, rfl, ha, hb, h, q⟩)
theorem s_subI {i j : Int} (q : Q (.int (i - j)) H) : rSubA (.int i) (.int j) H Q := ⟨i, j, rfl, rfl, q⟩
theorem s_mulI {i j : Int} (h : CMulW i j) (q : Q (.int (i * j)) H) : rMulA (.int i) (.int j) H Q := .inl ⟨i, j, rfl, rfl, h, q⟩
theorem s_mulS {z : Str} {n : Int} (h : MulOk z n) (q : Q (.str (Txt.mul z n)) H) : rMulA (.str z) (.int n) H Q := .inr (.inl ⟨z, n, rfl, rfl, h, q⟩)
theorem s_divI {i j : Int} (h : CDivW i j) (q : Q (.int (i / j)) H) : rDivA (.int i) (.int j) H Q := ⟨i, j, rfl, rfl, h, q⟩
theorem s_modI {i j : Int} (h : 0 < j) (q : Q (.int (i % j)) H) : rModA (.int i) (.int j) H Q := ⟨i, j, rfl, rfl, h, q⟩
theorem s_powI {i j : Int} (h : CPow i j) (q : Q (.int (i ^ j.toNat)) H) : rPowA (.int i) (.int j) H Q := ⟨i, j, rfl, rfl, h, q⟩
theorem s_eqS (h : scal x y = true) (q : Q (.bl (decide (x = y))) H) : rEqA K x y H Q := .inl ⟨h, q⟩
theorem s_neS (h : scal x y = true) (q : Q (.bl (!decide (x = y))) H) : rNeA K x y H Q := .inl ⟨h, q⟩
theorem s_eqD {d e : PyData} (hd : Dp K H x d) (he : Dp K H y e) (sd : SeqAt.shaped d = true) (se : SeqAt.shaped e = true) (q : Q (.bl (PyData.eqv d e)) H) : rEqA K x y H Q := .inr (.inr ⟨d, e, hd, he, sd, se, q⟩)
theorem s_neD {d e : PyData} (hd : Dp K H x d) (he : Dp K H y e) (sd : SeqAt.shaped d = true) (se : SeqAt.shaped e = true) (q : Q (.bl (!PyData.eqv d e)) H) : rNeA K x y H Q := .inr (.inr ⟨d, e, hd, he, sd, se, q⟩)
theorem s_eqG {b : Bool} (h : EqR K H (EqI K H 60) x y b) (q : Q (.bl b) H) : rEqA K x y H Q := .inr (.inl ⟨b, h, q⟩)
theorem s_neG {b : Bool} (h : EqR K H (EqI K H 60) x y b) (q : Q (.bl (!b)) H) : rNeA K x y H Q := .inr (.inl ⟨b, h, q⟩)
/-- a list against the empty one -/
theorem eq_nil {K : PySem.W.Frag} {H : Hp} {a b : Addr} {xs : List V} {E : V → V → Bool → Prop} (ha : H a = some (.lst xs)) (hb : H b = some (.lst [])) : EqR K H E (.ref a) (.ref b) xs.isEmpty := by
  cases xs with
  | nil => exact .lst (e := []) (SqL.of ha) (SqL.of hb) rfl .nil
  | cons x xs => exact .ll (SqL.of ha) (SqL.of hb) (by simp)
theorem s_eqNil {a b : Addr} {xs : List V} (ha : H a = some (.lst xs)) (hb : H b = some (.lst [])) (q : Q (.bl xs.isEmpty) H) : rEqA K (.ref a) (.ref b) H Q := s_eqG (eq_nil ha hb) q
theorem s_neNil {a b : Addr} {xs : List V} (ha : H a = some (.lst xs)) (hb : H b = some (.lst [])) (q : Q (.bl (!xs.isEmpty)) H) : rNeA K (.ref a) (.ref b) H Q := s_neG (eq_nil ha hb) q
theorem s_ltI {i j : Int} (q : Q (.bl (decide (i < j))) H) : rLtA (.int i) (.int j) H Q := .inl ⟨i, j, rfl, rfl, q⟩
theorem s_leI {i j : Int} (q : Q (.bl (decide (i ≤ j))) H) : rLeA (.int i) (.int j) H Q := .inl ⟨i, j, rfl, rfl, q⟩
theorem s_gtI {i j : Int} (q : Q (.bl (decide (j < i))) H) : rGtA (.int i) (.int j) H Q := .inl ⟨i, j, rfl, rfl, q⟩
theorem s_geI {i j : Int} (q : Q (.bl (decide (j ≤ i))) H) : rGeA (.int i) (.int j) H Q := .inl ⟨i, j, rfl, rfl, q⟩
theorem s_isN (q : Q (.bl (decide (x = .non))) H) : rIsA x .non H Q := .inl ⟨rfl, q⟩
theorem s_notN (q : Q (.bl (!decide (x = .non))) H) : rNotA x .non H Q := .inl ⟨rfl, q⟩
theorem s_isB {a b : Bool} (q : Q (.bl (decide (a = b))) H) : rIsA (.bl a) (.bl b) H Q := .inr (.inl ⟨a, b, rfl, rfl, q⟩)
theorem s_notB {a b : Bool} (q : Q (.bl (!decide (a = b))) H) : rNotA (.bl a) (.bl b) H Q := .inr (.inl ⟨a, b, rfl, rfl, q⟩)
theorem s_in1 {c : Nat} {z : Str} (q : Q (.bl (decide (c ∈ z.cps.toList))) H) : rInA K (.str ⟨#[c]⟩) (.str z) H Q := .inl ⟨c, z, rfl, rfl, q⟩
theorem s_nin1 {c : Nat} {z : Str} (q : Q (.bl (!decide (c ∈ z.cps.toList))) H) : rNinA K (.str ⟨#[c]⟩) (.str z) H Q := .inl ⟨c, z, rfl, rfl, q⟩
theorem s_ixL {p : Addr} {xs : List V} {i : Int} (h : H p = some (.lst xs)) (ha : atI xs i = some v) (q : Q v H) : rIx K (.ref p) (.int i) H Q := .inl ⟨p, xs, i, v, rfl, rfl, SqL.of h, ha, q⟩
theorem s_ixLK {p : Addr} {xs : List V} {i : Int} (h : SqL K H p xs) (ha : atI xs i = some v) (q : Q v H) : rIx K (.ref p) (.int i) H Q := .inl ⟨p, xs, i, v, rfl, rfl, h, ha, q⟩
theorem s_ixT {p : Addr} {xs : List V} {i : Int} (h : H p = some (.tup xs)) (ha : atI xs i = some v) (q : Q v H) : rIx K (.ref p) (.int i) H Q := .inr (.inl ⟨p, xs, i, v, rfl, rfl, SqT.of h, ha, q⟩)
theorem s_ixS {z : Str} {i : Int} {c : Nat} (h : z.length ≤ sizeLine) (ha : atI z.cps.toList i = some c) (q : Q (.str ⟨#[c]⟩) H) : rIx K (.str z) (.int i) H Q := .inr (.inr ⟨z, i, c, rfl, rfl, h, ha, q⟩)
theorem s_slS {z : Str} {lo hi : Option Int} (h : z.length ≤ sizeLine) (q : Q (.str (cutS z lo hi)) H) : rSlA K (.str z) lo hi H Q := .inl ⟨z, rfl, h, q⟩
theorem s_lenS {z : Str} (h : z.length ≤ sizeLine) (q : Q (.int z.length) H) : rLenA K [.str z] H Q := .inl ⟨_, _, rfl, ⟨h, rfl⟩, q⟩
theorem s_lenL {p : Addr} {xs : List V} (h : H p = some (.lst xs)) (q : Q (.int xs.length) H) : rLenA K [.ref p] H Q := .inl ⟨_, _, rfl, .inl ⟨xs, SqL.of h, rfl⟩, q⟩
theorem s_lenLK {p : Addr} {xs : List V} (h : SqL K H p xs) (q : Q (.int xs.length) H) : rLenA K [.ref p] H Q := .inl ⟨_, _, rfl, .inl ⟨xs, h, rfl⟩, q⟩
theorem s_lenT {p : Addr} {xs : List V} (h : H p = some (.tup xs)) (q : Q (.int xs.length) H) : rLenA K [.ref p] H Q := .inl ⟨_, _, rfl, .inr ⟨xs, SqT.of h, rfl⟩, q⟩
theorem s_max2 {i j : Int} (q : Q (.int (if j > i then j else i)) H) : rMaxA K [.int i, .int j] H Q := .inl ⟨i, j, rfl, q⟩
theorem s_min2 {i j : Int} (q : Q (.int (if j < i then j else i)) H) : rMinA K [.int i, .int j] H Q := .inl ⟨i, j, rfl, q⟩
/-! statements -/
section
variable {D : Ends} {t u : TS} {c : TT} {g : TG}
theorem s_seq (h : t { D with nx := u D } σ H) : tSeq t u D σ H := h
theorem s_cut (Mid : L2.St → Hp → Prop) (h : t { D with nx := Mid } σ H) (k : ∀ σ' H', Mid σ' H' → u D σ' H') : tCut t u D σ H := ⟨Mid, h, k⟩
theorem s_ifS (h : c σ H fun b H1 => if b = true then t D σ H1 else u D σ H1) : tIfS c t u D σ H := h
theorem s_ret (h : ta σ H D.rt) : tRet ta D σ H := h
theorem s_retN (h : D.rt .non H) : tRetN D σ H := h
theorem s_next (h : D.nx σ H) : tNext D σ H := h
theorem s_drop (h : ta σ H fun _ H1 => D.nx σ H1) : tDrop ta D σ H := h
theorem s_asg (h : ta σ H fun x H1 => g x σ H1 D.nx) : tAsg ta g D σ H := h
theorem s_gTup {n : Nat} {gs : TGs} {a : Addr} {xs : List V} {R : L2.St → Hp → Prop} (h : H a = some (.tup xs)) (hn : xs.length = n) (q : gs xs σ H R) : gTup K n gs (.ref a) σ H R := ⟨a, xs, rfl, SqT.of h, hn, q⟩
theorem s_gCons {gs : TGs} {vs : List V} {R : L2.St → Hp → Prop} (q : g v σ H fun σ' H' => gs vs σ' H' R) : gCons g gs (v :: vs) σ H R := ⟨v, vs, rfl, q⟩
theorem s_gNil {R : L2.St → Hp → Prop} (q : R σ H) : gNil [] σ H R := ⟨rfl, q⟩
theorem s_gSub {to ti : TE} {st : TSet} {R : L2.St → Hp → Prop} (q : to σ H fun o H1 => ti σ H1 fun i H2 => st o i v H2 fun H3 => R σ H3) : gSub to ti st v σ H R := q
theorem s_setL {p : Addr} {k : Int} {xs : List V} {j : Nat} {R : Hp → Prop} (h : H p = some (.lst xs)) (hj : ixN xs.length k = some j) (q : R (upd H p (.lst (xs.set j v)))) : rSetL (.ref p) (.int k) v H R := ⟨p, xs, k, j, rfl, rfl, h, hj, q⟩
theorem s_gName {i : Nat} {R : L2.St → Hp → Prop} (h : R (σ.set i (some v)) H) : gName i v σ H R := h
end
end
/-- an item of a menu by a draw -/
theorem at_mem {α : Type} {xs : List α} {d : Int} (h0 : 0 ≤ d) (h1 : d < (xs.length : Int)) : ∃ v, v ∈ xs ∧ atI xs d = some v := by
  have hj : d.toNat < xs.length := by omega
  refine ⟨xs[d.toNat], List.getElem_mem hj, ?_⟩
  have e : ∀ (z : Int) (j : Nat) (v : α), z = (j : Int) → xs[j]? = some v → atI xs z = some v := fun z j v e h => by
    rw [e]
    exact atI_nat h
  exact e d d.toNat _ (by omega) (by simp [hj])
theorem s_menuL {K : PySem.W.Frag} {H : Hp} {Q : VK} {p : Addr} {xs : List V} {i : Int} (h : H p = some (.lst xs)) (h0 : 0 ≤ i) (h1 : i < (xs.length : Int)) (q : ∀ v, v ∈ xs → Q v H) : rIx K (.ref p) (.int i) H Q := by
  obtain ⟨v, hv, e⟩ := at_mem h0 h1
  exact s_ixL h e (q v hv)
theorem s_menuS {K : PySem.W.Frag} {H : Hp} {Q : VK} {z : Str} {i : Int} (h : z.length ≤ sizeLine) (h0 : 0 ≤ i) (h1 : i < (z.cps.toList.length : Int)) (q : ∀ c, c ∈ z.cps.toList → Q (.str ⟨#[c]⟩) H) : rIx K (.str z) (.int i) H Q := by
  obtain ⟨v, hv, e⟩ := at_mem h0 h1
  exact s_ixS h e (q v hv)
end Z

namespace Z
open PySem PySem.Spec PyProof.Rows L2 Evl
/-! ### kinds of data -/
inductive Kd where
  | sc (v : V) | tup (xs : List V) | lst (xs : List V) | dct (kvs : List (Key × V))
def isSc : V → Bool
  | .non | .bl _ | .int _ | .str _ => true
  | _ => false
/-- v is such a datum in the heap H -/
def Is (H : Hp) (v : V) : Kd → Prop
  | .sc x => v = x ∧ isSc x = true
  | .tup xs => ∃ a, v = .ref a ∧ H a = some (.tup xs)
  | .lst xs => ∃ a, v = .ref a ∧ H a = some (.lst xs)
  | .dct kvs => ∃ a, v = .ref a ∧ H a = some (.dK kvs)
def Deep (H : Hp) : Kd → Prop
  | .tup xs => ∀ x ∈ xs, ∃ e, Is H x e
  | _ => True
theorem Is.ex {H H' : Hp} {v : V} {d : Kd} (h : Is H v d) (e : Ex H H') : Is H' v d := by
  cases d with
  | sc x => exact h
  | tup xs => obtain ⟨a, rfl, q⟩ := h; exact ⟨a, rfl, e _ _ q⟩
  | lst xs => obtain ⟨a, rfl, q⟩ := h; exact ⟨a, rfl, e _ _ q⟩
  | dct xs => obtain ⟨a, rfl, q⟩ := h; exact ⟨a, rfl, e _ _ q⟩
theorem Deep.ex {H H' : Hp} {d : Kd} (h : Deep H d) (e : Ex H H') : Deep H' d := by
  cases d with
  | tup xs => exact fun x hx => let ⟨k, q⟩ := h x hx; ⟨k, q.ex e⟩
  | _ => trivial
def tyN : Kd → String
  | .sc .non => "NoneType"
  | .sc (.bl _) => "bool"
  | .sc (.int _) => "int"
  | .sc (.str _) => "str"
  | .sc _ => "object"
  | .tup _ => "tuple"
  | .lst _ => "list"
  | .dct _ => "dict"
theorem Is.ty {K : PySem.W.Frag} {H : Hp} {v : V} {d : Kd} (h : Is H v d) : TyX K H v (.type (tyN d)) := by
  cases d with
  | sc x =>
    obtain ⟨rfl, hs⟩ := h
    cases v with
    | non => exact .base .non
    | bl b => exact .base (.bl b)
    | int i => exact .base (.int i)
    | str x => exact .base (.str x)
    | _ => cases hs
  | tup xs => obtain ⟨a, rfl, q⟩ := h; exact .base (.tup q)
  | lst xs => obtain ⟨a, rfl, q⟩ := h; exact .base (.lst q)
  | dct xs => obtain ⟨a, rfl, q⟩ := h; exact .base (.dK q)
theorem s_isi {K : PySem.W.Frag} {H : Hp} {Q : VK} {v : V} {d : Kd} {T : String} {b : Bool} (h : Is H v d) (e : kitB (tyN d) T = some b) (q : Q (.bl b) H) : rIsi K [v, .ty T] H Q :=
  ⟨v, .ty T, _, _, b, rfl, .ty T, h.ty, kit_ty e, q⟩
def tyB (T : String) (a : String) : Bool := a == T || (a == "bool" && T == "int")
def tyNs : List String := ["NoneType", "bool", "int", "str", "tuple", "list", "dict"]
theorem Is.tyN {H : Hp} {v : V} {d : Kd} (h : Is H v d) : tyN d ∈ tyNs := by
  cases d with
  | sc x =>
    obtain ⟨rfl, hs⟩ := h
    cases v <;> first | (simp [Z.tyN, tyNs]; done) | cases hs
  | _ => simp [Z.tyN, tyNs]
def kitOk (T : String) : Bool := tyNs.all fun a => decide (kitB a T = some (tyB T a))
theorem s_isiT {K : PySem.W.Frag} {H : Hp} {Q : VK} {v : V} {d : Kd} {T : String} (hT : kitOk T = true) (h : Is H v d) (q : Q (.bl (tyB T (tyN d))) H) : rIsi K [v, .ty T] H Q :=
  s_isi h (of_decide_eq_true (List.all_eq_true.mp hT _ h.tyN)) q
theorem kit_int : kitOk "int" = true := by decide +kernel
theorem kit_bool : kitOk "bool" = true := by decide +kernel
theorem kit_str : kitOk "str" = true := by decide +kernel
theorem kit_tuple : kitOk "tuple" = true := by decide +kernel
theorem kit_list : kitOk "list" = true := by decide +kernel
theorem kit_dict : kitOk "dict" = true := by decide +kernel
/-! ### what the words tell -/
def isIV : V → Bool
  | .int _ => true
  | _ => false
def limV : V → Bool
  | .non | .int _ => true
  | _ => false
def letters : List Nat := ("abcdefghijklmnopqrstuvwxyz" : Str).cps.toList
def nmS (z : Str) : Bool := !decide (z = ("table" : Str)) && (decide (1 ≤ z.length) && (decide (z.length ≤ 8) && z.cps.toList.all fun c => decide (c ∈ letters)))
def nmV : V → Bool
  | .str z => nmS z
  | _ => false
def spL : List V → Bool
  | [l, h] => limV l && (limV h && (match l, h with
    | .int a, .int b => decide (a < b)
    | _, _ => true))
  | _ => false
def spD : Kd → Bool
  | .tup xs => spL xs
  | _ => false
def smallV : V → Prop
  | .str z => z.length ≤ 1000
  | _ => True
/-! ### the promises of the words -/
def sp_is_integer (K : PySem.W.Frag) : Sp := fun vs H Q _ => ∃ v d, vs = [v] ∧ Is H v d ∧ Q (.bl (isIV v)) H
def sp_is_name (K : PySem.W.Frag) : Sp := fun vs H Q _ => ∃ v d, vs = [v] ∧ Is H v d ∧ smallV v ∧ ∀ H', Ex H H' → Q (.bl (nmV v)) H'
def sp_is_limit (K : PySem.W.Frag) : Sp := fun vs H Q _ => ∃ v d, vs = [v] ∧ Is H v d ∧ Q (.bl (limV v)) H
def sp_is_span (K : PySem.W.Frag) : Sp := fun vs H Q _ => ∃ v d, vs = [v] ∧ Is H v d ∧ Deep H d ∧ Q (.bl (spD d)) H
/-! ### the box of draws -/
def Bx (H : Hp) (p : Addr) (n : Nat) : Prop := ∃ a b c : Int, H p = some (.lst [.int a, .int b, .int c]) ∧ 0 ≤ b ∧ b < 2147483648 ∧ 0 ≤ c ∧ c ≤ n
theorem Bx.mono {H : Hp} {p : Addr} {n m : Nat} (h : Bx H p n) (l : n ≤ m) : Bx H p m := by
  obtain ⟨a, b, c, e, h1, h2, h3, h4⟩ := h
  exact ⟨a, b, c, e, h1, h2, h3, by omega⟩
theorem Bx.ex {H H' : Hp} {p : Addr} {n : Nat} (h : Bx H p n) (e : Ex H H') : Bx H' p n := by
  obtain ⟨a, b, c, e1, h1⟩ := h
  exact ⟨a, b, c, e _ _ e1, h1⟩
theorem Bx.ne {H : Hp} {p q : Addr} {n : Nat} (h : Bx H p n) (e : H q = none) : q ≠ p := by
  obtain ⟨a, b, c, e1, h1⟩ := h
  exact ne_back e1 e
theorem But.back {H H' : Hp} {p q : Addr} {n : Nat} (s : But p H H') (h : Bx H' p n) (e : H' q = none) : H q = none := by
  cases q1 : H q with
  | none => rfl
  | some o =>
    rw [s q o q1 (h.ne e)] at e
    cases e
theorem But.old {H0 H H' : Hp} {p : Addr} (hp : H0 p = none) (e : Ex H0 H) (s : But p H H') : Ex H0 H' := fun a o h => s a o (e a o h) (ne_of_none h hp)
theorem Is.but {H H' : Hp} {p : Addr} {v : V} {d : Kd} {n : Nat} (h : Is H v d) (B : Bx H p n) (s : But p H H') (hd : ∀ xs, d ≠ .lst xs) : Is H' v d := by
  obtain ⟨x, y, z, e, _⟩ := B
  cases d with
  | sc x => exact h
  | tup xs => obtain ⟨a, rfl, q⟩ := h; exact ⟨a, rfl, s _ _ q (ne_of q e (fun z => by cases z))⟩
  | lst xs => exact absurd rfl (hd xs)
  | dct xs => obtain ⟨a, rfl, q⟩ := h; exact ⟨a, rfl, s _ _ q (ne_of q e (fun z => by cases z))⟩
def sp_law_cell (K : PySem.W.Frag) : Sp := fun vs H Q _ => ∃ (a : Addr) (ns : List Int) (k : Int), vs = [.ref a, .int k] ∧ SqL K H a (ns.map V.int) ∧ 0 ≤ k ∧ k < 1000 ∧ ∀ n, Q (.int n) H
def sp_law_box (K : PySem.W.Frag) : Sp := fun vs H Q _ => ∃ n : Int, vs = [.int n] ∧ ∀ (p : Addr) (H' : Hp), H p = none → Ex H H' → Bx H' p 0 → Q (.ref p) H'
def sp_law_take (K : PySem.W.Frag) : Sp := fun vs H Q _ => ∃ (p : Addr) (m : Int) (n : Nat), vs = [.ref p, .int m] ∧ Bx H p n ∧ n < 4294967296 ∧ 0 < m ∧ m.natAbs.log2 < 9000 ∧
  ∀ (d : Int) (H' : Hp), But p H H' → Bx H' p (n + 1) → 0 ≤ d → d < m → Q (.int d) H'
def sp_law_is_integer := sp_is_integer
def sp_law_is_name := sp_is_name
def sp_law_is_span (K : PySem.W.Frag) : Sp := fun vs H Q _ => ∃ v d, vs = [v] ∧ Is H v d ∧ Deep H d ∧ ∀ H', Ex H H' → Q (.bl (spD d)) H'
def sp_law_word (K : PySem.W.Frag) : Sp := fun vs H Q _ => ∃ (p : Addr) (n : Nat), vs = [.ref p] ∧ Bx H p n ∧ n ≤ 100000 ∧ ∀ (z : Str) (H' : Hp), But p H H' → Bx H' p (n + 20) → z.length ≤ 100 → Q (.str z) H'
def sp_law_limit (K : PySem.W.Frag) : Sp := fun vs H Q _ => ∃ (p : Addr) (n : Nat), vs = [.ref p] ∧ Bx H p n ∧ n ≤ 100000 ∧ ∀ (v : V) (d : Kd) (H' : Hp), But p H H' → Bx H' p (n + 2) → Is H' v d → (∀ xs, d ≠ .lst xs) → Q v H'
def sp_law_value (K : PySem.W.Frag) : Sp := fun vs H Q _ => ∃ (p : Addr) (n : Nat), vs = [.ref p] ∧ Bx H p n ∧ n ≤ 10000 ∧ ∀ (v : V) (d : Kd) (H' : Hp), But p H H' → Bx H' p (n + 30) → Is H' v d → Deep H' d → smallV v → Q v H'
def sp_law_sure_right (K : PySem.W.Frag) : Sp := fun vs H Q _ => ∃ (p : Addr) (n : Nat), vs = [.ref p] ∧ Bx H p n ∧ n ≤ 10000 ∧ ∀ H' : Hp, But p H H' → Q (.bl true) H'
def sp_law (K : PySem.W.Frag) : Sp := fun vs H Q _ => ∃ (a : Addr) (ns : List Int), vs = [.ref a] ∧ SqL K H a (ns.map V.int) ∧ ns.length ≤ 63 ∧ ∀ H', Q (.bl true) H'
end Z

namespace Z
open PySem PySem.Spec PyProof.Rows L2 Evl
/-! ### readings (gen.py) -/
def t_is_integer (K : PySem.W.Frag) : TS :=
  (tRet ((tAndV (tCB (rIsi K) (tCons (tVar 0) (tCons (tC (.ty "int")) tNil))) (tNotV (tCB (rIsi K) (tCons (tVar 0) (tCons (tC (.ty "bool")) tNil)))))))
def t_is_name (K : PySem.W.Frag) : TS :=
  (tSeq (tIfS ((tOr (tNot (tB (tCB (rIsi K) (tCons (tVar 0) (tCons (tC (.ty "str")) tNil))))) (tOr (tTest (tOp (rEqA K) (tVar 0) (tC (.str "table")))) (tNot (tTest (tChain rLeA rLeA (tC (.int 1)) (tCB (rLenA K) (tCons (tVar 0) tNil)) (tC (.int 8)))))))) (tRet (tC (.bl false))) tNext)
    (tRet (tCB (rAll K) (tCons (tLc (iAny K (tVar 0)) (gName 1) tYes (tOp (rInA K) (tVar 1) (tC (.str "abcdefghijklmnopqrstuvwxyz"))) [1]) tNil))))
def t_is_limit (K : PySem.W.Frag) : TS :=
  (tRet ((tOrV (tOp rIsA (tVar 0) (tC .non)) (tCall (sp_is_integer K) [] E0 (tCons (tVar 0) tNil)))))
def t_is_span (K : PySem.W.Frag) : TS :=
  (tSeq (tIfS ((tOr (tNot (tB (tCB (rIsi K) (tCons (tVar 0) (tCons (tC (.ty "tuple")) tNil))))) (tTest (tOp (rNeA K) (tCB (rLenA K) (tCons (tVar 0) tNil)) (tC (.int 2)))))) (tRet (tC (.bl false))) tNext)
    (tSeq (tAsg (tVar 0) (gTup K 2 (gCons (gName 1) (gCons (gName 2) gNil))))
    (tSeq (tIfS ((tOr (tNot (tB (tCall (sp_is_limit K) [] E0 (tCons (tVar 1) tNil)))) (tNot (tB (tCall (sp_is_limit K) [] E0 (tCons (tVar 2) tNil)))))) (tRet (tC (.bl false))) tNext)
    (tRet ((tOrV (tOp rIsA (tVar 1) (tC .non)) (tOrV (tOp rIsA (tVar 2) (tC .non)) (tOp rLtA (tVar 1) (tVar 2)))))))))
def t_law_cell (K : PySem.W.Frag) : TS :=
  (tSeq (tIfS (tTest (tOp rLtA (tVar 1) (tCB (rLenA K) (tCons (tVar 0) tNil)))) (tRet (tOp (rIx K) (tVar 0) (tVar 1))) tNext)
    (tRet (tOp rAddA (tOp rMulA (tC (.int 7919)) (tVar 1)) (tC (.int 131)))))
def t_law_box (K : PySem.W.Frag) : TS :=
  (tRet (tLst (tCons (tCB (rMaxA K) (tCons (tC (.int 0)) (tCons (tOp rSubA (tVar 0) (tOp rPowA (tC (.int 10)) (tC (.int 18)))) tNil))) (tCons (tOp rModA (tVar 0) (tC (.int 2147483629))) (tCons (tC (.int 0)) tNil)))))
def t_law_take (K : PySem.W.Frag) : TS :=
  (tSeq (tIfS (tTest (tOp rGtA (tOp (rIx K) (tVar 0) (tC (.int 0))) (tC (.int 0)))) (tSeq (tAsg (tOp rModA (tOp (rIx K) (tVar 0) (tC (.int 0))) (tVar 1)) (gName 2))
    (tSeq (tAsg (tOp rDivA (tOp (rIx K) (tVar 0) (tC (.int 0))) (tVar 1)) (gSub (tVar 0) (tC (.int 0)) rSetL))
    (tRet (tVar 2)))) tNext)
    (tSeq (tAsg (tOp rAddA (tOp (rIx K) (tVar 0) (tC (.int 2))) (tC (.int 1))) (gSub (tVar 0) (tC (.int 2)) rSetL))
    (tSeq (tAsg (tOp rModA (tOp rPowA (tOp rAddA (tOp rAddA (tOp (rIx K) (tVar 0) (tC (.int 1))) (tOp rMulA (tC (.int 7919)) (tOp (rIx K) (tVar 0) (tC (.int 2))))) (tC (.int 43))) (tC (.int 5))) (tC (.int 2147483647))) (gName 3))
    (tSeq (tAsg (tOp rModA (tOp rPowA (tOp rAddA (tVar 3) (tOp rMulA (tC (.int 104729)) (tOp (rIx K) (tVar 0) (tC (.int 2))))) (tC (.int 3))) (tC (.int 2147483587))) (gName 3))
    (tRet (tOp rModA (tOp rDivA (tVar 3) (tC (.int 8))) (tVar 1)))))))
def t_law_is_integer (K : PySem.W.Frag) : TS :=
  (tRet ((tAndV (tCB (rIsi K) (tCons (tVar 0) (tCons (tC (.ty "int")) tNil))) (tNotV (tCB (rIsi K) (tCons (tVar 0) (tCons (tC (.ty "bool")) tNil)))))))
def t_law_is_name (K : PySem.W.Frag) : TS :=
  (tSeq (tIfS ((tOr (tNot (tB (tCB (rIsi K) (tCons (tVar 0) (tCons (tC (.ty "str")) tNil))))) (tOr (tTest (tOp (rEqA K) (tVar 0) (tC (.str "table")))) (tOr (tTest (tOp rLtA (tCB (rLenA K) (tCons (tVar 0) tNil)) (tC (.int 1)))) (tTest (tOp rGtA (tCB (rLenA K) (tCons (tVar 0) tNil)) (tC (.int 8)))))))) (tRet (tC (.bl false))) tNext)
    (tRet (tOp (rEqA K) (tLc (iAny K (tVar 0)) (gName 1) (tTest (tOp (rNinA K) (tVar 1) (tC (.str "abcdefghijklmnopqrstuvwxyz")))) (tVar 1) [1]) (tLst tNil))))
def t_law_is_span (K : PySem.W.Frag) : TS :=
  (tSeq (tIfS ((tOr (tNot (tB (tCB (rIsi K) (tCons (tVar 0) (tCons (tC (.ty "tuple")) tNil))))) (tTest (tOp (rNeA K) (tCB (rLenA K) (tCons (tVar 0) tNil)) (tC (.int 2)))))) (tRet (tC (.bl false))) tNext)
    (tSeq (tIfS (tTest (tOp (rNeA K) (tLc (iAny K (tVar 0)) (gName 1) ((tAnd (tTest (tOp rNotA (tVar 1) (tC .non))) (tNot (tB (tCall (sp_law_is_integer K) [] E0 (tCons (tVar 1) tNil)))))) (tVar 1) [1]) (tLst tNil))) (tRet (tC (.bl false))) tNext)
    (tRet ((tOrV (tOp rIsA (tOp (rIx K) (tVar 0) (tC (.int 0))) (tC .non)) (tOrV (tOp rIsA (tOp (rIx K) (tVar 0) (tC (.int 1))) (tC .non)) (tOp rLtA (tOp (rIx K) (tVar 0) (tC (.int 0))) (tOp (rIx K) (tVar 0) (tC (.int 1))))))))))
def t_law_word (K : PySem.W.Frag) : TS :=
  (tSeq (tAsg (tBM K "str" (rJoinA K) (tC (.str "")) (tCons (tLc (iRng1 (tCons (tCall (sp_law_take K) [] E0 (tCons (tVar 0) (tCons (tC (.int 10)) tNil))) tNil)) (gName 3) tYes (tOp (rIx K) (tC (.str "abtelz")) (tCall (sp_law_take K) [] E0 (tCons (tVar 0) (tCons (tC (.int 6)) tNil)))) [3]) tNil)) (gName 1))
    (tCut (tIfS (tTest (tOp (rEqA K) (tCall (sp_law_take K) [] E0 (tCons (tVar 0) (tCons (tC (.int 3)) tNil))) (tC (.int 0)))) (tSeq (tAsg (tCall (sp_law_take K) [] E0 (tCons (tVar 0) (tCons (tOp rAddA (tCB (rLenA K) (tCons (tVar 1) tNil)) (tC (.int 1))) tNil))) (gName 2))
    (tAsg (tOp rAddA (tOp rAddA (tSl (rSlA K) (tVar 1) tNoPart (tPart (tVar 2))) (tOp (rIx K) (tC (.str " 0A_-.:!")) (tCall (sp_law_take K) [] E0 (tCons (tVar 0) (tCons (tC (.int 8)) tNil))))) (tSl (rSlA K) (tVar 1) (tPart (tVar 2)) tNoPart)) (gName 1))) tNext)
    (tRet (tOp (rIx K) (tLst (tCons (tVar 1) (tCons (tC (.str "table")) (tCons (tC (.str "tables")) (tCons (tC (.str "tabl")) (tCons (tC (.str "tablea")) (tCons (tC (.str "table ")) tNil))))))) (tCall (sp_law_take K) [] E0 (tCons (tVar 0) (tCons (tC (.int 6)) tNil)))))))
def t_law_limit (K : PySem.W.Frag) : TS :=
  (tSeq (tAsg (tOp rSubA (tCall (sp_law_take K) [] E0 (tCons (tVar 0) (tCons (tC (.int 5)) tNil))) (tC (.int 2))) (gName 1))
    (tRet (tOp (rIx K) (tLst (tCons (tC .non) (tCons (tVar 1) (tCons (tVar 1) (tCons (tOp rMulA (tVar 1) (tOp rPowA (tC (.int 10)) (tC (.int 28)))) (tCons (tC (.bl true)) (tCons (tC (.str "1")) (tCons (tTup (tCons (tC (.int 1)) tNil)) tNil)))))))) (tCall (sp_law_take K) [] E0 (tCons (tVar 0) (tCons (tC (.int 7)) tNil))))))
def t_law_value (K : PySem.W.Frag) : TS :=
  (tSeq (tAsg (tCall (sp_law_take K) [] E0 (tCons (tVar 0) (tCons (tC (.int 5)) tNil))) (gName 1))
    (tSeq (tIfS (tTest (tOp (rEqA K) (tVar 1) (tC (.int 0)))) (tRet (tCall (sp_law_word K) [] E0 (tCons (tVar 0) tNil))) tNext)
    (tSeq (tIfS (tTest (tOp rLtA (tVar 1) (tC (.int 3)))) (tRet (tTup (tCons (tCall (sp_law_limit K) [] E0 (tCons (tVar 0) tNil)) (tCons (tCall (sp_law_limit K) [] E0 (tCons (tVar 0) tNil)) tNil)))) tNext)
    (tSeq (tIfS (tTest (tOp (rEqA K) (tVar 1) (tC (.int 3)))) (tRet (tOp (rIx K) (tLst (tCons (tTup tNil) (tCons (tTup (tCons (tC (.int 1)) tNil)) (tCons (tTup (tCons (tC (.int 1)) (tCons (tC (.int 2)) (tCons (tC (.int 3)) tNil)))) (tCons (tLst (tCons (tC (.int 1)) (tCons (tC (.int 2)) tNil))) (tCons (tTup (tCons (tC .non) (tCons (tC .non) tNil))) (tCons (tTup (tCons (tC .non) (tCons (tC (.int 5)) tNil))) (tCons (tTup (tCons (tC (.int 5)) (tCons (tC .non) tNil))) (tCons (tTup (tCons (tC (.int 5)) (tCons (tC (.int 5)) tNil))) (tCons (tDisp (((tC (.int 1)), (tC (.int 2))) :: [])) tNil)))))))))) (tCall (sp_law_take K) [] E0 (tCons (tVar 0) (tCons (tC (.int 9)) tNil))))) tNext)
    (tRet (tOp (rIx K) (tLst (tCons (tC .non) (tCons (tC (.bl true)) (tCons (tC (.bl false)) (tCons (tC (.int 0)) (tCons (tUn (rU fun i => .int (-i)) (tC (.int 1))) (tCons (tOp rPowA (tC (.int 10)) (tC (.int 29))) (tCons (tLst tNil) (tCons (tC (.str "1")) (tCons (tC (.str "")) (tCons (tC (.str "a")) (tCons (tOp rMulA (tC (.str "b")) (tC (.int 8))) (tCons (tOp rMulA (tC (.str "b")) (tC (.int 9))) tNil))))))))))))) (tCall (sp_law_take K) [] E0 (tCons (tVar 0) (tCons (tC (.int 12)) tNil)))))))))
def t_law_sure_right (K : PySem.W.Frag) : TS :=
  (tSeq (tAsg (tOp rMulA (tOp rSubA (tCall (sp_law_take K) [] E0 (tCons (tVar 0) (tCons (tOp rPowA (tC (.int 10)) (tC (.int 20))) tNil))) (tOp rMulA (tC (.int 5)) (tOp rPowA (tC (.int 10)) (tC (.int 19))))) (tOp (rIx K) (tLst (tCons (tC (.int 1)) (tCons (tOp rPowA (tC (.int 10)) (tC (.int 9))) tNil))) (tCall (sp_law_take K) [] E0 (tCons (tVar 0) (tCons (tC (.int 2)) tNil))))) (gName 1))
    (tSeq (tAsg (tBM K "str" (rJoinA K) (tC (.str "")) (tCons (tLc (iRng1 (tCons (tOp rAddA (tC (.int 1)) (tCall (sp_law_take K) [] E0 (tCons (tVar 0) (tCons (tC (.int 8)) tNil)))) tNil)) (gName 7) tYes (tOp (rIx K) (tC (.str "abcdefghijklmnopqrstuvwxyz")) (tCall (sp_law_take K) [] E0 (tCons (tVar 0) (tCons (tC (.int 26)) tNil)))) [7]) tNil)) (gName 2))
    (tSeq (tAsg (tIf (tTest (tOp (rEqA K) (tVar 2) (tC (.str "table")))) (tC (.str "tables")) (tVar 2)) (gName 2))
    (tSeq (tAsg (tOp rAddA (tOp rAddA (tVar 1) (tC (.int 1))) (tCall (sp_law_take K) [] E0 (tCons (tVar 0) (tCons (tOp rPowA (tC (.int 10)) (tC (.int 20))) tNil)))) (gName 3))
    (tSeq (tAsg (tOp (rIx K) (tLst (tCons (tTup (tCons (tVar 1) (tCons (tVar 3) tNil))) (tCons (tTup (tCons (tC .non) (tCons (tVar 3) tNil))) (tCons (tTup (tCons (tVar 1) (tCons (tC .non) tNil))) (tCons (tTup (tCons (tC .non) (tCons (tC .non) tNil))) tNil))))) (tCall (sp_law_take K) [] E0 (tCons (tVar 0) (tCons (tC (.int 4)) tNil)))) (gName 4))
    (tSeq (tAsg (tLst (tCons (tCall (sp_is_integer K) [] E0 (tCons (tVar 1) tNil)) (tCons (tCall (sp_is_name K) [] E0 (tCons (tVar 2) tNil)) (tCons (tCall (sp_is_span K) [] E0 (tCons (tVar 4) tNil)) tNil)))) (gName 5))
    (tSeq (tAsg (tLst (tCons (tCall (sp_is_integer K) [] E0 (tCons (tVar 2) tNil)) (tCons (tCall (sp_is_integer K) [] E0 (tCons (tVar 4) tNil)) (tCons (tCall (sp_is_name K) [] E0 (tCons (tVar 1) tNil)) (tCons (tCall (sp_is_name K) [] E0 (tCons (tVar 4) tNil)) (tCons (tCall (sp_is_span K) [] E0 (tCons (tVar 1) tNil)) (tCons (tCall (sp_is_span K) [] E0 (tCons (tVar 2) tNil)) tNil))))))) (gName 6))
    (tSeq (tAsg (tOp rAddA (tVar 6) (tLst (tCons (tCall (sp_is_name K) [] E0 (tCons (tBM0 K "str" rUpper (tVar 2)) tNil)) (tCons (tCall (sp_is_span K) [] E0 (tCons (tTup (tCons (tVar 3) (tCons (tVar 1) tNil))) tNil)) (tCons (tCall (sp_is_span K) [] E0 (tCons (tTup (tCons (tVar 1) (tCons (tVar 1) tNil))) tNil)) tNil))))) (gName 6))
    (tRet ((tAndV (tOp (rEqA K) (tLc (iAny K (tVar 5)) (gName 8) (tTest (tOp rNotA (tVar 8) (tC (.bl true)))) (tVar 8) [8]) (tLst tNil)) (tOp (rEqA K) (tLc (iAny K (tVar 6)) (gName 8) (tTest (tOp rNotA (tVar 8) (tC (.bl false)))) (tVar 8) [8]) (tLst tNil)))))))))))))
def t_law (K : PySem.W.Frag) : TS :=
  (tSeq (tFor (iRng1 (tCons (tCB (rMaxA K) (tCons (tC (.int 2)) (tCons (tCB (rMinA K) (tCons (tC (.int 16)) (tCons (tCB (rLenA K) (tCons (tVar 0) tNil)) tNil))) tNil))) tNil)) (gName 1) (tSeq (tAsg (tCall (sp_law_box K) [] E0 (tCons (tCall (sp_law_cell K) [] E0 (tCons (tVar 0) (tCons (tVar 1) tNil))) tNil)) (gName 2))
    (tSeq (tAsg (tCall (sp_law_value K) [] E0 (tCons (tVar 2) tNil)) (gName 3))
    (tSeq (tAsg (tLst (tCons (tCall (sp_is_integer K) [] E0 (tCons (tVar 3) tNil)) (tCons (tCall (sp_is_name K) [] E0 (tCons (tVar 3) tNil)) (tCons (tCall (sp_is_span K) [] E0 (tCons (tVar 3) tNil)) tNil)))) (gName 4))
    (tSeq (tAsg (tLst (tCons (tCall (sp_law_is_integer K) [] E0 (tCons (tVar 3) tNil)) (tCons (tCall (sp_law_is_name K) [] E0 (tCons (tVar 3) tNil)) (tCons (tCall (sp_law_is_span K) [] E0 (tCons (tVar 3) tNil)) tNil)))) (gName 5))
    (tSeq (tIfS ((tOr (tTest (tOp (rNeA K) (tLc (iAny K (tVar 4)) (gName 6) (tNot (tB (tCB (rIsi K) (tCons (tVar 6) (tCons (tC (.ty "bool")) tNil))))) (tVar 6) [6]) (tLst tNil))) (tTest (tOp (rNeA K) (tVar 4) (tVar 5))))) (tRet (tC (.bl false))) tNext)
    (tIfS (tNot (tB (tCall (sp_law_sure_right K) [] E0 (tCons (tVar 2) tNil)))) (tRet (tC (.bl false))) tNext)))))))
    (tRet (tC (.bl true))))

end Z

/-! steps by tactics: walk_at "look" finds an object, walk_at "s" makes one step, walk_at "go" as many as there are -/
section
open PySem PySem.Spec PyProof.Rows L2 Evl Z
end
open Z in
local macro_rules | `(tactic| walk_at "ne") => `(tactic| first
  | assumption | (apply Ne.symm; assumption)
  | (refine L2.ne_of_none (H := ?H) (o := ?o) ?b ?f; case f => assumption; case b => walk_at "look")
  | (refine Z.ne_back (H := ?H) (o := ?o) ?b ?f; case f => assumption; case b => walk_at "look")
  | (refine Z.Bx.ne (H := ?H) (n := ?n) ?b ?f; (case f => assumption); (case b => walk_at "bx"))
  | (apply Ne.symm; refine Z.Bx.ne (H := ?H) (n := ?n) ?b ?f; (case f => assumption); (case b => walk_at "bx"))
  | (refine L2.ne_of (H := ?H) (o := ?o) (u := ?u) ?a ?b ?c; (case a => walk_at "look"); (case b => walk_at "look"); (case c => (intro z; cases z))))
local macro_rules | `(tactic| walk_at "bx") => `(tactic| first
  | assumption
  | (refine Z.Bx.ex ?_ (Evl.Ex.new (by assumption)); walk_at "bx"))
local macro_rules | `(tactic| walk_at "look") => `(tactic| first
  | assumption
  | exact L2.upd_same
  | (refine Z.look_new ?_ (by assumption); walk_at "look")
  | (refine Z.look_mut ?_ ?_; (walk_at "look"); (walk_at "ne"))
  | (refine Z.look_ex (by assumption) ?_; walk_at "look")
  | (refine Z.look_but (by assumption) ?_ ?_; (walk_at "look"); (walk_at "ne")))
local macro_rules | `(tactic| walk_at "len") => `(tactic| first | (show _ ≤ 16777216; decide) | (simp [L2.sizeLine_eq]; done) | (simp [L2.sizeLine_eq]; omega) | (rw [PyProof.Rows.sizeLine_eq]; omega))
local macro_rules | `(tactic| walk_at "s") => `(tactic| first
  | ((with_reducible refine Z.s_var (v := ?v) ?h ?q); (case h => rfl))
  | with_reducible refine Z.s_c ?_
  | with_reducible refine Z.s_op ?_
  | with_reducible refine Z.s_cons ?_
  | with_reducible refine Z.s_nil ?_
  | with_reducible refine Z.s_call ?_
  | with_reducible refine Z.s_cb ?_
  | with_reducible refine Z.s_seq ?_
  | with_reducible refine Z.s_asg ?_
  | with_reducible refine Z.s_gName ?_
  | with_reducible refine Z.s_ifS ?_
  | with_reducible refine Z.s_ret ?_
  | with_reducible refine Z.s_next ?_
  | with_reducible refine Z.s_drop ?_
  | with_reducible refine Z.s_test ?_
  | with_reducible refine Z.s_B ?_
  | with_reducible refine Z.s_bl ?_
  | with_reducible refine Z.s_int ?_
  | with_reducible refine Z.s_not ?_
  | with_reducible refine Z.s_and ?_
  | with_reducible refine Z.s_or ?_
  | with_reducible refine Z.s_yes ?_
  | with_reducible refine Z.s_notV ?_
  | with_reducible refine Z.s_andV ?_
  | with_reducible refine Z.s_orV ?_
  | with_reducible refine Z.s_if ?_
  | with_reducible refine Z.s_chain ?_
  | with_reducible refine L2.iteT ?_
  | with_reducible refine L2.iteF ?_
  | ((with_reducible refine Z.s_itet ?e ?h); (case e => first | rfl | assumption))
  | ((with_reducible refine Z.s_itef ?e ?h); (case e => first | rfl | assumption))
  | ((with_reducible refine Z.s_gTup (xs := ?xs) ?h ?n ?q); (case h => walk_at "look"); (case n => rfl))
  | with_reducible refine Z.s_gCons ?_
  | with_reducible refine Z.s_gNil ?_
  | with_reducible refine Z.s_gSub ?_
  | ((with_reducible refine Z.s_setL (xs := ?xs) (j := ?j) ?h ?n ?q); (case h => walk_at "look"); (case n => rfl))
  | with_reducible refine Z.s_addI ?_
  | with_reducible refine Z.s_subI ?_
  | with_reducible refine Z.s_ltI ?_
  | with_reducible refine Z.s_leI ?_
  | with_reducible refine Z.s_gtI ?_
  | with_reducible refine Z.s_geI ?_
  | with_reducible refine Z.s_isN ?_
  | with_reducible refine Z.s_notN ?_
  | with_reducible refine Z.s_isB ?_
  | with_reducible refine Z.s_notB ?_
  | with_reducible refine Z.s_un ?_
  | with_reducible refine Z.s_rU ?_
  | with_reducible refine Z.s_lst ?_
  | with_reducible refine Z.s_tup ?_
  | with_reducible refine Z.s_sl ?_
  | with_reducible refine Z.s_nopart ?_
  | with_reducible refine Z.s_part ?_
  | with_reducible refine Z.s_max2 ?_
  | with_reducible refine Z.s_min2 ?_
  | ((with_reducible refine Z.s_eqS ?_ ?_); rfl)
  | ((with_reducible refine Z.s_neS ?_ ?_); rfl)
  | ((with_reducible refine Z.s_powI ?_ ?_); (exact ⟨by decide, by decide, by decide⟩))
  | ((with_reducible refine Z.s_ixL (v := ?v) (xs := ?xs) ?h ?a ?q); (case h => walk_at "look"); (case a => rfl))
  | ((with_reducible refine Z.s_ixT (v := ?v) (xs := ?xs) ?h ?a ?q); (case h => walk_at "look"); (case a => rfl)))
local macro_rules | `(tactic| walk_at "go") => `(tactic| repeat (walk_at "s"))
local macro_rules | `(tactic| walk_at "al") => `(tactic| (refine ⟨?h, ?q⟩; (case h => (apply Z.len_ok; simp))))
local macro_rules | `(tactic| walk_at "menu") => `(tactic| (refine Z.s_menuL (xs := ?xs) ?h ?a ?b ?q; (case h => walk_at "look"); (case a => assumption); (case b => first | assumption | (simp; omega))))
local macro_rules | `(tactic| walk_at "but") => `(tactic| first
  | assumption
  | exact Z.But.refl
  | (refine Z.But.new ?_ (by assumption); walk_at "but")
  | (refine Z.But.ex ?_ (by assumption); walk_at "but")
  | (refine Z.But.trans ?_ (by assumption); walk_at "but"))
local macro_rules | `(tactic| walk_at "ex") => `(tactic| first
  | assumption
  | exact Evl.Ex.refl _
  | (refine Evl.Ex.trans ?_ (Evl.Ex.new (by assumption)); walk_at "ex")
  | (refine Evl.Ex.trans ?_ (by assumption); walk_at "ex"))

namespace Z
open PySem PySem.Spec PyProof.Rows L2 Evl
theorem q_bl {Q : VK} {H : Hp} {b b' : Bool} (h : Q (.bl b) H) (e : b' = b) : Q (.bl b') H := by
  rw [e]
  exact h
/-- what isinstance tells of int and not bool -/
theorem isIV_of {H : Hp} {v : V} {d : Kd} (h : Is H v d) : isIV v = (tyB "int" (tyN d) && !tyB "bool" (tyN d)) := by
  cases d with
  | sc x =>
    obtain ⟨rfl, hs⟩ := h
    cases v <;> first | (simp [isIV, tyB, tyN]; done) | cases hs
  | tup xs => obtain ⟨a, rfl, q⟩ := h; simp [isIV, tyB, tyN]
  | lst xs => obtain ⟨a, rfl, q⟩ := h; simp [isIV, tyB, tyN]
  | dct xs => obtain ⟨a, rfl, q⟩ := h; simp [isIV, tyB, tyN]
theorem limV_of (v : V) : limV v = (decide (v = .non) || isIV v) := by
  cases v <;> simp [limV, isIV]
section
variable (K : PySem.W.Frag) (vs : List V) (H : Hp) (Q : VK) (E : XK)
theorem len_is_integer : ∀ vs H Q E, sp_is_integer K vs H Q E → vs.length = (["value"] : List Str).length := fun _ _ _ _ ⟨_, _, h, _⟩ => by rw [h]; rfl
theorem pure_is_integer (h : sp_is_integer K vs H Q E) : t_is_integer K { nx := fun _ H' => Q .non H', rt := Q } (start ["value"] vs) H := by
  obtain ⟨v, d, rfl, hi, k⟩ := h
  show t_is_integer K _ [some v] H
  unfold t_is_integer
  have e := isIV_of hi
  walk_at "go"
  refine s_isiT kit_int hi ?_
  walk_at "go"
  refine ite2 (fun c => ?_) (fun c => ?_)
  · walk_at "go"
    refine s_isiT kit_bool hi ?_
    walk_at "go"
    exact q_bl k (by rw [e, c]; rfl)
  · exact q_bl k (by rw [e, Bool.eq_false_iff.mpr c]; rfl)
def len_law_is_integer := len_is_integer
def pure_law_is_integer := pure_is_integer
theorem len_is_limit : ∀ vs H Q E, sp_is_limit K vs H Q E → vs.length = (["value"] : List Str).length := fun _ _ _ _ ⟨_, _, h, _⟩ => by rw [h]; rfl
theorem pure_is_limit (h : sp_is_limit K vs H Q E) : t_is_limit K { nx := fun _ H' => Q .non H', rt := Q } (start ["value"] vs) H := by
  obtain ⟨v, d, rfl, hi, k⟩ := h
  show t_is_limit K _ [some v] H
  unfold t_is_limit
  have e := limV_of v
  walk_at "go"
  refine ite2 (fun c => ?_) (fun c => ?_)
  · exact q_bl k (by rw [e, c]; rfl)
  · walk_at "go"
    exact ⟨v, d, rfl, hi, q_bl k (by rw [e, Bool.eq_false_iff.mpr c]; rfl)⟩
theorem len_is_span : ∀ vs H Q E, sp_is_span K vs H Q E → vs.length = (["value"] : List Str).length := fun _ _ _ _ ⟨_, _, h, _⟩ => by rw [h]; rfl
theorem notTup {H : Hp} {v : V} {d : Kd} (h : Is H v d) (e : tyB "tuple" (tyN d) = false) : spD d = false := by
  cases d with
  | tup xs => cases e
  | _ => rfl
theorem isTup {H : Hp} {v : V} {d : Kd} (h : Is H v d) (e : tyB "tuple" (tyN d) = true) : ∃ a xs, v = .ref a ∧ d = .tup xs ∧ H a = some (.tup xs) := by
  cases d with
  | tup xs =>
    obtain ⟨a, rfl, q⟩ := h
    exact ⟨a, xs, rfl, rfl, q⟩
  | sc x =>
    obtain ⟨rfl, hs⟩ := h
    cases v <;> first | (simp [tyB, tyN] at e; done) | cases hs
  | lst xs => cases e
  | dct xs => cases e
theorem spL_ne {xs : List V} (h : xs.length ≠ 2) : spL xs = false := by
  match xs with
  | [] => rfl
  | [_] => rfl
  | [_, _] => exact absurd rfl h
  | _ :: _ :: _ :: _ => rfl
theorem pure_is_span (h : sp_is_span K vs H Q E) : t_is_span K { nx := fun _ H' => Q .non H', rt := Q } (start ["value", "low", "high"] vs) H := by
  obtain ⟨v, d, rfl, hi, hd, k⟩ := h
  show t_is_span K _ [some v, none, none] H
  unfold t_is_span
  walk_at "go"
  refine s_isiT kit_tuple hi ?_
  walk_at "go"
  cases c : tyB "tuple" (tyN d) with
  | false =>
    walk_at "go"
    exact q_bl k (notTup hi c).symm
  | true =>
    obtain ⟨a, xs, rfl, rfl, ha⟩ := isTup hi c
    walk_at "go"
    refine s_lenT ha ?_
    walk_at "go"
    refine ite2 (fun c2 => ?_) (fun c2 => ?_)
    · walk_at "go"
      refine q_bl k (spL_ne ?_).symm
      intro e
      rw [e] at c2
      simp at c2
    · obtain ⟨l, h, rfl⟩ : ∃ l h, xs = [l, h] := by
        have e2 : xs.length = 2 := by
          simp at c2
          omega
        match xs, e2 with
        | [l, h], _ => exact ⟨l, h, rfl⟩
      obtain ⟨dl, hl⟩ := hd l (by simp)
      obtain ⟨dh, hh⟩ := hd h (by simp)
      walk_at "go"
      refine ⟨l, dl, rfl, hl, ?_⟩
      walk_at "go"
      cases cl : limV l with
      | false =>
        walk_at "go"
        exact q_bl k (by simp [spD, spL, cl])
      | true =>
        walk_at "go"
        refine ⟨h, dh, rfl, hh, ?_⟩
        walk_at "go"
        cases ch : limV h with
        | false =>
          walk_at "go"
          exact q_bl k (by simp [spD, spL, cl, ch])
        | true =>
          walk_at "go"
          cases l with
          | non =>
            walk_at "go"
            exact q_bl k (by simp [spD, spL, cl, ch])
          | int i =>
            walk_at "go"
            cases h with
            | non =>
              walk_at "go"
              exact q_bl k (by simp [spD, spL, cl, ch])
            | int j =>
              walk_at "go"
              exact q_bl k (by simp [spD, spL, cl, ch])
            | _ => cases ch
          | _ => cases cl
/-! a text's signs, each as a text -/
def signs (z : Str) : List V := z.cps.toList.map fun c => V.str ⟨#[c]⟩
theorem signs_len (z : Str) : (signs z).length = z.cps.size := by simp [signs]
theorem signs_at {z : Str} {i : Nat} {c : Nat} (h : z.cps[i]? = some c) : (signs z)[i]? = some (V.str ⟨#[c]⟩) := by
  simp [signs, h]
theorem walk_signs {z : Str} : Walk (Its z) (signs z).length (fun _ => True) (YAt (signs z)) := by
  rw [signs_len]
  exact walk_str.mono (fun _ h => h) fun i H x H' hi _ ⟨e, c, hc, hx⟩ => ⟨e, by rw [hx]; exact signs_at hc⟩
/-- a comprehension whose test and element leave the heap as it was but for what they add -/
theorem lc_pure {J : It} {G : Hp → Prop} {xs : List V} (w : Walk J xs.length G (YAt xs)) {i : Nat} {tt : TT} {te : TE} {σ : L2.St} {H : Hp} {Q : VK} {wi : TI} (p : V → Bool) (f : V → V)
    (hw : ∀ R : It → Hp → Prop, R J H → wi σ H R) (hG : ∀ H', Ex H H' → G H') (hx : xs.length < sizeLine)
    (ht : ∀ x ∈ xs, EvT tt ((wipe σ [i]).set i (some x)) H (p x)) (he : ∀ x ∈ xs, p x = true → Ev te ((wipe σ [i]).set i (some x)) H (f x))
    (q : ∀ D H2, H D = none → Ex H H2 → H2 D = some (.lst ((xs.filter p).map f)) → Q (.ref D) H2) : tLc wi (gName i) tt te [i] σ H Q := by
  refine hw _ fun D hD => ?_
  refine lc_it w (fun k H2 => Ex H H2 ∧ H2 D = some (.lst (((xs.take k).filter p).map f))) ⟨Ex.new hD, upd_same⟩ (fun k H2 _ h => hG H2 h.1) ?_ ?_
  · rintro k x H2 H' hk ⟨e, hd⟩ ⟨rfl, hxk⟩
    have hm : x ∈ xs := List.mem_of_getElem? hxk
    refine ⟨?_, ?_⟩
    · show ((wipe σ [i]).set i (some x)).set i none = wipe σ [i]
      unfold wipe
      simp [wipe]
    · refine ht x hm _ e _ fun H3 e3 => ?_
      have htk : xs.take (k + 1) = xs.take k ++ [x] := by
        rw [List.take_add_one, hxk]
        rfl
      cases c : p x with
      | false =>
        refine iteF ?_
        refine ⟨e.trans e3, ?_⟩
        rw [e3 _ _ hd, htk, List.filter_append]
        simp [c]
      | true =>
        refine iteT ?_
        refine he x hm c _ (e.trans e3) _ fun H4 e4 => ?_
        refine ⟨_, e4 _ _ (e3 _ _ hd), ?_, ?_, ?_⟩
        · have h1 : (((xs.take k).filter p).map f).length ≤ xs.length := by
            rw [List.length_map]
            exact Nat.le_trans (List.length_filter_le _ _) (by rw [List.length_take]; omega)
          omega
        · exact ((e.trans e3).trans e4).mut hD
        · rw [upd_same, htk, List.filter_append]
          simp [c]
  · rintro H2 ⟨e, hd⟩
    rw [List.take_length] at hd
    exact q D H2 hD e hd
end
end Z

namespace Z
open PySem PySem.Spec PyProof.Rows L2 Evl
/-- a sign among the letters -/
def inL : V → Bool
  | .str z => match z.cps.toList with
    | [c] => decide (c ∈ letters)
    | _ => false
  | _ => false
theorem inL_sign (c : Nat) : inL (.str ⟨#[c]⟩) = decide (c ∈ letters) := rfl
theorem iAny_str {K : PySem.W.Frag} {te : TE} {σ : L2.St} {H : Hp} {R : It → Hp → Prop} (h : te σ H fun v H1 => ∃ x, v = .str x ∧ R (Its x) H1) : iAny K te σ H R := .inr (.inr h)
theorem iAny_tup {K : PySem.W.Frag} {te : TE} {σ : L2.St} {H : Hp} {R : It → Hp → Prop} (h : te σ H fun x H1 => ∃ a, x = .ref a ∧ (∃ xs, SqT K H1 a xs) ∧ R (Itt K a) H1) : iAny K te σ H R := .inr (.inl h)
theorem iAny_lst {K : PySem.W.Frag} {te : TE} {σ : L2.St} {H : Hp} {R : It → Hp → Prop} (h : te σ H fun x H1 => ∃ a, x = .ref a ∧ (∃ xs, SqL K H1 a xs) ∧ R (Itl K a) H1) : iAny K te σ H R := .inl h
theorem filter_true {α : Type} (xs : List α) : xs.filter (fun _ => true) = xs := List.filter_eq_self.mpr fun _ _ => rfl
theorem signs_all (z : Str) (g : V → Bool) : (signs z).all g = z.cps.toList.all fun c => g (.str ⟨#[c]⟩) := by
  simp [signs, List.all_map, Function.comp_def]
theorem notStr {H : Hp} {v : V} {d : Kd} (h : Is H v d) (e : tyB "str" (tyN d) = false) : nmV v = false := by
  cases d with
  | sc x =>
    obtain ⟨rfl, hs⟩ := h
    cases v <;> first | rfl | (simp [tyB, tyN] at e; done) | cases hs
  | tup xs => obtain ⟨a, rfl, q⟩ := h; rfl
  | lst xs => obtain ⟨a, rfl, q⟩ := h; rfl
  | dct xs => obtain ⟨a, rfl, q⟩ := h; rfl
theorem isStr {H : Hp} {v : V} {d : Kd} (h : Is H v d) (e : tyB "str" (tyN d) = true) : ∃ z, v = .str z := by
  cases d with
  | sc x =>
    obtain ⟨rfl, hs⟩ := h
    cases v <;> first | exact ⟨_, rfl⟩ | (simp [tyB, tyN] at e; done) | cases hs
  | _ => simp [tyB, tyN] at e
theorem all_signs (z : Str) : ((signs z).map fun x => V.bl (inL x)) = ((signs z).map inL).map V.bl := by simp
section
variable (K : PySem.W.Frag) (vs : List V) (H : Hp) (Q : VK) (E : XK)
theorem len_is_name : ∀ vs H Q E, sp_is_name K vs H Q E → vs.length = (["value"] : List Str).length := fun _ _ _ _ ⟨_, _, h, _⟩ => by rw [h]; rfl
theorem pure_is_name (h : sp_is_name K vs H Q E) : t_is_name K { nx := fun _ H' => Q .non H', rt := Q } (start ["value", "sign"] vs) H := by
  obtain ⟨v, d, rfl, hi, hz, k⟩ := h
  show t_is_name K _ [some v, none] H
  unfold t_is_name
  walk_at "go"
  refine s_isiT kit_str hi ?_
  walk_at "go"
  cases c : tyB "str" (tyN d) with
  | false =>
    walk_at "go"
    exact q_bl (k H (Ex.refl H)) (notStr hi c).symm
  | true =>
    obtain ⟨z, rfl⟩ := isStr hi c
    have hz : z.length ≤ 1000 := hz
    have hzl : z.length ≤ sizeLine := Nat.le_trans hz (by decide)
    walk_at "go"
    refine ite2 (fun c1 => ?_) (fun c1 => ?_)
    · walk_at "go"
      refine q_bl (k H (Ex.refl H)) ?_
      have e : z = ("table" : Str) := by simpa using c1
      simp [nmV, nmS, e]
    · have e1 : ¬ z = ("table" : Str) := by simpa using c1
      walk_at "go"
      refine s_lenS hzl ?_
      walk_at "go"
      refine ite2 (fun c2 => ?_) (fun c2 => ?_)
      · have e2 : 1 ≤ z.length := by simp at c2; omega
        walk_at "go"
        refine ite2 (fun c3 => ?_) (fun c3 => ?_)
        · walk_at "go"
          refine q_bl (k H (Ex.refl H)) ?_
          have e3 : ¬ z.length ≤ 8 := by simp at c3; omega
          simp [nmV, nmS, e3]
        · have e3 : z.length ≤ 8 := by simp at c3; omega
          walk_at "go"
          refine lc_pure (walk_signs (z := z)) (fun _ => true) (fun x => .bl (inL x)) (fun R r => iAny_str ?_) (fun _ _ => trivial) ?_ (fun x hx => ?_) (fun x hx _ => ?_) fun D H2 hD e hl => ?_
          · walk_at "go"
            exact ⟨z, rfl, r⟩
          · rw [signs_len]
            have : z.cps.size = z.length := rfl
            rw [sizeLine_eq]
            omega
          · intro H1 e1 R r
            walk_at "go"
            exact r _ (Ex.refl _)
          · intro H1 e1 R r
            obtain ⟨c, hc, rfl⟩ : ∃ c, c ∈ z.cps.toList ∧ V.str ⟨#[c]⟩ = x := by simpa [signs] using hx
            walk_at "go"
            refine s_in1 ?_
            exact r _ (Ex.refl _)
          · walk_at "go"
            rw [filter_true, all_signs] at hl
            refine ⟨D, _, rfl, SqL.of hl, ?_⟩
            refine q_bl (k H2 e) ?_
            have e4 : ((signs z).map inL).all id = (signs z).all inL := by simp [List.all_map]
            rw [e4, signs_all]
            simp [nmV, nmS, e1, e2, e3, inL_sign]
      · have e2 : ¬ 1 ≤ z.length := by simp at c2; omega
        walk_at "go"
        refine q_bl (k H (Ex.refl H)) ?_
        simp [nmV, nmS, e2]
end
end Z

namespace Z
open PySem PySem.Spec PyProof.Rows L2 Evl
theorem isEmpty_filter {α : Type} (xs : List α) (p : α → Bool) : (xs.filter p).isEmpty = xs.all fun x => !p x := by
  induction xs with
  | nil => rfl
  | cons x xs ih =>
    cases c : p x with
    | true => simp [c]
    | false => simp [c, ih]
section
variable (K : PySem.W.Frag) (vs : List V) (H : Hp) (Q : VK) (E : XK)
theorem len_law_is_name : ∀ vs H Q E, sp_law_is_name K vs H Q E → vs.length = (["value"] : List Str).length := fun _ _ _ _ ⟨_, _, h, _⟩ => by rw [h]; rfl
theorem pure_law_is_name (h : sp_law_is_name K vs H Q E) : t_law_is_name K { nx := fun _ H' => Q .non H', rt := Q } (start ["value", "sign"] vs) H := by
  obtain ⟨v, d, rfl, hi, hz, k⟩ := h
  show t_law_is_name K _ [some v, none] H
  unfold t_law_is_name
  walk_at "go"
  refine s_isiT kit_str hi ?_
  walk_at "go"
  cases c : tyB "str" (tyN d) with
  | false =>
    walk_at "go"
    exact q_bl (k H (Ex.refl H)) (notStr hi c).symm
  | true =>
    obtain ⟨z, rfl⟩ := isStr hi c
    have hz : z.length ≤ 1000 := hz
    have hzl : z.length ≤ sizeLine := Nat.le_trans hz (by decide)
    walk_at "go"
    refine ite2 (fun c1 => ?_) (fun c1 => ?_)
    · walk_at "go"
      refine q_bl (k H (Ex.refl H)) ?_
      have e : z = ("table" : Str) := by simpa using c1
      simp [nmV, nmS, e]
    · have e1 : ¬ z = ("table" : Str) := by simpa using c1
      walk_at "go"
      refine s_lenS hzl ?_
      walk_at "go"
      refine ite2 (fun c2 => ?_) (fun c2 => ?_)
      · have e2 : ¬ 1 ≤ z.length := by simp at c2; omega
        walk_at "go"
        refine q_bl (k H (Ex.refl H)) ?_
        simp [nmV, nmS, e2]
      · have e2 : 1 ≤ z.length := by simp at c2; omega
        walk_at "go"
        refine s_lenS hzl ?_
        walk_at "go"
        refine ite2 (fun c3 => ?_) (fun c3 => ?_)
        · walk_at "go"
          refine q_bl (k H (Ex.refl H)) ?_
          have e3 : ¬ z.length ≤ 8 := by simp at c3; omega
          simp [nmV, nmS, e3]
        · have e3 : z.length ≤ 8 := by simp at c3; omega
          walk_at "go"
          refine lc_pure (walk_signs (z := z)) (fun x => !inL x) (fun x => x) (fun R r => iAny_str ?_) (fun _ _ => trivial) ?_ (fun x hx => ?_) (fun x hx _ => ?_) fun D H2 hD e hl => ?_
          · walk_at "go"
            exact ⟨z, rfl, r⟩
          · rw [signs_len]
            have : z.cps.size = z.length := rfl
            rw [sizeLine_eq]
            omega
          · intro H1 e1 R r
            obtain ⟨c, hc, rfl⟩ : ∃ c, c ∈ z.cps.toList ∧ V.str ⟨#[c]⟩ = x := by simpa [signs] using hx
            walk_at "go"
            refine s_nin1 ?_
            walk_at "go"
            exact r _ (Ex.refl _)
          · intro H1 e1 R r
            walk_at "go"
            exact r _ (Ex.refl _)
          · walk_at "go"
            refine ⟨Nat.zero_le _, fun p hp => ?_⟩
            refine s_eqNil (look_new hl hp) upd_same ?_
            refine q_bl (k _ (e.trans (Ex.new hp))) ?_
            have e4 : ((signs z).filter (fun x => !inL x)).map (fun x => x) = (signs z).filter (fun x => !inL x) := by simp
            rw [e4, isEmpty_filter, signs_all]
            simp [nmV, nmS, e1, e2, e3, inL_sign]
theorem len_law_is_span : ∀ vs H Q E, sp_law_is_span K vs H Q E → vs.length = (["value"] : List Str).length := fun _ _ _ _ ⟨_, _, h, _⟩ => by rw [h]; rfl
theorem pure_law_is_span (h : sp_law_is_span K vs H Q E) : t_law_is_span K { nx := fun _ H' => Q .non H', rt := Q } (start ["value", "limit"] vs) H := by
  obtain ⟨v, d, rfl, hi, hd, k⟩ := h
  show t_law_is_span K _ [some v, none] H
  unfold t_law_is_span
  walk_at "go"
  refine s_isiT kit_tuple hi ?_
  walk_at "go"
  cases c : tyB "tuple" (tyN d) with
  | false =>
    walk_at "go"
    exact q_bl (k H (Ex.refl H)) (notTup hi c).symm
  | true =>
    obtain ⟨a, xs, rfl, rfl, ha⟩ := isTup hi c
    walk_at "go"
    refine s_lenT ha ?_
    walk_at "go"
    refine ite2 (fun c2 => ?_) (fun c2 => ?_)
    · walk_at "go"
      refine q_bl (k H (Ex.refl H)) (spL_ne ?_).symm
      intro e
      rw [e] at c2
      simp at c2
    · obtain ⟨l, h, rfl⟩ : ∃ l h, xs = [l, h] := by
        have e2 : xs.length = 2 := by
          simp at c2
          omega
        match xs, e2 with
        | [l, h], _ => exact ⟨l, h, rfl⟩
      obtain ⟨dl, hl⟩ := hd l (by simp)
      obtain ⟨dh, hh⟩ := hd h (by simp)
      walk_at "go"
      refine lc_pure (walk_tup (K := K) (a := a) (xs := [l, h])) (fun x => !limV x) (fun x => x) (fun R r => iAny_tup ?_) (fun H' e => SqT.of (e _ _ ha)) (by show 2 < sizeLine; decide) (fun x hx => ?_) (fun x hx _ => ?_) fun D H2 hD e hl => ?_
      · walk_at "go"
        exact ⟨a, rfl, ⟨_, SqT.of ha⟩, r⟩
      · intro H1 e1 R r
        obtain ⟨dx, hx⟩ : ∃ dx, Is H x dx := by
          rcases List.mem_cons.mp hx with rfl | hx
          · exact ⟨_, hl⟩
          · rcases List.mem_cons.mp hx with rfl | hx
            · exact ⟨_, hh⟩
            · cases hx
        walk_at "go"
        have e5 := limV_of x
        refine ite2 (fun c4 => ?_) (fun c4 => ?_)
        · walk_at "go"
          refine ⟨x, dx, rfl, hx.ex e1, ?_⟩
          walk_at "go"
          have e6 : (!isIV x) = !limV x := by
            rw [e5]
            simp at c4
            simp [c4]
          rw [e6]
          exact r _ (Ex.refl _)
        · have e6 : false = !limV x := by
            rw [e5]
            simp at c4
            simp [c4]
          walk_at "go"
          rw [e6]
          exact r _ (Ex.refl _)
      · intro H1 e1 R r
        walk_at "go"
        exact r _ (Ex.refl _)
      · walk_at "go"
        refine ⟨Nat.zero_le _, fun p hp => ?_⟩
        refine s_neNil (look_new hl hp) upd_same ?_
        walk_at "go"
        have E1 := e.trans (Ex.new (o := HO.lst []) hp)
        have e4 : (([l, h].filter (fun x => !limV x)).map (fun x => x)).isEmpty = (limV l && limV h) := by
          rw [List.map_id', isEmpty_filter]
          simp
        rw [e4]
        cases cl : limV l with
        | false =>
          walk_at "go"
          exact q_bl (k _ E1) (by simp [spD, spL, cl])
        | true =>
          cases ch : limV h with
          | false =>
            walk_at "go"
            exact q_bl (k _ E1) (by simp [spD, spL, cl, ch])
          | true =>
            have hA := E1 _ _ ha
            walk_at "go"
            cases l with
            | non =>
              walk_at "go"
              exact q_bl (k _ E1) (by simp [spD, spL, cl, ch])
            | int i =>
              walk_at "go"
              cases h with
              | non =>
                walk_at "go"
                exact q_bl (k _ E1) (by simp [spD, spL, cl, ch])
              | int j =>
                walk_at "go"
                exact q_bl (k _ E1) (by simp [spD, spL, cl, ch])
              | _ => cases ch
            | _ => cases cl
end
end Z

namespace Z
open PySem PySem.Spec PyProof.Rows L2 Evl
theorem but_upd {p : Addr} {H : Hp} {o : HO} : But p H (upd H p o) := But.refl.set
section
variable (K : PySem.W.Frag) (vs : List V) (H : Hp) (Q : VK) (E : XK)
theorem len_law_cell : ∀ vs H Q E, sp_law_cell K vs H Q E → vs.length = (["script", "k"] : List Str).length := fun _ _ _ _ ⟨_, _, _, h, _⟩ => by rw [h]; rfl
theorem pure_law_cell (h : sp_law_cell K vs H Q E) : t_law_cell K { nx := fun _ H' => Q .non H', rt := Q } (start ["script", "k"] vs) H := by
  obtain ⟨a, ns, j, rfl, hs, h0, h1, k⟩ := h
  show t_law_cell K _ [some (.ref a), some (.int j)] H
  unfold t_law_cell
  walk_at "go"
  refine s_lenLK hs ?_
  walk_at "go"
  refine ite2 (fun c => ?_) (fun c => ?_)
  · walk_at "go"
    have hj : j.toNat < ns.length := by simp at c; omega
    exact s_ixLK (v := .int (ns[j.toNat])) hs (at_of (j := j.toNat) (by omega) (by simp [hj])) (k _)
  · walk_at "go"
    refine s_mulI (wide_mul (a := 13) (b := 10) (by decide) (by omega) (by decide) (by decide) (by decide)) ?_
    walk_at "go"
    exact k _
theorem len_law_box : ∀ vs H Q E, sp_law_box K vs H Q E → vs.length = (["cell"] : List Str).length := fun _ _ _ _ ⟨_, h, _⟩ => by rw [h]; rfl
theorem pure_law_box (h : sp_law_box K vs H Q E) : t_law_box K { nx := fun _ H' => Q .non H', rt := Q } (start ["cell"] vs) H := by
  obtain ⟨n, rfl, k⟩ := h
  show t_law_box K _ [some (.int n)] H
  unfold t_law_box
  walk_at "go"
  refine s_modI (by decide) ?_
  walk_at "go"
  refine ⟨by show 3 ≤ sizeLine; decide, fun p hp => ?_⟩
  refine k p _ hp (Ex.new hp) ⟨_, _, _, upd_same, ?_, ?_, Int.le_refl _, Int.le_refl _⟩
  · exact Int.emod_nonneg _ (by decide)
  · exact Int.lt_trans (Int.emod_lt_of_pos _ (by decide)) (by decide)
theorem len_law_take : ∀ vs H Q E, sp_law_take K vs H Q E → vs.length = (["box", "many"] : List Str).length := fun _ _ _ _ ⟨_, _, _, h, _⟩ => by rw [h]; rfl
theorem pure_law_take (h : sp_law_take K vs H Q E) : t_law_take K { nx := fun _ H' => Q .non H', rt := Q } (start ["box", "many", "digit", "number"] vs) H := by
  obtain ⟨p, m, n, rfl, ⟨a, b, c, hp, hb0, hb1, hc0, hc1⟩, hn, hm, hml, k⟩ := h
  show t_law_take K _ [some (.ref p), some (.int m), none, none] H
  unfold t_law_take
  walk_at "go"
  refine ite2 (fun ca => ?_) (fun ca => ?_)
  · walk_at "go"
    refine s_modI hm ?_
    walk_at "go"
    refine s_divI ⟨hm, hml⟩ ?_
    walk_at "go"
    refine k _ _ but_upd ⟨_, _, _, upd_same, hb0, hb1, hc0, ?_⟩ (Int.emod_nonneg _ (by omega)) (Int.emod_lt_of_pos _ hm)
    omega
  · walk_at "go"
    refine s_mulI (wide_mul (a := 13) (b := 34) (by decide) (by omega) (by decide) (by decide) (by decide)) ?_
    walk_at "go"
    refine s_powI ⟨by decide, by decide, by omega⟩ ?_
    walk_at "go"
    refine s_modI (by decide) ?_
    walk_at "go"
    refine s_mulI (wide_mul (a := 17) (b := 34) (by decide) (by omega) (by decide) (by decide) (by decide)) ?_
    walk_at "go"
    have q0 : 0 ≤ (b + 7919 * (c + 1) + 43) ^ (5 : Int).toNat % 2147483647 := Int.emod_nonneg _ (by decide)
    have q1 : (b + 7919 * (c + 1) + 43) ^ (5 : Int).toNat % 2147483647 < 2147483647 := Int.emod_lt_of_pos _ (by decide)
    generalize (b + 7919 * (c + 1) + 43) ^ (5 : Int).toNat % 2147483647 = u at q0 q1 ⊢
    refine s_powI ⟨by decide, by decide, by omega⟩ ?_
    walk_at "go"
    refine s_modI (by decide) ?_
    walk_at "go"
    refine s_divI ⟨by decide, by decide⟩ ?_
    walk_at "go"
    refine s_modI hm ?_
    refine k _ _ but_upd ⟨_, _, _, upd_same, hb0, hb1, by omega, by omega⟩ (Int.emod_nonneg _ (by omega)) (Int.emod_lt_of_pos _ hm)
end
/-- a draw, for use -/
theorem u_take {K : PySem.W.Frag} {p : Addr} {m : Int} {n : Nat} {H : Hp} {Q : VK} {E : XK} (B : Bx H p n) (hn : n < 4294967296) (hm : 0 < m) (hl : m.natAbs.log2 < 9000)
    (k : ∀ (d : Int) (H' : Hp), But p H H' → Bx H' p (n + 1) → 0 ≤ d → d < m → Q (.int d) H') : sp_law_take K [.ref p, .int m] H Q E := ⟨p, m, n, rfl, B, hn, hm, hl, k⟩
end Z

namespace Z
open PySem PySem.Spec PyProof.Rows L2 Evl
def one (c : Nat) : Str := ⟨#[c]⟩
theorem ones_of {R : Nat → Prop} : ∀ {ys : List V}, (∀ y ∈ ys, ∃ c, y = .str (one c) ∧ R c) → ∃ cs : List Nat, ys = (cs.map one).map V.str ∧ (∀ c ∈ cs, R c) ∧ cs.length = ys.length
  | [], _ => ⟨[], rfl, (fun _ h => by cases h), rfl⟩
  | y :: ys, h => by
    obtain ⟨c, rfl, hc⟩ := h y (by simp)
    obtain ⟨cs, e, hr, hl⟩ := ones_of (ys := ys) fun z hz => h z (by simp [hz])
    refine ⟨c :: cs, by rw [e]; rfl, fun d hd => ?_, by simp [hl]⟩
    rcases List.mem_cons.mp hd with rfl | hd
    · exact hc
    · exact hr d hd
theorem sum_ones : ∀ cs : List Nat, ((cs.map one).map (·.length)).sum = cs.length
  | [] => rfl
  | c :: cs => by
    have e := sum_ones cs
    show (one c).length + ((cs.map one).map (·.length)).sum = cs.length + 1
    rw [e]
    show 1 + cs.length = cs.length + 1
    omega
section
variable {K : PySem.W.Frag} {σ : L2.St} {H : Hp} {Q : VK}
theorem s_joinOnes {p : Addr} {cs : List Nat} (h : H p = some (.lst ((cs.map one).map V.str))) (hl : cs.length ≤ 10000) (q : Q (.str ⟨cs.toArray⟩) H) : rJoinA K (.str ("" : Str)) [.ref p] H Q := by
  refine ⟨_, p, cs.map one, rfl, rfl, .inl (SqL.of h), ?_, ?_⟩
  · rw [sum_ones]
    show cs.length + (cs.map one).length * 0 ≤ 16777216
    omega
  · have e : Txt.join ("" : Str) (cs.map one) = ⟨cs.toArray⟩ := by
      show PySem.Builtin.Str.glued _ _ = _
      rw [PySem.StrLaws.glued_eq_join]
      exact join_ones cs
    rw [e]
    exact q
theorem s_bm {T : String} {r : V → List V → Hp → VK → Prop} {to : TE} {t : TA} (h : to σ H fun x H1 => tyV K T x H1 ∧ t σ H1 fun xs H2 => r x xs H2 Q) : tBM K T r to t σ H Q := h
theorem s_bm0 {T : String} {r : V → List V → Hp → VK → Prop} {to : TE} (h : to σ H fun x H1 => tyV K T x H1 ∧ r x [] H1 Q) : tBM0 K T r to σ H Q := h
theorem s_tyS {z : Str} {A : Prop} (h : A) : tyV K "str" (.str z) H ∧ A := ⟨rfl, h⟩
/-- a comprehension over a range whose element draws from the box at p, at most c draws an element -/
theorem lc_box {p : Addr} {n1 : Nat} {i : Nat} {te : TE} {wi : TI} (c mx : Nat) (P : V → Prop) (M : Nat → Prop) (hmx : ∀ m, M m → m ≤ mx) (hs : mx < sizeLine)
    (hw : ∀ R : It → Hp → Prop, (∀ m H1, But p H H1 → Bx H1 p n1 → M m → R (Itr 0 m) H1) → wi σ H R)
    (he : ∀ (j m : Nat) (H1 : Hp), j < m → M m → But p H H1 → Bx H1 p (n1 + j * c) → ∀ R : VK, (∀ y H2, But p H1 H2 → Bx H2 p (n1 + (j + 1) * c) → P y → R y H2) → te ((wipe σ [i]).set i (some (.int (0 + (j : Int))))) H1 R)
    (q : ∀ (D : Addr) (H2 : Hp) (ys : List V), But p H H2 → Bx H2 p (n1 + mx * c) → D ≠ p → H2 D = some (.lst ys) → M ys.length → (∀ y ∈ ys, P y) → Q (.ref D) H2) :
    tLc wi (gName i) tYes te [i] σ H Q := by
  refine hw _ fun m H0 b0 B0 hm D hD => ?_
  have nD : D ≠ p := B0.ne hD
  refine lc_range (lo := 0) (n := m) (fun k H2 => But p H0 H2 ∧ Bx H2 p (n1 + k * c) ∧ ∃ ys, H2 D = some (.lst ys) ∧ ys.length = k ∧ ∀ y ∈ ys, P y) ⟨But.refl.new hD, by simpa using B0.ex (Ex.new hD), [], upd_same, rfl, fun _ h => nomatch h⟩ ?_ ?_
  · rintro k H2 hk ⟨b, B2, ys, hy, hl, hp⟩
    refine ⟨?_, ?_⟩
    · show ((wipe σ [i]).set i (some (.int (0 + (k : Int))))).set i none = wipe σ [i]
      unfold wipe
      simp [wipe]
    · refine he k m H2 hk hm (b0.trans b) B2 _ fun y H3 b3 B3 py => ?_
      refine ⟨ys, b3 _ _ hy nD, ?_, fun a o h n => ?_, ?_, ys ++ [y], upd_same, by simp [hl], ?_⟩
      · have := hmx m hm
        omega
      · rw [upd_ne (ne_of_none h hD)]
        exact b3 _ _ (b _ _ h n) n
      · obtain ⟨x1, x2, x3, e1, e2⟩ := B3
        refine ⟨x1, x2, x3, ?_, e2⟩
        rw [upd_ne nD.symm]
        exact e1
      · intro z hz
        rcases List.mem_append.mp hz with hz | hz
        · exact hp z hz
        · rw [List.mem_singleton.mp hz]
          exact py
  · rintro H2 ⟨b, B2, ys, hy, hl, hp⟩
    subst hl
    refine q D H2 ys (b0.trans b) (B2.mono ?_) nD hy hm hp
    have := Nat.mul_le_mul_right c (hmx _ hm)
    omega
theorem iRng1_of {ta : TA} {R : It → Hp → Prop} (h : ta σ H fun vs H1 => ∃ j : Int, vs = [.int j] ∧ -(2 ^ 62) ≤ j ∧ j < 2 ^ 62 ∧ R (Itr 0 j.toNat) H1) : iRng1 ta σ H R := h
end
section
variable (K : PySem.W.Frag) (vs : List V) (H : Hp) (Q : VK) (E : XK)
theorem len_law_word : ∀ vs H Q E, sp_law_word K vs H Q E → vs.length = (["box"] : List Str).length := fun _ _ _ _ ⟨_, _, h, _⟩ => by rw [h]; rfl
theorem pure_law_word (h : sp_law_word K vs H Q E) : t_law_word K { nx := fun _ H' => Q .non H', rt := Q } (start ["box", "word", "at", "k"] vs) H := by
  obtain ⟨p, n, rfl, B, hn, k⟩ := h
  show t_law_word K _ [some (.ref p), none, none, none] H
  unfold t_law_word
  walk_at "go"
  refine s_bm ?_
  walk_at "go"
  refine s_tyS ?_
  walk_at "go"
  refine lc_box (p := p) (n1 := n + 1) 1 9 (fun y => ∃ c, y = .str (one c) ∧ True) (fun m => m ≤ 9) (fun _ h => h) (by rw [sizeLine_eq]; decide) (fun R r => iRng1_of ?_) (fun j m H2 hj hm b2 B2 R r => ?_) fun D H2 ys b2 B2 nD hy hl hp => ?_
  · walk_at "go"
    refine u_take B (by omega) (by decide) (by decide +kernel) fun d H1 b1 B1 d0 d1 => ?_
    walk_at "go"
    exact ⟨d, rfl, by omega, by omega, r _ _ b1 B1 (by omega)⟩
  · walk_at "go"
    refine u_take B2 (by omega) (by decide) (by decide +kernel) fun e H3 b3 B3 e0 e1 => ?_
    refine s_menuS (by decide) e0 e1 fun c _ => ?_
    exact r _ _ b3 (B3.mono (by omega)) ⟨c, rfl, trivial⟩
  · walk_at "go"
    obtain ⟨cs, rfl, _, hcl⟩ := ones_of hp
    refine s_joinOnes hy (by omega) ?_
    walk_at "go"
    have hcl9 : cs.length ≤ 9 := by omega
    refine s_cut (fun σ' H3 => ∃ (z : Str) (a : Option V), σ' = [some (.ref p), some (.str z), a, none] ∧ But p H H3 ∧ Bx H3 p (n + 13) ∧ z.length ≤ 20) ?_ ?_
    · walk_at "go"
      refine u_take B2 (by omega) (by decide) (by decide +kernel) fun e H3 b3 B3 e0 e1 => ?_
      walk_at "go"
      refine ite2 (fun c => ?_) (fun c => ?_)
      · walk_at "go"
        refine s_lenS (by show cs.toArray.size ≤ sizeLine; rw [sizeLine_eq]; simp; omega) ?_
        walk_at "go"
        have hz : (⟨cs.toArray⟩ : Str).length = cs.length := by show cs.toArray.size = cs.length; simp
        refine u_take B3 (by omega) (by omega) (by
          rw [hz]
          have : ((cs.length : Int) + 1).natAbs < 2 ^ 10 := by omega
          have := PySem.Flt.log2_lt_of (by decide) this
          omega) fun t H4 b4 B4 t0 t1 => ?_
        walk_at "go"
        refine s_slS (by rw [hz, sizeLine_eq]; omega) ?_
        walk_at "go"
        refine u_take B4 (by omega) (by decide) (by decide +kernel) fun u H5 b5 B5 u0 u1 => ?_
        refine s_menuS (by decide) u0 u1 fun x _ => ?_
        have h1 := cutS_length ⟨cs.toArray⟩ none (some t)
        have h2 := cutS_length ⟨cs.toArray⟩ (some t) none
        rw [hz] at h1 h2
        refine s_addS (by show (cutS _ _ _).length + 1 ≤ sizeLine; rw [sizeLine_eq]; omega) ?_
        walk_at "go"
        refine s_slS (by rw [hz, sizeLine_eq]; omega) ?_
        have h3 : (cutS ⟨cs.toArray⟩ none (some t) ++ (⟨#[x]⟩ : Str)).length = (cutS ⟨cs.toArray⟩ none (some t)).length + 1 := by
          rw [Str.length_append]
          rfl
        refine s_addS (by rw [h3, sizeLine_eq]; omega) ?_
        walk_at "go"
        refine ⟨_, some (.int t), rfl, ((b2.trans b3).trans b4).trans b5, B5.mono (by omega), ?_⟩
        rw [Str.length_append, h3]
        omega
      · walk_at "go"
        refine ⟨_, none, rfl, b2.trans b3, B3.mono (by omega), ?_⟩
        show cs.toArray.size ≤ 20
        simp
        omega
    · rintro σ' H3 ⟨z, a, rfl, b3, B3, hz⟩
      walk_at "go"
      refine ⟨by show 6 ≤ sizeLine; decide, fun q hq => ?_⟩
      walk_at "go"
      refine u_take (B3.ex (Ex.new hq)) (by omega) (by decide) (by decide +kernel) fun e H4 b4 B4 e0 e1 => ?_
      refine s_menuL (b4 _ _ upd_same (B3.ne hq)) e0 e1 fun v hv => ?_
      have kk : ∀ y : Str, y.length ≤ 100 → Q (.str y) H4 := fun y hy => k y H4 ((b3.new hq).trans b4) (B4.mono (by omega)) hy
      simp only [List.mem_cons, List.mem_nil_iff, or_false] at hv
      rcases hv with rfl | rfl | rfl | rfl | rfl | rfl
      · exact kk z (by omega)
      all_goals exact kk _ (by decide)
end
end Z

namespace Z
open PySem PySem.Spec PyProof.Rows L2 Evl
section
variable (K : PySem.W.Frag) (vs : List V) (H : Hp) (Q : VK) (E : XK)
theorem len_law_limit : ∀ vs H Q E, sp_law_limit K vs H Q E → vs.length = (["box"] : List Str).length := fun _ _ _ _ ⟨_, _, h, _⟩ => by rw [h]; rfl
theorem pure_law_limit (h : sp_law_limit K vs H Q E) : t_law_limit K { nx := fun _ H' => Q .non H', rt := Q } (start ["box", "low"] vs) H := by
  obtain ⟨p, n, rfl, B, hn, k⟩ := h
  show t_law_limit K _ [some (.ref p), none] H
  unfold t_law_limit
  walk_at "go"
  refine u_take B (by omega) (by decide) (by decide +kernel) fun d H1 b1 B1 d0 d1 => ?_
  walk_at "go"
  refine s_mulI (wide_mul (a := 5) (b := 100) (by omega) (by decide) (by decide) (by decide) (by decide)) ?_
  walk_at "go"
  refine ⟨by show 1 ≤ sizeLine; decide, fun t ht => ?_⟩
  walk_at "go"
  refine ⟨by show 7 ≤ sizeLine; decide, fun q hq => ?_⟩
  have Bt := B1.ex (Ex.new (o := HO.tup [V.int 1]) ht)
  walk_at "go"
  refine u_take (Bt.ex (Ex.new hq)) (by omega) (by decide) (by decide +kernel) fun e H4 b4 B4 e0 e1 => ?_
  refine s_menuL (b4 _ _ upd_same (Bt.ne hq)) e0 e1 fun v hv => ?_
  have hT : H4 t = some (.tup [V.int 1]) := b4 _ _ (look_new upd_same hq) (B1.ne ht)
  have bb : But p H H4 := ((b1.new ht).new hq).trans b4
  have B5 : Bx H4 p (n + 2) := B4.mono (by omega)
  simp only [List.mem_cons, List.mem_nil_iff, or_false] at hv
  rcases hv with rfl | rfl | rfl | rfl | rfl | rfl | rfl
  · exact k _ (.sc .non) H4 bb B5 ⟨rfl, rfl⟩ (fun _ h => nomatch h)
  · exact k _ (.sc _) H4 bb B5 ⟨rfl, rfl⟩ (fun _ h => nomatch h)
  · exact k _ (.sc _) H4 bb B5 ⟨rfl, rfl⟩ (fun _ h => nomatch h)
  · exact k _ (.sc _) H4 bb B5 ⟨rfl, rfl⟩ (fun _ h => nomatch h)
  · exact k _ (.sc _) H4 bb B5 ⟨rfl, rfl⟩ (fun _ h => nomatch h)
  · exact k _ (.sc _) H4 bb B5 ⟨rfl, rfl⟩ (fun _ h => nomatch h)
  · exact k _ (.tup [V.int 1]) H4 bb B5 ⟨t, rfl, hT⟩ (fun _ h => nomatch h)
theorem mulOk_small {z : Str} {n : Int} (h1 : 1 < n) (h2 : n ≤ 1000) (hz : z.length = 1) : MulOk z n := by
  refine ⟨by simp; omega, fun _ _ => ?_, fun _ _ => ?_⟩
  · rw [hz]
    have : (2 ^ 63 - 1 : Int) / n ≥ 1 := by
      have := Int.le_ediv_of_mul_le (a := 1) (b := (2 ^ 63 - 1 : Int)) (c := n) (by omega) (by omega)
      omega
    omega
  · rw [hz]
    unfold PySem.Builtin.Str.tooLong
    simp [sizeLine_eq]
    omega
end
section
variable {K : PySem.W.Frag} {σ : L2.St} {H : Hp} {Q : VK}
theorem s_disp1 {i : Int} {v : V} (q : ∀ p, H p = none → Q (.ref p) (upd H p (.dK [(Sum.inl i, v)]))) : tDisp [(tC (.int i), tC v)] σ H Q := fun p hp =>
  ⟨upd_same, [(Sum.inl i, v)], rfl, by show 1 ≤ 15; decide, by
    rw [upd_upd]
    exact q p hp⟩
end
end Z

namespace Z
open PySem PySem.Spec PyProof.Rows L2 Evl
section
variable (K : PySem.W.Frag) (vs : List V) (H : Hp) (Q : VK) (E : XK)
theorem u_limit {p : Addr} {n : Nat} {H : Hp} {Q : VK} {E : XK} (B : Bx H p n) (hn : n ≤ 100000) (k : ∀ (v : V) (d : Kd) (H' : Hp), But p H H' → Bx H' p (n + 2) → Is H' v d → (∀ xs, d ≠ .lst xs) → Q v H') : sp_law_limit K [.ref p] H Q E := ⟨p, n, rfl, B, hn, k⟩
theorem len_law_value : ∀ vs H Q E, sp_law_value K vs H Q E → vs.length = (["box"] : List Str).length := fun _ _ _ _ ⟨_, _, h, _⟩ => by rw [h]; rfl
theorem deep2 {H : Hp} {a b : V} (ha : ∃ e, Is H a e) (hb : ∃ e, Is H b e) : Deep H (.tup [a, b]) := by
  intro x hx
  rcases List.mem_cons.mp hx with rfl | hx
  · exact ha
  · rcases List.mem_cons.mp hx with rfl | hx
    · exact hb
    · cases hx
theorem isSc_ex {H : Hp} {v : V} (h : isSc v = true) : ∃ e, Is H v e := ⟨.sc v, rfl, h⟩
theorem deepSc {H : Hp} {xs : List V} (h : xs.all isSc = true) : Deep H (.tup xs) := fun x hx => isSc_ex (List.all_eq_true.mp h x hx)
theorem pure_law_value (h : sp_law_value K vs H Q E) : t_law_value K { nx := fun _ H' => Q .non H', rt := Q } (start ["box", "way"] vs) H := by
  obtain ⟨p, n, rfl, B, hn, k⟩ := h
  show t_law_value K _ [some (.ref p), none] H
  unfold t_law_value
  walk_at "go"
  refine u_take B (by omega) (by decide) (by decide +kernel) fun w H1 b1 B1 w0 w1 => ?_
  walk_at "go"
  refine ite2 (fun c => ?_) (fun c => ?_)
  · walk_at "go"
    exact ⟨p, n + 1, rfl, B1, by omega, fun z H2 b2 B2 hz => k _ (.sc _) H2 (b1.trans b2) (B2.mono (by omega)) ⟨rfl, rfl⟩ trivial (by show z.length ≤ 1000; omega)⟩
  · walk_at "go"
    refine ite2 (fun c => ?_) (fun c => ?_)
    · walk_at "go"
      refine u_limit K B1 (by omega) fun a da H2 b2 B2 ia na => ?_
      walk_at "go"
      refine u_limit K B2 (by omega) fun b db H3 b3 B3 ib nb => ?_
      walk_at "go"
      walk_at "al"
      intro t ht
      have ia3 := ia.but B2 b3 na
      exact k _ (.tup [a, b]) _ (((b1.trans b2).trans b3).new ht) ((B3.ex (Ex.new ht)).mono (by omega)) ⟨t, rfl, upd_same⟩ (deep2 ⟨_, ia3.ex (Ex.new ht)⟩ ⟨_, ib.ex (Ex.new ht)⟩) trivial
    · walk_at "go"
      refine ite2 (fun c => ?_) (fun c => ?_)
      · walk_at "go"
        walk_at "al"
        intro t1 h1
        walk_at "go"
        walk_at "al"
        intro t2 h2
        walk_at "go"
        walk_at "al"
        intro t3 h3
        walk_at "go"
        walk_at "al"
        intro t4 h4
        walk_at "go"
        walk_at "al"
        intro t5 h5
        walk_at "go"
        walk_at "al"
        intro t6 h6
        walk_at "go"
        walk_at "al"
        intro t7 h7
        walk_at "go"
        walk_at "al"
        intro t8 h8
        walk_at "go"
        refine s_disp1 fun t9 h9 => ?_
        walk_at "go"
        walk_at "al"
        intro q hq
        walk_at "go"
        refine u_take (n := n + 1) (by walk_at "bx") (by omega) (by decide) (by decide +kernel) fun e H4 b4 B4 e0 e1 => ?_
        walk_at "menu"
        intro v hv
        have kk : ∀ v d, Is H4 v d → Deep H4 d → smallV v → Q v H4 := fun v d i1 i2 i3 => k v d H4 (((((((((((b1.new h1).new h2).new h3).new h4).new h5).new h6).new h7).new h8).new h9).new hq).trans b4) (B4.mono (by omega)) i1 i2 i3
        simp only [List.mem_cons, List.mem_nil_iff, or_false] at hv
        rcases hv with rfl | rfl | rfl | rfl | rfl | rfl | rfl | rfl | rfl
        · exact kk _ (.tup []) ⟨t1, rfl, by walk_at "look"⟩ (deepSc rfl) trivial
        · exact kk _ (.tup _) ⟨t2, rfl, by walk_at "look"⟩ (deepSc rfl) trivial
        · exact kk _ (.tup _) ⟨t3, rfl, by walk_at "look"⟩ (deepSc rfl) trivial
        · exact kk _ (.lst _) ⟨t4, rfl, by walk_at "look"⟩ trivial trivial
        · exact kk _ (.tup _) ⟨t5, rfl, by walk_at "look"⟩ (deepSc rfl) trivial
        · exact kk _ (.tup _) ⟨t6, rfl, by walk_at "look"⟩ (deepSc rfl) trivial
        · exact kk _ (.tup _) ⟨t7, rfl, by walk_at "look"⟩ (deepSc rfl) trivial
        · exact kk _ (.tup _) ⟨t8, rfl, by walk_at "look"⟩ (deepSc rfl) trivial
        · exact kk _ (.dct _) ⟨t9, rfl, by walk_at "look"⟩ trivial trivial
      · walk_at "go"
        walk_at "al"
        intro t1 h1
        walk_at "go"
        refine s_mulS (mulOk_small (by decide) (by decide) rfl) ?_
        walk_at "go"
        refine s_mulS (mulOk_small (by decide) (by decide) rfl) ?_
        walk_at "go"
        walk_at "al"
        intro q hq
        walk_at "go"
        refine u_take (n := n + 1) (by walk_at "bx") (by omega) (by decide) (by decide +kernel) fun e H4 b4 B4 e0 e1 => ?_
        walk_at "menu"
        intro v hv
        have kk : ∀ v d, Is H4 v d → Deep H4 d → smallV v → Q v H4 := fun v d i1 i2 i3 => k v d H4 (((b1.new h1).new hq).trans b4) (B4.mono (by omega)) i1 i2 i3
        simp only [List.mem_cons, List.mem_nil_iff, or_false] at hv
        rcases hv with rfl | rfl | rfl | rfl | rfl | rfl | rfl | rfl | rfl | rfl | rfl | rfl
        · exact kk _ (.sc _) ⟨rfl, rfl⟩ trivial trivial
        · exact kk _ (.sc _) ⟨rfl, rfl⟩ trivial trivial
        · exact kk _ (.sc _) ⟨rfl, rfl⟩ trivial trivial
        · exact kk _ (.sc _) ⟨rfl, rfl⟩ trivial trivial
        · exact kk _ (.sc _) ⟨rfl, rfl⟩ trivial trivial
        · exact kk _ (.sc _) ⟨rfl, rfl⟩ trivial trivial
        · exact kk _ (.lst _) ⟨t1, rfl, by walk_at "look"⟩ trivial trivial
        · exact kk _ (.sc _) ⟨rfl, rfl⟩ trivial (by show _ ≤ 1000; decide)
        · exact kk _ (.sc _) ⟨rfl, rfl⟩ trivial (by show _ ≤ 1000; decide)
        · exact kk _ (.sc _) ⟨rfl, rfl⟩ trivial (by show _ ≤ 1000; decide)
        · exact kk _ (.sc _) ⟨rfl, rfl⟩ trivial (by show _ ≤ 1000; decide +kernel)
        · exact kk _ (.sc _) ⟨rfl, rfl⟩ trivial (by show _ ≤ 1000; decide +kernel)
end
end Z

namespace Z
open PySem PySem.Spec PyProof.Rows L2 Evl
theorem letters_small : ∀ c ∈ letters, c < 128 := by decide +kernel
theorem up_letters : ∀ c ∈ letters, up1 c ∉ letters := by decide +kernel
theorem nm_upper {cs : List Nat} (h : ∀ c ∈ cs, c ∈ letters) (h1 : 1 ≤ cs.length) : nmS (Txt.upper ⟨cs.toArray⟩) = false := by
  rw [upper_ascii (fun c hc => letters_small c (h c (by simpa using hc)))]
  cases cs with
  | nil => simp at h1
  | cons c cs =>
    have hc := up_letters c (h c (by simp))
    simp [nmS, hc]
theorem upper_len {cs : List Nat} (h : ∀ c ∈ cs, c ∈ letters) : (Txt.upper ⟨cs.toArray⟩).length = cs.length := by
  rw [upper_ascii (fun c hc => letters_small c (h c (by simpa using hc)))]
  show (cs.toArray.map up1).size = _
  simp
section
variable {K : PySem.W.Frag} {σ : L2.St} {H : Hp} {Q : VK}
theorem u_isint {v : V} {E : XK} {b : Bool} (d : Kd) (h : Is H v d) (e : isIV v = b) (q : Q (.bl b) H) : sp_is_integer K [v] H Q E := ⟨v, d, rfl, h, by rw [e]; exact q⟩
theorem u_isname {v : V} {E : XK} {b : Bool} (d : Kd) (h : Is H v d) (hs : smallV v) (e : nmV v = b) (q : ∀ H', Ex H H' → Q (.bl b) H') : sp_is_name K [v] H Q E := ⟨v, d, rfl, h, hs, by rw [e]; exact q⟩
theorem u_isspan {v : V} {E : XK} {b : Bool} (d : Kd) (h : Is H v d) (hd : Deep H d) (e : spD d = b) (q : Q (.bl b) H) : sp_is_span K [v] H Q E := ⟨v, d, rfl, h, hd, by rw [e]; exact q⟩
/-- [one for one in xs if one is not b], of truths -/
theorem lc_notB {a : Addr} {bs : List Bool} {i j : Nat} {b : Bool} (ha : H a = some (.lst (bs.map V.bl))) (hσ : σ[j]? = some (some (.ref a))) (hi : i < σ.length) (hl : bs.length ≤ 1000)
    (q : ∀ D H2, H D = none → Ex H H2 → H2 D = some (.lst ((bs.filter fun x => !decide (x = b)).map V.bl)) → Q (.ref D) H2) : tLc (iAny K (tVar j)) (gName i) (tTest (tOp rNotA (tVar i) (tC (.bl b)))) (tVar i) [i] σ H Q := by
  have hw : (wipe σ [i]).length = σ.length := wipe_length _ _
  refine lc_pure (walk_list (K := K) (a := a) (xs := bs.map V.bl)) (fun x => !decide (x = .bl b)) (fun x => x) (fun R r => iAny_lst ⟨_, hσ, a, rfl, ⟨_, SqL.of ha⟩, r⟩) (fun H' e => SqL.of (e _ _ ha)) ?_ (fun x hx => ?_) (fun x hx _ => ?_) fun D H2 hD e hl => ?_
  · rw [List.length_map, sizeLine_eq]
    omega
  · obtain ⟨c, hc, rfl⟩ := List.mem_map.mp hx
    intro H1 e1 R r
    refine s_test (s_op ⟨_, by rw [List.getElem?_set_self (by rw [hw]; exact hi)], s_c (s_notB (s_bl ?_))⟩)
    have e2 : (!decide (c = b)) = !decide (V.bl c = V.bl b) := by cases c <;> cases b <;> rfl
    rw [e2]
    exact r _ (Ex.refl _)
  · intro H1 e1 R r
    exact ⟨_, by rw [List.getElem?_set_self (by rw [hw]; exact hi)], r _ (Ex.refl _)⟩
  · refine q D H2 hD e ?_
    rw [hl]
    have : ∀ l : List Bool, ((l.map V.bl).filter fun x => !decide (x = V.bl b)) = (l.filter fun x => !decide (x = b)).map V.bl := by
      intro l
      induction l with
      | nil => rfl
      | cons c l ih =>
        have e2 : (!decide (V.bl c = V.bl b)) = !decide (c = b) := by cases c <;> cases b <;> rfl
        simp only [List.map_cons, List.filter_cons, e2, ih]
        cases (!decide (c = b)) <;> rfl
    rw [List.map_id', this]
end
section
variable (K : PySem.W.Frag) (vs : List V) (H : Hp) (Q : VK) (E : XK)
theorem len_law_sure_right : ∀ vs H Q E, sp_law_sure_right K vs H Q E → vs.length = (["box"] : List Str).length := fun _ _ _ _ ⟨_, _, h, _⟩ => by rw [h]; rfl
theorem pure_law_sure_right (h : sp_law_sure_right K vs H Q E) : t_law_sure_right K { nx := fun _ H' => Q .non H', rt := Q } (start ["box", "number", "name", "high", "span", "told", "other", "k", "one"] vs) H := by
  obtain ⟨p, n, rfl, B, hn, k⟩ := h
  show t_law_sure_right K _ [some (.ref p), none, none, none, none, none, none, none, none] H
  unfold t_law_sure_right
  walk_at "go"
  refine u_take B (by omega) (by decide) (by decide +kernel) fun d H1 b1 B1 d0 d1 => ?_
  walk_at "go"
  refine s_mulI (wide_mul (a := 5) (b := 100) (by decide) (by decide) (by decide) (by decide) (by decide)) ?_
  walk_at "go"
  walk_at "al"
  intro q hq
  walk_at "go"
  refine u_take (n := n + 1) (by walk_at "bx") (by omega) (by decide) (by decide +kernel) fun e H2 b2 B2 e0 e1 => ?_
  walk_at "menu"
  intro v hv
  obtain ⟨m, rfl, hm⟩ : ∃ m : Int, v = .int m ∧ m.natAbs < 2 ^ 31 := by
    simp only [List.mem_cons, List.mem_nil_iff, or_false] at hv
    rcases hv with rfl | rfl
    · exact ⟨_, rfl, by decide⟩
    · exact ⟨_, rfl, by decide⟩
  have b12 := (b1.new (o := HO.lst [V.int 1, V.int (10 ^ (9 : Int).toNat)]) hq).trans b2
  refine s_mulI (wide_mul (a := 80) (b := 31) ?_ hm (by decide) (by decide) (by decide)) ?_
  · have h1 : d < 100000000000000000000 := d1
    have h2 : (5 * 10 ^ (19 : Int).toNat : Int) = 50000000000000000000 := by decide
    rw [h2]
    omega
  walk_at "go"
  generalize (d - 5 * 10 ^ (19 : Int).toNat) * m = N
  refine s_bm ?_
  walk_at "go"
  refine s_tyS ?_
  walk_at "go"
  refine lc_box (p := p) (n1 := n + 3) 1 8 (fun y => ∃ c, y = .str (one c) ∧ c ∈ letters) (fun m => 1 ≤ m ∧ m ≤ 8) (fun _ h => h.2) (by rw [sizeLine_eq]; decide) (fun R r => iRng1_of ?_) (fun j m H3 hj hm b3 B3 R r => ?_) fun D H3 ys b3 B3 nD hy hl hp => ?_
  · walk_at "go"
    refine u_take B2 (by omega) (by decide) (by decide +kernel) fun d H3 b3 B3 d0 d1 => ?_
    walk_at "go"
    exact ⟨_, rfl, by omega, by omega, r _ _ b3 B3 (by omega)⟩
  · walk_at "go"
    refine u_take B3 (by omega) (by decide) (by decide +kernel) fun e H4 b4 B4 e0 e1 => ?_
    refine s_menuS (by decide) e0 e1 fun c hc => ?_
    exact r _ _ b4 (B4.mono (by omega)) ⟨c, rfl, hc⟩
  have b13 := b12.trans b3
  clear b2 b12 b1 B B1 hq
  walk_at "go"
  obtain ⟨cs, rfl, hcs, hcl⟩ := ones_of hp
  have hc1 : 1 ≤ cs.length := by omega
  have hc8 : cs.length ≤ 8 := by omega
  refine s_joinOnes hy (by omega) ?_
  clear hy hp hl
  walk_at "go"
  refine ite_via (fun v H' => H' = H3 ∧ ∃ ds : List Nat, v = .str ⟨ds.toArray⟩ ∧ 1 ≤ ds.length ∧ ds.length ≤ 8 ∧ (∀ c ∈ ds, c ∈ letters) ∧ ¬ (⟨ds.toArray⟩ : Str) = ("table" : Str)) (fun c F f => ?_) (fun c F f => ?_) ?_
  · walk_at "go"
    exact f _ _ ⟨rfl, ("tables" : Str).cps.toList, rfl, by decide, by decide, by decide +kernel, by decide +kernel⟩
  · walk_at "go"
    exact f _ _ ⟨rfl, cs, rfl, hc1, hc8, hcs, by simpa using c⟩
  clear hcl hc1 hc8 hcs hm hv
  rintro _ _ ⟨rfl, ds, rfl, hc1, hc8, hcs, hnt⟩
  have hz : (⟨ds.toArray⟩ : Str).length = ds.length := by show ds.toArray.size = ds.length; simp
  have hnm : nmS ⟨ds.toArray⟩ = true := by
    have : ds.all (fun c => decide (c ∈ letters)) = true := List.all_eq_true.mpr fun c hc => decide_eq_true (hcs c hc)
    simp [nmS, hnt, hz, hc1, hc8]
    exact hcs
  have hup := nm_upper hcs hc1
  have hul := upper_len hcs
  generalize (⟨ds.toArray⟩ : Str) = Z0 at *
  walk_at "go"
  refine u_take B3 (by omega) (by decide) (by decide +kernel) fun h H4 b4 B4 h0 h1 => ?_
  walk_at "go"
  walk_at "al"
  intro t1 a1
  walk_at "go"
  walk_at "al"
  intro t2 a2
  walk_at "go"
  walk_at "al"
  intro t3 a3
  walk_at "go"
  walk_at "al"
  intro t4 a4
  walk_at "go"
  walk_at "al"
  intro q aq
  walk_at "go"
  refine u_take (n := n + 3 + 8 * 1 + 1) (by walk_at "bx") (by omega) (by decide) (by decide +kernel) fun e H5 b5 B5 e0 e1 => ?_
  walk_at "menu"
  intro v hv
  obtain ⟨t, xs, rfl, ht, hsp, hds⟩ : ∃ t xs, v = .ref t ∧ H5 t = some (.tup xs) ∧ spL xs = true ∧ xs.all isSc = true := by
    simp only [List.mem_cons, List.mem_nil_iff, or_false] at hv
    rcases hv with rfl | rfl | rfl | rfl
    · refine ⟨t1, _, rfl, by walk_at "look", ?_, rfl⟩
      simp [spL, limV]
      omega
    · exact ⟨t2, _, rfl, by walk_at "look", rfl, rfl⟩
    · exact ⟨t3, _, rfl, by walk_at "look", rfl, rfl⟩
    · exact ⟨t4, _, rfl, by walk_at "look", rfl, rfl⟩
  have b15 := ((((((b13.trans b4).new a1).new a2).new a3).new a4).new aq).trans b5
  clear hv b13 b4 b5 a1 a2 a3 a4 aq B4 b3 B3
  have dS : Deep H5 (.tup xs) := deepSc hds
  have hT : Is H5 (.ref t) (.tup xs) := ⟨t, rfl, ht⟩
  walk_at "go"
  have hZ : Z0.length ≤ 1000 := by omega
  refine u_isint (.sc _) ⟨rfl, rfl⟩ rfl ?_
  walk_at "go"
  refine u_isname (.sc _) ⟨rfl, rfl⟩ hZ hnm fun H6 e6 => ?_
  walk_at "go"
  refine u_isspan (.tup xs) (hT.ex e6) (dS.ex e6) hsp ?_
  walk_at "go"
  walk_at "al"
  intro p1 f1
  have hT1 := (hT.ex e6).ex (Ex.new (o := HO.lst [V.bl true, V.bl true, V.bl true]) f1)
  have dS1 := (dS.ex e6).ex (Ex.new (o := HO.lst [V.bl true, V.bl true, V.bl true]) f1)
  walk_at "go"
  refine u_isint (.sc _) ⟨rfl, rfl⟩ rfl ?_
  walk_at "go"
  refine u_isint (.tup xs) hT1 rfl ?_
  walk_at "go"
  refine u_isname (.sc _) ⟨rfl, rfl⟩ trivial rfl fun H7 e7 => ?_
  walk_at "go"
  refine u_isname (.tup xs) (hT1.ex e7) trivial rfl fun H8 e8 => ?_
  walk_at "go"
  refine u_isspan (.sc _) ⟨rfl, rfl⟩ trivial rfl ?_
  walk_at "go"
  refine u_isspan (.sc _) ⟨rfl, rfl⟩ trivial rfl ?_
  walk_at "go"
  walk_at "al"
  intro p2 f2
  walk_at "go"
  refine s_bm0 ?_
  walk_at "go"
  refine s_tyS ⟨_, rfl, rfl, by omega, ?_⟩
  walk_at "go"
  refine u_isname (.sc _) ⟨rfl, rfl⟩ (by show (Txt.upper Z0).length ≤ 1000; omega) hup fun H9 e9 => ?_
  walk_at "go"
  walk_at "al"
  intro t5 f5
  walk_at "go"
  refine u_isspan (.tup _) ⟨t5, rfl, upd_same⟩ (deepSc rfl) (b := false) ?_ ?_
  · simp [spD, spL, limV]
    omega
  walk_at "go"
  walk_at "al"
  intro t6 f6
  walk_at "go"
  refine u_isspan (.tup _) ⟨t6, rfl, upd_same⟩ (deepSc rfl) (b := false) ?_ ?_
  · simp [spD, spL, limV]
  walk_at "go"
  walk_at "al"
  intro p3 f3
  walk_at "go"
  refine s_addL (xs := [.bl false, .bl false, .bl false, .bl false, .bl false, .bl false]) (ys := [.bl false, .bl false, .bl false]) (by walk_at "look") (by walk_at "look") (by show 9 ≤ sizeLine; decide) fun p4 f4 => ?_
  walk_at "go"
  refine lc_notB (bs := [true, true, true]) (by walk_at "look") rfl (by show 8 < 9; decide) (by decide) fun D1 H10 g1 e10 hl1 => ?_
  walk_at "go"
  walk_at "al"
  intro n1 m1
  refine s_eqNil (xs := []) (by walk_at "look") (by walk_at "look") ?_
  walk_at "go"
  refine lc_notB (bs := [false, false, false, false, false, false, false, false, false]) (by walk_at "look") rfl (by show 8 < 9; decide) (by decide) fun D2 H11 g2 e11 hl2 => ?_
  walk_at "go"
  walk_at "al"
  intro n2 m2
  refine s_eqNil (xs := []) (by walk_at "look") (by walk_at "look") ?_
  refine k _ ?_
  walk_at "but"
end
end Z

namespace Z
open PySem PySem.Spec PyProof.Rows L2 Evl
section
variable {K : PySem.W.Frag} {σ : L2.St} {H : Hp} {Q : VK}
/-- [one for one in xs if not isinstance(one, bool)] of truths: empty -/
theorem lc_notBool {a : Addr} {bs : List Bool} {i j : Nat} (ha : H a = some (.lst (bs.map V.bl))) (hσ : σ[j]? = some (some (.ref a))) (hi : i < σ.length) (hl : bs.length ≤ 1000)
    (q : ∀ D H2, H D = none → Ex H H2 → H2 D = some (.lst []) → Q (.ref D) H2) : tLc (iAny K (tVar j)) (gName i) (tNot (tB (tCB (rIsi K) (tCons (tVar i) (tCons (tC (.ty "bool")) tNil))))) (tVar i) [i] σ H Q := by
  have hw : (wipe σ [i]).length = σ.length := wipe_length _ _
  refine lc_pure (walk_list (K := K) (a := a) (xs := bs.map V.bl)) (fun _ => false) (fun x => x) (fun R r => iAny_lst ⟨_, hσ, a, rfl, ⟨_, SqL.of ha⟩, r⟩) (fun H' e => SqL.of (e _ _ ha)) ?_ (fun x hx => ?_) (fun x hx h => absurd h Bool.false_ne_true) fun D H2 hD e hl => ?_
  · rw [List.length_map, sizeLine_eq]
    omega
  · obtain ⟨c, hc, rfl⟩ := List.mem_map.mp hx
    intro H1 e1 R r
    refine s_not (s_B (s_cb (s_cons ⟨_, by rw [List.getElem?_set_self (by rw [hw]; exact hi)], ?_⟩)))
    walk_at "go"
    refine s_isiT (d := .sc (.bl c)) kit_bool ⟨rfl, rfl⟩ ?_
    walk_at "go"
    exact r _ (Ex.refl _)
  · refine q D H2 hD e ?_
    rw [hl]
    simp
end
section
variable (K : PySem.W.Frag) (vs : List V) (H : Hp) (Q : VK) (E : XK)
theorem len_law : ∀ vs H Q E, sp_law K vs H Q E → vs.length = (["script"] : List Str).length := fun _ _ _ _ ⟨_, _, h, _⟩ => by rw [h]; rfl
theorem pure_law (h : sp_law K vs H Q E) : t_law K { nx := fun _ H' => Q .non H', rt := Q } (start ["script", "k", "box", "value", "told", "due", "one"] vs) H := by
  obtain ⟨a, ns, rfl, hs, hn, k⟩ := h
  show t_law K _ [some (.ref a), none, none, none, none, none, none] H
  unfold t_law
  walk_at "go"
  refine iRng1_of ?_
  walk_at "go"
  refine s_lenLK hs ?_
  walk_at "go"
  have hl : (ns.map V.int).length ≤ 63 := by rw [List.length_map]; exact hn
  generalize hM : (if (if ((ns.map V.int).length : Int) < 16 then ((ns.map V.int).length : Int) else 16) > 2 then (if ((ns.map V.int).length : Int) < 16 then ((ns.map V.int).length : Int) else 16) else 2) = M
  have hM0 : 0 ≤ M ∧ M ≤ 16 := by
    rw [← hM]
    split <;> split <;> omega
  refine ⟨M, rfl, by omega, by omega, ?_⟩
  refine for_range (lo := 0) (n := M.toNat) (fun i σ H2 => Ex H H2 ∧ ∃ v1 v2 v3 v4 v5 v6, σ = [some (.ref a), v1, v2, v3, v4, v5, v6]) ⟨Ex.refl _, _, _, _, _, _, _, rfl⟩ ?_ ?_
  · rintro i σ H2 hi ⟨e2, v1, v2, v3, v4, v5, v6, rfl⟩
    walk_at "go"
    refine ⟨a, ns, _, rfl, ex_l e2 hs, by omega, by omega, fun c => ?_⟩
    walk_at "go"
    refine ⟨_, rfl, fun p H3 hp e3 B3 => ?_⟩
    have hp0 : H p = none := fresh_back e2 hp
    walk_at "go"
    refine ⟨p, 0, rfl, B3, by omega, fun v d H4 b4 B4 hv dv sv => ?_⟩
    walk_at "go"
    refine u_isint d hv rfl ?_
    walk_at "go"
    refine u_isname d hv sv rfl fun H5 e5 => ?_
    walk_at "go"
    refine u_isspan d (hv.ex e5) (dv.ex e5) rfl ?_
    walk_at "go"
    walk_at "al"
    intro p1 f1
    have hv1 := (hv.ex e5).ex (Ex.new (o := HO.lst [V.bl (isIV v), V.bl (nmV v), V.bl (spD d)]) f1)
    have dv1 := (dv.ex e5).ex (Ex.new (o := HO.lst [V.bl (isIV v), V.bl (nmV v), V.bl (spD d)]) f1)
    walk_at "go"
    refine u_isint d hv1 rfl ?_
    walk_at "go"
    refine u_isname d hv1 sv rfl fun H6 e6 => ?_
    walk_at "go"
    refine ⟨v, d, rfl, hv1.ex e6, dv1.ex e6, fun H7 e7 => ?_⟩
    walk_at "go"
    walk_at "al"
    intro p2 f2
    walk_at "go"
    refine lc_notBool (bs := [isIV v, nmV v, spD d]) (by walk_at "look") rfl (by show 6 < 7; decide) (by show 3 ≤ 1000; decide) fun D1 H8 g1 e8 hl1 => ?_
    walk_at "go"
    walk_at "al"
    intro n1 m1
    refine s_neNil (xs := []) (by walk_at "look") (by walk_at "look") ?_
    walk_at "go"
    have q1 : upd H8 n1 (HO.lst []) p1 = some (.lst [V.bl (isIV v), V.bl (nmV v), V.bl (spD d)]) := by walk_at "look"
    have q2 : upd H8 n1 (HO.lst []) p2 = some (.lst [V.bl (isIV v), V.bl (nmV v), V.bl (spD d)]) := by walk_at "look"
    refine s_neG (b := true) (by
      have h3 := EqR.lst (K := K) (E := EqI K (upd H8 n1 (HO.lst [])) 60) (e := [_, _, _]) (SqL.of q1) (SqL.of q2) rfl (.cons (EqI.sc rfl) (.cons (EqI.sc rfl) (.cons (EqI.sc rfl) .nil)))
      simpa using h3) ?_
    walk_at "go"
    have b9 : But p H4 (upd H8 n1 (HO.lst [])) := by walk_at "but"
    refine ⟨p, 30, rfl, ?_, by omega, fun H9 b10 => ?_⟩
    · have : Ex H4 (upd H8 n1 (HO.lst [])) := by walk_at "ex"
      exact B4.ex this
    walk_at "go"
    refine ⟨?_, _, _, _, _, _, _, rfl⟩
    exact But.old hp0 (e2.trans e3) ((b4.trans b9).trans b10)
  · rintro σ H2 ⟨e2, v1, v2, v3, v4, v5, v6, rfl⟩
    walk_at "go"
    exact k _
end
end Z

namespace Z
open PySem PySem.Spec PyProof.Rows L2 Evl
/-! ### the text by places, derivations (gen.py) -/
def top (i : Nat) : Stmt := PySem.Challenge.pw_shiftparts_k01_kinds_of_values.main.body.getD i (.Pass ⟨0, 0, 0, 0⟩)
structure Txt (K : PySem.W.Frag) (mg : Str → Option Value) : Prop where
  b_all : mg "all" = none
  b_bool : mg "bool" = none
  b_int : mg "int" = none
  b_isinstance : mg "isinstance" = none
  b_len : mg "len" = none
  b_max : mg "max" = none
  b_min : mg "min" = none
  b_range : mg "range" = none
  b_str : mg "str" = none
  b_tuple : mg "tuple" = none
  c_LETTERS : ∃ t, mg "LETTERS" = some (.str "abcdefghijklmnopqrstuvwxyz" t)
  c_MOST_LETTERS : ∃ t, mg "MOST_LETTERS" = some (.int 8 t)
  c_TABLE : ∃ t, mg "TABLE" = some (.str "table" t)
section
variable {P : Program} {w : World} {K : PySem.W.Frag} {mg : Str → Option Value} {base : Heap}
abbrev s_is_integer : Stmt := top 4
theorem sc_is_integer : FnScope ["value"] ["value"] (defScope s_is_integer) := ⟨rfl, rfl, rfl, by decide +kernel, rfl, by decide +kernel, by decide +kernel⟩
theorem okf_is_integer {fd : FuncData} (T : Txt K mg) (F : FunD K "is_integer" "is_integer" (defArgs s_is_integer) (defBody s_is_integer) (defScope s_is_integer) [] [] (He.ga K "is_integer") fd)  : FnOk P w K mg base CX0 1 (He.ga K "is_integer") fd ["value"] (sp_is_integer K) := by
  have nd := sc_is_integer.nd
  refine F.ok (k := 0) sc_is_integer (len_is_integer K) (fun cdv A outer s H vs Q E hr h => ⟨t_is_integer K, PSs.nox ?_, pure_is_integer K vs H Q E h⟩)
  have hu : (A.deeper (envOfC "is_integer" (defScope s_is_integer) s.heap.objs.size (He.ga K "is_integer") cdv)).units + 64 < cLine := by
    have h1 := hr.un
    omega
  exact (pss_one (ps_ret ((pe_and (pe_callB call_isi (by rfl) T.b_isinstance (by decide +kernel) (pa_cons (pv 0) (pa_cons (pe_bltn (by rfl) T.b_int (by decide +kernel) rfl) pa_nil))) (pe_one (pe_not (pe_callB call_isi (by rfl) T.b_isinstance (by decide +kernel) (pa_cons (pv 0) (pa_cons (pe_bltn (by rfl) T.b_bool (by decide +kernel) rfl) pa_nil)))))))))
theorem ok_is_integer (T : Txt K mg) (FD : ∃ fd, FunD K "is_integer" "is_integer" (defArgs s_is_integer) (defBody s_is_integer) (defScope s_is_integer) [] [] (He.ga K "is_integer") fd) (hm : mg "is_integer" = some (.ref (He.ga K "is_integer")))  : Fok P w K mg base CX0 1 "is_integer" ["value"] (sp_is_integer K) := by
  obtain ⟨fd, F⟩ := FD
  exact ⟨⟨fd, okf_is_integer T F , F.bindsN fun _ _ _ _ _ _ us hl => match us, hl with | [_], _ => rfl⟩, hm, F.kp⟩
abbrev s_is_name : Stmt := top 5
theorem sc_is_name : FnScope ["value", "sign"] ["value"] (defScope s_is_name) := ⟨rfl, rfl, rfl, by decide +kernel, rfl, by decide +kernel, by decide +kernel⟩
theorem okf_is_name {fd : FuncData} (T : Txt K mg) (F : FunD K "is_name" "is_name" (defArgs s_is_name) (defBody s_is_name) (defScope s_is_name) [] [] (He.ga K "is_name") fd)  : FnOk P w K mg base CX0 1 (He.ga K "is_name") fd ["value"] (sp_is_name K) := by
  have nd := sc_is_name.nd
  refine F.ok (k := 0) sc_is_name (len_is_name K) (fun cdv A outer s H vs Q E hr h => ⟨t_is_name K, PSs.nox ?_, pure_is_name K vs H Q E h⟩)
  have hu : (A.deeper (envOfC "is_name" (defScope s_is_name) s.heap.objs.size (He.ga K "is_name") cdv)).units + 64 < cLine := by
    have h1 := hr.un
    omega
  exact (pss_cons (ps_if (PW.pt (pw_or (pt_not (pt_val (pe_callB call_isi (by rfl) T.b_isinstance (by decide +kernel) (pa_cons (pv 0) (pa_cons (pe_bltn (by rfl) T.b_str (by decide +kernel) rfl) pa_nil))))) (pw_or (pt_cmpR (op_eqA hu) (pv 0) (pe_gstr (by rfl) T.c_TABLE) (nomark _)) (pw_or1 (pt_not (pt_chain op_leA op_leA (pe_int) (pe_callB call_lenA (by rfl) T.b_len (by decide +kernel) (pa_cons (pv 0) pa_nil)) (pe_gint (by rfl) T.c_MOST_LETTERS))))))) (pss_one (ps_ret (pe_bl))) pss_nil)
    (pss_one (ps_ret (pe_callB (cr_all rfl) (by rfl) T.b_all (by decide +kernel) (pa_cons (pe_lc (own := [("sign", 1)]) rfl nd (pi_any (pv 0)) (blkOk_by (own := [("sign", 1)]) (N := ["value", "sign"]) (sc := defScope s_is_name) (by decide +kernel)) (fun _ _ _ _ _ => (pg_name (i := 1) nd (by rfl) (by first | exact Or.inl rfl | exact Or.inr rfl))) (fun _ _ _ _ _ => pts_nil) (fun _ _ _ _ _ => (pe_cmpR op_inA (pv 1) (pe_gstr (by rfl) T.c_LETTERS) (by rfl)))) pa_nil)))))
theorem ok_is_name (T : Txt K mg) (FD : ∃ fd, FunD K "is_name" "is_name" (defArgs s_is_name) (defBody s_is_name) (defScope s_is_name) [] [] (He.ga K "is_name") fd) (hm : mg "is_name" = some (.ref (He.ga K "is_name")))  : Fok P w K mg base CX0 1 "is_name" ["value"] (sp_is_name K) := by
  obtain ⟨fd, F⟩ := FD
  exact ⟨⟨fd, okf_is_name T F , F.bindsN fun _ _ _ _ _ _ us hl => match us, hl with | [_], _ => rfl⟩, hm, F.kp⟩
abbrev s_is_limit : Stmt := top 6
theorem sc_is_limit : FnScope ["value"] ["value"] (defScope s_is_limit) := ⟨rfl, rfl, rfl, by decide +kernel, rfl, by decide +kernel, by decide +kernel⟩
theorem okf_is_limit {fd : FuncData} (T : Txt K mg) (F : FunD K "is_limit" "is_limit" (defArgs s_is_limit) (defBody s_is_limit) (defScope s_is_limit) [] [] (He.ga K "is_limit") fd) (F_is_integer : Fok P w K mg base CX0 1 "is_integer" ["value"] (sp_is_integer K)) : FnOk P w K mg base CX0 2 (He.ga K "is_limit") fd ["value"] (sp_is_limit K) := by
  have nd := sc_is_limit.nd
  refine F.ok (k := 1) sc_is_limit (len_is_limit K) (fun cdv A outer s H vs Q E hr h => ⟨t_is_limit K, PSs.nox ?_, pure_is_limit K vs H Q E h⟩)
  have hu : (A.deeper (envOfC "is_limit" (defScope s_is_limit) s.heap.objs.size (He.ga K "is_limit") cdv)).units + 64 < cLine := by
    have h1 := hr.un
    omega
  exact (pss_one (ps_ret ((pe_or (pe_cmpR op_isA (pv 0) (pe_non) (nomark _)) (pe_one (pe_callF F_is_integer (hr.mono (by decide)) (by rfl) pass0 (pa_cons (pv 0) pa_nil)))))))
theorem ok_is_limit (T : Txt K mg) (FD : ∃ fd, FunD K "is_limit" "is_limit" (defArgs s_is_limit) (defBody s_is_limit) (defScope s_is_limit) [] [] (He.ga K "is_limit") fd) (hm : mg "is_limit" = some (.ref (He.ga K "is_limit"))) (F_is_integer : Fok P w K mg base CX0 1 "is_integer" ["value"] (sp_is_integer K)) : Fok P w K mg base CX0 2 "is_limit" ["value"] (sp_is_limit K) := by
  obtain ⟨fd, F⟩ := FD
  exact ⟨⟨fd, okf_is_limit T F F_is_integer, F.bindsN fun _ _ _ _ _ _ us hl => match us, hl with | [_], _ => rfl⟩, hm, F.kp⟩
abbrev s_is_span : Stmt := top 7
theorem sc_is_span : FnScope ["value", "low", "high"] ["value"] (defScope s_is_span) := ⟨rfl, rfl, rfl, by decide +kernel, rfl, by decide +kernel, by decide +kernel⟩
theorem okf_is_span {fd : FuncData} (T : Txt K mg) (F : FunD K "is_span" "is_span" (defArgs s_is_span) (defBody s_is_span) (defScope s_is_span) [] [] (He.ga K "is_span") fd) (F_is_limit : Fok P w K mg base CX0 2 "is_limit" ["value"] (sp_is_limit K)) : FnOk P w K mg base CX0 3 (He.ga K "is_span") fd ["value"] (sp_is_span K) := by
  have nd := sc_is_span.nd
  refine F.ok (k := 2) sc_is_span (len_is_span K) (fun cdv A outer s H vs Q E hr h => ⟨t_is_span K, PSs.nox ?_, pure_is_span K vs H Q E h⟩)
  have hu : (A.deeper (envOfC "is_span" (defScope s_is_span) s.heap.objs.size (He.ga K "is_span") cdv)).units + 64 < cLine := by
    have h1 := hr.un
    omega
  exact (pss_cons (ps_if (PW.pt (pw_or (pt_not (pt_val (pe_callB call_isi (by rfl) T.b_isinstance (by decide +kernel) (pa_cons (pv 0) (pa_cons (pe_bltn (by rfl) T.b_tuple (by decide +kernel) rfl) pa_nil))))) (pw_or1 (pt_cmpR (op_neA hu) (pe_callB call_lenA (by rfl) T.b_len (by decide +kernel) (pa_cons (pv 0) pa_nil)) (pe_int) (nomark _))))) (pss_one (ps_ret (pe_bl))) pss_nil)
    (pss_cons (ps_asg (pv 0) (pg_tup (by rfl) (pgs_cons (pg_name (i := 1) nd (by rfl) (by first | exact Or.inl rfl | exact Or.inr rfl)) (pgs_cons (pg_name (i := 2) nd (by rfl) (by first | exact Or.inl rfl | exact Or.inr rfl)) pgs_nil))))
    (pss_cons (ps_if (PW.pt (pw_or (pt_not (pt_val (pe_callF F_is_limit (hr.mono (by decide)) (by rfl) pass0 (pa_cons (pv 1) pa_nil)))) (pw_or1 (pt_not (pt_val (pe_callF F_is_limit (hr.mono (by decide)) (by rfl) pass0 (pa_cons (pv 2) pa_nil))))))) (pss_one (ps_ret (pe_bl))) pss_nil)
    (pss_one (ps_ret ((pe_or (pe_cmpR op_isA (pv 1) (pe_non) (nomark _)) (pe_or (pe_cmpR op_isA (pv 2) (pe_non) (nomark _)) (pe_one (pe_cmpR op_ltA (pv 1) (pv 2) (nomark _)))))))))))
theorem ok_is_span (T : Txt K mg) (FD : ∃ fd, FunD K "is_span" "is_span" (defArgs s_is_span) (defBody s_is_span) (defScope s_is_span) [] [] (He.ga K "is_span") fd) (hm : mg "is_span" = some (.ref (He.ga K "is_span"))) (F_is_limit : Fok P w K mg base CX0 2 "is_limit" ["value"] (sp_is_limit K)) : Fok P w K mg base CX0 3 "is_span" ["value"] (sp_is_span K) := by
  obtain ⟨fd, F⟩ := FD
  exact ⟨⟨fd, okf_is_span T F F_is_limit, F.bindsN fun _ _ _ _ _ _ us hl => match us, hl with | [_], _ => rfl⟩, hm, F.kp⟩
abbrev s_law_cell : Stmt := top 9
theorem sc_law_cell : FnScope ["script", "k"] ["script", "k"] (defScope s_law_cell) := ⟨rfl, rfl, rfl, by decide +kernel, rfl, by decide +kernel, by decide +kernel⟩
theorem okf_law_cell {fd : FuncData} (T : Txt K mg) (F : FunD K "_law_cell" "_law_cell" (defArgs s_law_cell) (defBody s_law_cell) (defScope s_law_cell) [] [] (He.ga K "_law_cell") fd)  : FnOk P w K mg base CX0 1 (He.ga K "_law_cell") fd ["script", "k"] (sp_law_cell K) := by
  have nd := sc_law_cell.nd
  refine F.ok (k := 0) sc_law_cell (len_law_cell K) (fun cdv A outer s H vs Q E hr h => ⟨t_law_cell K, PSs.nox ?_, pure_law_cell K vs H Q E h⟩)
  have hu : (A.deeper (envOfC "_law_cell" (defScope s_law_cell) s.heap.objs.size (He.ga K "_law_cell") cdv)).units + 64 < cLine := by
    have h1 := hr.un
    omega
  exact (pss_cons (ps_if (pt_cmpR op_ltA (pv 1) (pe_callB call_lenA (by rfl) T.b_len (by decide +kernel) (pa_cons (pv 0) pa_nil)) (nomark _)) (pss_one (ps_ret (pe_ix ix_seq (pv 0) (pv 1) (fun _ _ => rfl)))) pss_nil)
    (pss_one (ps_ret (pe_op op_addA (pe_op op_mulA (pe_int) (pv 1)) (pe_int)))))
theorem ok_law_cell (T : Txt K mg) (FD : ∃ fd, FunD K "_law_cell" "_law_cell" (defArgs s_law_cell) (defBody s_law_cell) (defScope s_law_cell) [] [] (He.ga K "_law_cell") fd) (hm : mg "_law_cell" = some (.ref (He.ga K "_law_cell")))  : Fok P w K mg base CX0 1 "_law_cell" ["script", "k"] (sp_law_cell K) := by
  obtain ⟨fd, F⟩ := FD
  exact ⟨⟨fd, okf_law_cell T F , F.bindsN fun _ _ _ _ _ _ us hl => match us, hl with | [_, _], _ => rfl⟩, hm, F.kp⟩
abbrev s_law_box : Stmt := top 10
theorem sc_law_box : FnScope ["cell"] ["cell"] (defScope s_law_box) := ⟨rfl, rfl, rfl, by decide +kernel, rfl, by decide +kernel, by decide +kernel⟩
theorem okf_law_box {fd : FuncData} (T : Txt K mg) (F : FunD K "_law_box" "_law_box" (defArgs s_law_box) (defBody s_law_box) (defScope s_law_box) [] [] (He.ga K "_law_box") fd)  : FnOk P w K mg base CX0 1 (He.ga K "_law_box") fd ["cell"] (sp_law_box K) := by
  have nd := sc_law_box.nd
  refine F.ok (k := 0) sc_law_box (len_law_box K) (fun cdv A outer s H vs Q E hr h => ⟨t_law_box K, PSs.nox ?_, pure_law_box K vs H Q E h⟩)
  have hu : (A.deeper (envOfC "_law_box" (defScope s_law_box) s.heap.objs.size (He.ga K "_law_box") cdv)).units + 64 < cLine := by
    have h1 := hr.un
    omega
  exact (pss_one (ps_ret (pe_lst (pa_cons (pe_callB (call_maxA rfl) (by rfl) T.b_max (by decide +kernel) (pa_cons (pe_int) (pa_cons (pe_op op_subA (pv 0) (pe_op op_powA (pe_int) (pe_int))) pa_nil))) (pa_cons (pe_op op_modA (pv 0) (pe_int)) (pa_cons (pe_int) pa_nil))))))
theorem ok_law_box (T : Txt K mg) (FD : ∃ fd, FunD K "_law_box" "_law_box" (defArgs s_law_box) (defBody s_law_box) (defScope s_law_box) [] [] (He.ga K "_law_box") fd) (hm : mg "_law_box" = some (.ref (He.ga K "_law_box")))  : Fok P w K mg base CX0 1 "_law_box" ["cell"] (sp_law_box K) := by
  obtain ⟨fd, F⟩ := FD
  exact ⟨⟨fd, okf_law_box T F , F.bindsN fun _ _ _ _ _ _ us hl => match us, hl with | [_], _ => rfl⟩, hm, F.kp⟩
abbrev s_law_take : Stmt := top 11
theorem sc_law_take : FnScope ["box", "many", "digit", "number"] ["box", "many"] (defScope s_law_take) := ⟨rfl, rfl, rfl, by decide +kernel, rfl, by decide +kernel, by decide +kernel⟩
theorem okf_law_take {fd : FuncData} (T : Txt K mg) (F : FunD K "_law_take" "_law_take" (defArgs s_law_take) (defBody s_law_take) (defScope s_law_take) [] [] (He.ga K "_law_take") fd)  : FnOk P w K mg base CX0 1 (He.ga K "_law_take") fd ["box", "many"] (sp_law_take K) := by
  have nd := sc_law_take.nd
  refine F.ok (k := 0) sc_law_take (len_law_take K) (fun cdv A outer s H vs Q E hr h => ⟨t_law_take K, PSs.nox ?_, pure_law_take K vs H Q E h⟩)
  have hu : (A.deeper (envOfC "_law_take" (defScope s_law_take) s.heap.objs.size (He.ga K "_law_take") cdv)).units + 64 < cLine := by
    have h1 := hr.un
    omega
  exact (pss_cons (ps_if (pt_cmpR op_gtA (pe_ix ix_seq (pv 0) (pe_int) (fun _ _ => rfl)) (pe_int) (nomark _)) (pss_cons (ps_set (i := 2) nd (by rfl) (Or.inl rfl) (pe_op op_modA (pe_ix ix_seq (pv 0) (pe_int) (fun _ _ => rfl)) (pv 1)))
    (pss_cons (ps_asg (pe_op op_divA (pe_ix ix_seq (pv 0) (pe_int) (fun _ _ => rfl)) (pv 1)) (pg_sub (pv 0) (pe_int) set_list))
    (pss_one (ps_ret (pv 2))))) pss_nil)
    (pss_cons (ps_asg (pe_op op_addA (pe_ix ix_seq (pv 0) (pe_int) (fun _ _ => rfl)) (pe_int)) (pg_sub (pv 0) (pe_int) set_list))
    (pss_cons (ps_set (i := 3) nd (by rfl) (Or.inl rfl) (pe_op op_modA (pe_op op_powA (pe_op op_addA (pe_op op_addA (pe_ix ix_seq (pv 0) (pe_int) (fun _ _ => rfl)) (pe_op op_mulA (pe_int) (pe_ix ix_seq (pv 0) (pe_int) (fun _ _ => rfl)))) (pe_int)) (pe_int)) (pe_int)))
    (pss_cons (ps_set (i := 3) nd (by rfl) (Or.inl rfl) (pe_op op_modA (pe_op op_powA (pe_op op_addA (pv 3) (pe_op op_mulA (pe_int) (pe_ix ix_seq (pv 0) (pe_int) (fun _ _ => rfl)))) (pe_int)) (pe_int)))
    (pss_one (ps_ret (pe_op op_modA (pe_op op_divA (pv 3) (pe_int)) (pv 1))))))))
theorem ok_law_take (T : Txt K mg) (FD : ∃ fd, FunD K "_law_take" "_law_take" (defArgs s_law_take) (defBody s_law_take) (defScope s_law_take) [] [] (He.ga K "_law_take") fd) (hm : mg "_law_take" = some (.ref (He.ga K "_law_take")))  : Fok P w K mg base CX0 1 "_law_take" ["box", "many"] (sp_law_take K) := by
  obtain ⟨fd, F⟩ := FD
  exact ⟨⟨fd, okf_law_take T F , F.bindsN fun _ _ _ _ _ _ us hl => match us, hl with | [_, _], _ => rfl⟩, hm, F.kp⟩
abbrev s_law_is_integer : Stmt := top 12
theorem sc_law_is_integer : FnScope ["value"] ["value"] (defScope s_law_is_integer) := ⟨rfl, rfl, rfl, by decide +kernel, rfl, by decide +kernel, by decide +kernel⟩
theorem okf_law_is_integer {fd : FuncData} (T : Txt K mg) (F : FunD K "_law_is_integer" "_law_is_integer" (defArgs s_law_is_integer) (defBody s_law_is_integer) (defScope s_law_is_integer) [] [] (He.ga K "_law_is_integer") fd)  : FnOk P w K mg base CX0 1 (He.ga K "_law_is_integer") fd ["value"] (sp_law_is_integer K) := by
  have nd := sc_law_is_integer.nd
  refine F.ok (k := 0) sc_law_is_integer (len_law_is_integer K) (fun cdv A outer s H vs Q E hr h => ⟨t_law_is_integer K, PSs.nox ?_, pure_law_is_integer K vs H Q E h⟩)
  have hu : (A.deeper (envOfC "_law_is_integer" (defScope s_law_is_integer) s.heap.objs.size (He.ga K "_law_is_integer") cdv)).units + 64 < cLine := by
    have h1 := hr.un
    omega
  exact (pss_one (ps_ret ((pe_and (pe_callB call_isi (by rfl) T.b_isinstance (by decide +kernel) (pa_cons (pv 0) (pa_cons (pe_bltn (by rfl) T.b_int (by decide +kernel) rfl) pa_nil))) (pe_one (pe_not (pe_callB call_isi (by rfl) T.b_isinstance (by decide +kernel) (pa_cons (pv 0) (pa_cons (pe_bltn (by rfl) T.b_bool (by decide +kernel) rfl) pa_nil)))))))))
theorem ok_law_is_integer (T : Txt K mg) (FD : ∃ fd, FunD K "_law_is_integer" "_law_is_integer" (defArgs s_law_is_integer) (defBody s_law_is_integer) (defScope s_law_is_integer) [] [] (He.ga K "_law_is_integer") fd) (hm : mg "_law_is_integer" = some (.ref (He.ga K "_law_is_integer")))  : Fok P w K mg base CX0 1 "_law_is_integer" ["value"] (sp_law_is_integer K) := by
  obtain ⟨fd, F⟩ := FD
  exact ⟨⟨fd, okf_law_is_integer T F , F.bindsN fun _ _ _ _ _ _ us hl => match us, hl with | [_], _ => rfl⟩, hm, F.kp⟩
abbrev s_law_is_name : Stmt := top 13
theorem sc_law_is_name : FnScope ["value", "sign"] ["value"] (defScope s_law_is_name) := ⟨rfl, rfl, rfl, by decide +kernel, rfl, by decide +kernel, by decide +kernel⟩
theorem okf_law_is_name {fd : FuncData} (T : Txt K mg) (F : FunD K "_law_is_name" "_law_is_name" (defArgs s_law_is_name) (defBody s_law_is_name) (defScope s_law_is_name) [] [] (He.ga K "_law_is_name") fd)  : FnOk P w K mg base CX0 1 (He.ga K "_law_is_name") fd ["value"] (sp_law_is_name K) := by
  have nd := sc_law_is_name.nd
  refine F.ok (k := 0) sc_law_is_name (len_law_is_name K) (fun cdv A outer s H vs Q E hr h => ⟨t_law_is_name K, PSs.nox ?_, pure_law_is_name K vs H Q E h⟩)
  have hu : (A.deeper (envOfC "_law_is_name" (defScope s_law_is_name) s.heap.objs.size (He.ga K "_law_is_name") cdv)).units + 64 < cLine := by
    have h1 := hr.un
    omega
  exact (pss_cons (ps_if (PW.pt (pw_or (pt_not (pt_val (pe_callB call_isi (by rfl) T.b_isinstance (by decide +kernel) (pa_cons (pv 0) (pa_cons (pe_bltn (by rfl) T.b_str (by decide +kernel) rfl) pa_nil))))) (pw_or (pt_cmpR (op_eqA hu) (pv 0) (pe_str) (nomark _)) (pw_or (pt_cmpR op_ltA (pe_callB call_lenA (by rfl) T.b_len (by decide +kernel) (pa_cons (pv 0) pa_nil)) (pe_int) (nomark _)) (pw_or1 (pt_cmpR op_gtA (pe_callB call_lenA (by rfl) T.b_len (by decide +kernel) (pa_cons (pv 0) pa_nil)) (pe_int) (nomark _))))))) (pss_one (ps_ret (pe_bl))) pss_nil)
    (pss_one (ps_ret (pe_cmpR (op_eqA hu) (pe_lc (own := [("sign", 1)]) rfl nd (pi_any (pv 0)) (blkOk_by (own := [("sign", 1)]) (N := ["value", "sign"]) (sc := defScope s_law_is_name) (by decide +kernel)) (fun _ _ _ _ _ => (pg_name (i := 1) nd (by rfl) (by first | exact Or.inl rfl | exact Or.inr rfl))) (fun _ _ _ _ _ => (pts_one (pt_cmpR op_ninA (pv 1) (pe_str) (by rfl)))) (fun _ _ _ _ _ => (pv 1))) (pe_lst pa_nil) (nomark _)))))
theorem ok_law_is_name (T : Txt K mg) (FD : ∃ fd, FunD K "_law_is_name" "_law_is_name" (defArgs s_law_is_name) (defBody s_law_is_name) (defScope s_law_is_name) [] [] (He.ga K "_law_is_name") fd) (hm : mg "_law_is_name" = some (.ref (He.ga K "_law_is_name")))  : Fok P w K mg base CX0 1 "_law_is_name" ["value"] (sp_law_is_name K) := by
  obtain ⟨fd, F⟩ := FD
  exact ⟨⟨fd, okf_law_is_name T F , F.bindsN fun _ _ _ _ _ _ us hl => match us, hl with | [_], _ => rfl⟩, hm, F.kp⟩
abbrev s_law_is_span : Stmt := top 14
theorem sc_law_is_span : FnScope ["value", "limit"] ["value"] (defScope s_law_is_span) := ⟨rfl, rfl, rfl, by decide +kernel, rfl, by decide +kernel, by decide +kernel⟩
theorem okf_law_is_span {fd : FuncData} (T : Txt K mg) (F : FunD K "_law_is_span" "_law_is_span" (defArgs s_law_is_span) (defBody s_law_is_span) (defScope s_law_is_span) [] [] (He.ga K "_law_is_span") fd) (F_law_is_integer : Fok P w K mg base CX0 1 "_law_is_integer" ["value"] (sp_law_is_integer K)) : FnOk P w K mg base CX0 2 (He.ga K "_law_is_span") fd ["value"] (sp_law_is_span K) := by
  have nd := sc_law_is_span.nd
  refine F.ok (k := 1) sc_law_is_span (len_law_is_span K) (fun cdv A outer s H vs Q E hr h => ⟨t_law_is_span K, PSs.nox ?_, pure_law_is_span K vs H Q E h⟩)
  have hu : (A.deeper (envOfC "_law_is_span" (defScope s_law_is_span) s.heap.objs.size (He.ga K "_law_is_span") cdv)).units + 64 < cLine := by
    have h1 := hr.un
    omega
  exact (pss_cons (ps_if (PW.pt (pw_or (pt_not (pt_val (pe_callB call_isi (by rfl) T.b_isinstance (by decide +kernel) (pa_cons (pv 0) (pa_cons (pe_bltn (by rfl) T.b_tuple (by decide +kernel) rfl) pa_nil))))) (pw_or1 (pt_cmpR (op_neA hu) (pe_callB call_lenA (by rfl) T.b_len (by decide +kernel) (pa_cons (pv 0) pa_nil)) (pe_int) (nomark _))))) (pss_one (ps_ret (pe_bl))) pss_nil)
    (pss_cons (ps_if (pt_cmpR (op_neA hu) (pe_lc (own := [("limit", 1)]) rfl nd (pi_any (pv 0)) (blkOk_by (own := [("limit", 1)]) (N := ["value", "limit"]) (sc := defScope s_law_is_span) (by decide +kernel)) (fun _ _ _ _ _ => (pg_name (i := 1) nd (by rfl) (by first | exact Or.inl rfl | exact Or.inr rfl))) (fun _ _ _ _ _ => (pts_one (PW.pt (pw_and (pt_cmpR op_notA (pv 1) (pe_non) (nomark _)) (pw_and1 (pt_not (pt_val (pe_callF F_law_is_integer (hr.mono (by decide)) (by rfl) pass0 (pa_cons (pv 1) pa_nil))))))))) (fun _ _ _ _ _ => (pv 1))) (pe_lst pa_nil) (nomark _)) (pss_one (ps_ret (pe_bl))) pss_nil)
    (pss_one (ps_ret ((pe_or (pe_cmpR op_isA (pe_ix ix_seq (pv 0) (pe_int) (fun _ _ => rfl)) (pe_non) (nomark _)) (pe_or (pe_cmpR op_isA (pe_ix ix_seq (pv 0) (pe_int) (fun _ _ => rfl)) (pe_non) (nomark _)) (pe_one (pe_cmpR op_ltA (pe_ix ix_seq (pv 0) (pe_int) (fun _ _ => rfl)) (pe_ix ix_seq (pv 0) (pe_int) (fun _ _ => rfl)) (nomark _))))))))))
theorem ok_law_is_span (T : Txt K mg) (FD : ∃ fd, FunD K "_law_is_span" "_law_is_span" (defArgs s_law_is_span) (defBody s_law_is_span) (defScope s_law_is_span) [] [] (He.ga K "_law_is_span") fd) (hm : mg "_law_is_span" = some (.ref (He.ga K "_law_is_span"))) (F_law_is_integer : Fok P w K mg base CX0 1 "_law_is_integer" ["value"] (sp_law_is_integer K)) : Fok P w K mg base CX0 2 "_law_is_span" ["value"] (sp_law_is_span K) := by
  obtain ⟨fd, F⟩ := FD
  exact ⟨⟨fd, okf_law_is_span T F F_law_is_integer, F.bindsN fun _ _ _ _ _ _ us hl => match us, hl with | [_], _ => rfl⟩, hm, F.kp⟩
abbrev s_law_word : Stmt := top 15
theorem sc_law_word : FnScope ["box", "word", "at", "k"] ["box"] (defScope s_law_word) := ⟨rfl, rfl, rfl, by decide +kernel, rfl, by decide +kernel, by decide +kernel⟩
theorem okf_law_word {fd : FuncData} (T : Txt K mg) (F : FunD K "_law_word" "_law_word" (defArgs s_law_word) (defBody s_law_word) (defScope s_law_word) [] [] (He.ga K "_law_word") fd) (F_law_take : Fok P w K mg base CX0 1 "_law_take" ["box", "many"] (sp_law_take K)) : FnOk P w K mg base CX0 2 (He.ga K "_law_word") fd ["box"] (sp_law_word K) := by
  have nd := sc_law_word.nd
  refine F.ok (k := 1) sc_law_word (len_law_word K) (fun cdv A outer s H vs Q E hr h => ⟨t_law_word K, PSs.nox ?_, pure_law_word K vs H Q E h⟩)
  have hu : (A.deeper (envOfC "_law_word" (defScope s_law_word) s.heap.objs.size (He.ga K "_law_word") cdv)).units + 64 < cLine := by
    have h1 := hr.un
    omega
  exact (pss_cons (ps_set (i := 1) nd (by rfl) (Or.inl rfl) (pe_bm PySem.F.plainAttrs_str PySem.F.slot_str_join PySem.F.type_str_join mt_join (pe_str) (pa_cons (pe_lc (own := [("k", 3)]) rfl nd (pi_range1 (by rfl) T.b_range (pa_cons (pe_callF F_law_take (hr.mono (by decide)) (by rfl) pass0 (pa_cons (pv 0) (pa_cons (pe_int) pa_nil))) pa_nil)) (blkOk_by (own := [("k", 3)]) (N := ["box", "word", "at", "k"]) (sc := defScope s_law_word) (by decide +kernel)) (fun _ _ _ _ _ => (pg_name (i := 3) nd (by rfl) (by first | exact Or.inl rfl | exact Or.inr rfl))) (fun _ _ _ _ _ => pts_nil) (fun _ _ _ _ _ => (pe_ix ix_seq (pe_str) (pe_callF F_law_take (hr.mono (by decide)) (by rfl) pass0 (pa_cons (pv 0) (pa_cons (pe_int) pa_nil))) (fun _ _ => rfl)))) pa_nil)))
    (pss_cut (ps_if (pt_cmpR (op_eqA hu) (pe_callF F_law_take (hr.mono (by decide)) (by rfl) pass0 (pa_cons (pv 0) (pa_cons (pe_int) pa_nil))) (pe_int) (nomark _)) (pss_cons (ps_set (i := 2) nd (by rfl) (Or.inl rfl) (pe_callF F_law_take (hr.mono (by decide)) (by rfl) pass0 (pa_cons (pv 0) (pa_cons (pe_op op_addA (pe_callB call_lenA (by rfl) T.b_len (by decide +kernel) (pa_cons (pv 1) pa_nil)) (pe_int)) pa_nil))))
    (pss_one (ps_set (i := 1) nd (by rfl) (Or.inl rfl) (pe_op op_addA (pe_op op_addA (pe_slice sl_A (pv 1) po_none (po_some (pv 2))) (pe_ix ix_seq (pe_str) (pe_callF F_law_take (hr.mono (by decide)) (by rfl) pass0 (pa_cons (pv 0) (pa_cons (pe_int) pa_nil))) (fun _ _ => rfl))) (pe_slice sl_A (pv 1) (po_some (pv 2)) po_none))))) pss_nil)
    (pss_one (ps_ret (pe_ix ix_seq (pe_lst (pa_cons (pv 1) (pa_cons (pe_str) (pa_cons (pe_str) (pa_cons (pe_str) (pa_cons (pe_str) (pa_cons (pe_str) pa_nil))))))) (pe_callF F_law_take (hr.mono (by decide)) (by rfl) pass0 (pa_cons (pv 0) (pa_cons (pe_int) pa_nil))) (fun _ _ => rfl))))))
theorem ok_law_word (T : Txt K mg) (FD : ∃ fd, FunD K "_law_word" "_law_word" (defArgs s_law_word) (defBody s_law_word) (defScope s_law_word) [] [] (He.ga K "_law_word") fd) (hm : mg "_law_word" = some (.ref (He.ga K "_law_word"))) (F_law_take : Fok P w K mg base CX0 1 "_law_take" ["box", "many"] (sp_law_take K)) : Fok P w K mg base CX0 2 "_law_word" ["box"] (sp_law_word K) := by
  obtain ⟨fd, F⟩ := FD
  exact ⟨⟨fd, okf_law_word T F F_law_take, F.bindsN fun _ _ _ _ _ _ us hl => match us, hl with | [_], _ => rfl⟩, hm, F.kp⟩
abbrev s_law_limit : Stmt := top 16
theorem sc_law_limit : FnScope ["box", "low"] ["box"] (defScope s_law_limit) := ⟨rfl, rfl, rfl, by decide +kernel, rfl, by decide +kernel, by decide +kernel⟩
theorem okf_law_limit {fd : FuncData} (T : Txt K mg) (F : FunD K "_law_limit" "_law_limit" (defArgs s_law_limit) (defBody s_law_limit) (defScope s_law_limit) [] [] (He.ga K "_law_limit") fd) (F_law_take : Fok P w K mg base CX0 1 "_law_take" ["box", "many"] (sp_law_take K)) : FnOk P w K mg base CX0 2 (He.ga K "_law_limit") fd ["box"] (sp_law_limit K) := by
  have nd := sc_law_limit.nd
  refine F.ok (k := 1) sc_law_limit (len_law_limit K) (fun cdv A outer s H vs Q E hr h => ⟨t_law_limit K, PSs.nox ?_, pure_law_limit K vs H Q E h⟩)
  have hu : (A.deeper (envOfC "_law_limit" (defScope s_law_limit) s.heap.objs.size (He.ga K "_law_limit") cdv)).units + 64 < cLine := by
    have h1 := hr.un
    omega
  exact (pss_cons (ps_set (i := 1) nd (by rfl) (Or.inl rfl) (pe_op op_subA (pe_callF F_law_take (hr.mono (by decide)) (by rfl) pass0 (pa_cons (pv 0) (pa_cons (pe_int) pa_nil))) (pe_int)))
    (pss_one (ps_ret (pe_ix ix_seq (pe_lst (pa_cons (pe_non) (pa_cons (pv 1) (pa_cons (pv 1) (pa_cons (pe_op op_mulA (pv 1) (pe_op op_powA (pe_int) (pe_int))) (pa_cons (pe_bl) (pa_cons (pe_str) (pa_cons (pe_tup (pa_cons (pe_int) pa_nil)) pa_nil)))))))) (pe_callF F_law_take (hr.mono (by decide)) (by rfl) pass0 (pa_cons (pv 0) (pa_cons (pe_int) pa_nil))) (fun _ _ => rfl)))))
theorem ok_law_limit (T : Txt K mg) (FD : ∃ fd, FunD K "_law_limit" "_law_limit" (defArgs s_law_limit) (defBody s_law_limit) (defScope s_law_limit) [] [] (He.ga K "_law_limit") fd) (hm : mg "_law_limit" = some (.ref (He.ga K "_law_limit"))) (F_law_take : Fok P w K mg base CX0 1 "_law_take" ["box", "many"] (sp_law_take K)) : Fok P w K mg base CX0 2 "_law_limit" ["box"] (sp_law_limit K) := by
  obtain ⟨fd, F⟩ := FD
  exact ⟨⟨fd, okf_law_limit T F F_law_take, F.bindsN fun _ _ _ _ _ _ us hl => match us, hl with | [_], _ => rfl⟩, hm, F.kp⟩
abbrev s_law_value : Stmt := top 17
theorem sc_law_value : FnScope ["box", "way"] ["box"] (defScope s_law_value) := ⟨rfl, rfl, rfl, by decide +kernel, rfl, by decide +kernel, by decide +kernel⟩
theorem okf_law_value {fd : FuncData} (T : Txt K mg) (F : FunD K "_law_value" "_law_value" (defArgs s_law_value) (defBody s_law_value) (defScope s_law_value) [] [] (He.ga K "_law_value") fd) (F_law_take : Fok P w K mg base CX0 1 "_law_take" ["box", "many"] (sp_law_take K)) (F_law_word : Fok P w K mg base CX0 2 "_law_word" ["box"] (sp_law_word K)) (F_law_limit : Fok P w K mg base CX0 2 "_law_limit" ["box"] (sp_law_limit K)) : FnOk P w K mg base CX0 3 (He.ga K "_law_value") fd ["box"] (sp_law_value K) := by
  have nd := sc_law_value.nd
  refine F.ok (k := 2) sc_law_value (len_law_value K) (fun cdv A outer s H vs Q E hr h => ⟨t_law_value K, PSs.nox ?_, pure_law_value K vs H Q E h⟩)
  have hu : (A.deeper (envOfC "_law_value" (defScope s_law_value) s.heap.objs.size (He.ga K "_law_value") cdv)).units + 64 < cLine := by
    have h1 := hr.un
    omega
  exact (pss_cons (ps_set (i := 1) nd (by rfl) (Or.inl rfl) (pe_callF F_law_take (hr.mono (by decide)) (by rfl) pass0 (pa_cons (pv 0) (pa_cons (pe_int) pa_nil))))
    (pss_cons (ps_if (pt_cmpR (op_eqA hu) (pv 1) (pe_int) (nomark _)) (pss_one (ps_ret (pe_callF F_law_word (hr.mono (by decide)) (by rfl) pass0 (pa_cons (pv 0) pa_nil)))) pss_nil)
    (pss_cons (ps_if (pt_cmpR op_ltA (pv 1) (pe_int) (nomark _)) (pss_one (ps_ret (pe_tup (pa_cons (pe_callF F_law_limit (hr.mono (by decide)) (by rfl) pass0 (pa_cons (pv 0) pa_nil)) (pa_cons (pe_callF F_law_limit (hr.mono (by decide)) (by rfl) pass0 (pa_cons (pv 0) pa_nil)) pa_nil))))) pss_nil)
    (pss_cons (ps_if (pt_cmpR (op_eqA hu) (pv 1) (pe_int) (nomark _)) (pss_one (ps_ret (pe_ix ix_seq (pe_lst (pa_cons (pe_tup pa_nil) (pa_cons (pe_tup (pa_cons (pe_int) pa_nil)) (pa_cons (pe_tup (pa_cons (pe_int) (pa_cons (pe_int) (pa_cons (pe_int) pa_nil)))) (pa_cons (pe_lst (pa_cons (pe_int) (pa_cons (pe_int) pa_nil))) (pa_cons (pe_tup (pa_cons (pe_non) (pa_cons (pe_non) pa_nil))) (pa_cons (pe_tup (pa_cons (pe_non) (pa_cons (pe_int) pa_nil))) (pa_cons (pe_tup (pa_cons (pe_int) (pa_cons (pe_non) pa_nil))) (pa_cons (pe_tup (pa_cons (pe_int) (pa_cons (pe_int) pa_nil))) (pa_cons (pe_disp (pps_cons (pe_int) (pe_int) pps_nil) (by rfl) (by rfl) (fun z => by cases z) (by decide)) pa_nil)))))))))) (pe_callF F_law_take (hr.mono (by decide)) (by rfl) pass0 (pa_cons (pv 0) (pa_cons (pe_int) pa_nil))) (fun _ _ => rfl)))) pss_nil)
    (pss_one (ps_ret (pe_ix ix_seq (pe_lst (pa_cons (pe_non) (pa_cons (pe_bl) (pa_cons (pe_bl) (pa_cons (pe_int) (pa_cons (pe_un un_neg (pe_int)) (pa_cons (pe_op op_powA (pe_int) (pe_int)) (pa_cons (pe_lst pa_nil) (pa_cons (pe_str) (pa_cons (pe_str) (pa_cons (pe_str) (pa_cons (pe_op op_mulA (pe_str) (pe_int)) (pa_cons (pe_op op_mulA (pe_str) (pe_int)) pa_nil))))))))))))) (pe_callF F_law_take (hr.mono (by decide)) (by rfl) pass0 (pa_cons (pv 0) (pa_cons (pe_int) pa_nil))) (fun _ _ => rfl))))))))
theorem ok_law_value (T : Txt K mg) (FD : ∃ fd, FunD K "_law_value" "_law_value" (defArgs s_law_value) (defBody s_law_value) (defScope s_law_value) [] [] (He.ga K "_law_value") fd) (hm : mg "_law_value" = some (.ref (He.ga K "_law_value"))) (F_law_take : Fok P w K mg base CX0 1 "_law_take" ["box", "many"] (sp_law_take K)) (F_law_word : Fok P w K mg base CX0 2 "_law_word" ["box"] (sp_law_word K)) (F_law_limit : Fok P w K mg base CX0 2 "_law_limit" ["box"] (sp_law_limit K)) : Fok P w K mg base CX0 3 "_law_value" ["box"] (sp_law_value K) := by
  obtain ⟨fd, F⟩ := FD
  exact ⟨⟨fd, okf_law_value T F F_law_take F_law_word F_law_limit, F.bindsN fun _ _ _ _ _ _ us hl => match us, hl with | [_], _ => rfl⟩, hm, F.kp⟩
abbrev s_law_sure_right : Stmt := top 18
theorem sc_law_sure_right : FnScope ["box", "number", "name", "high", "span", "told", "other", "k", "one"] ["box"] (defScope s_law_sure_right) := ⟨rfl, rfl, rfl, by decide +kernel, rfl, by decide +kernel, by decide +kernel⟩
theorem okf_law_sure_right {fd : FuncData} (T : Txt K mg) (F : FunD K "_law_sure_right" "_law_sure_right" (defArgs s_law_sure_right) (defBody s_law_sure_right) (defScope s_law_sure_right) [] [] (He.ga K "_law_sure_right") fd) (F_law_take : Fok P w K mg base CX0 1 "_law_take" ["box", "many"] (sp_law_take K)) (F_is_span : Fok P w K mg base CX0 3 "is_span" ["value"] (sp_is_span K)) (F_is_name : Fok P w K mg base CX0 1 "is_name" ["value"] (sp_is_name K)) (F_is_integer : Fok P w K mg base CX0 1 "is_integer" ["value"] (sp_is_integer K)) : FnOk P w K mg base CX0 4 (He.ga K "_law_sure_right") fd ["box"] (sp_law_sure_right K) := by
  have nd := sc_law_sure_right.nd
  refine F.ok (k := 3) sc_law_sure_right (len_law_sure_right K) (fun cdv A outer s H vs Q E hr h => ⟨t_law_sure_right K, PSs.nox ?_, pure_law_sure_right K vs H Q E h⟩)
  have hu : (A.deeper (envOfC "_law_sure_right" (defScope s_law_sure_right) s.heap.objs.size (He.ga K "_law_sure_right") cdv)).units + 64 < cLine := by
    have h1 := hr.un
    omega
  exact (pss_cons (ps_set (i := 1) nd (by rfl) (Or.inl rfl) (pe_op op_mulA (pe_op op_subA (pe_callF F_law_take (hr.mono (by decide)) (by rfl) pass0 (pa_cons (pv 0) (pa_cons (pe_op op_powA (pe_int) (pe_int)) pa_nil))) (pe_op op_mulA (pe_int) (pe_op op_powA (pe_int) (pe_int)))) (pe_ix ix_seq (pe_lst (pa_cons (pe_int) (pa_cons (pe_op op_powA (pe_int) (pe_int)) pa_nil))) (pe_callF F_law_take (hr.mono (by decide)) (by rfl) pass0 (pa_cons (pv 0) (pa_cons (pe_int) pa_nil))) (fun _ _ => rfl))))
    (pss_cons (ps_set (i := 2) nd (by rfl) (Or.inl rfl) (pe_bm PySem.F.plainAttrs_str PySem.F.slot_str_join PySem.F.type_str_join mt_join (pe_str) (pa_cons (pe_lc (own := [("k", 7)]) rfl nd (pi_range1 (by rfl) T.b_range (pa_cons (pe_op op_addA (pe_int) (pe_callF F_law_take (hr.mono (by decide)) (by rfl) pass0 (pa_cons (pv 0) (pa_cons (pe_int) pa_nil)))) pa_nil)) (blkOk_by (own := [("k", 7)]) (N := ["box", "number", "name", "high", "span", "told", "other", "k", "one"]) (sc := defScope s_law_sure_right) (by decide +kernel)) (fun _ _ _ _ _ => (pg_name (i := 7) nd (by rfl) (by first | exact Or.inl rfl | exact Or.inr rfl))) (fun _ _ _ _ _ => pts_nil) (fun _ _ _ _ _ => (pe_ix ix_seq (pe_str) (pe_callF F_law_take (hr.mono (by decide)) (by rfl) pass0 (pa_cons (pv 0) (pa_cons (pe_int) pa_nil))) (fun _ _ => rfl)))) pa_nil)))
    (pss_cons (ps_set (i := 2) nd (by rfl) (Or.inl rfl) (pe_ifExp (pt_cmpR (op_eqA hu) (pv 2) (pe_str) (nomark _)) (pe_str) (pv 2)))
    (pss_cons (ps_set (i := 3) nd (by rfl) (Or.inl rfl) (pe_op op_addA (pe_op op_addA (pv 1) (pe_int)) (pe_callF F_law_take (hr.mono (by decide)) (by rfl) pass0 (pa_cons (pv 0) (pa_cons (pe_op op_powA (pe_int) (pe_int)) pa_nil)))))
    (pss_cons (ps_set (i := 4) nd (by rfl) (Or.inl rfl) (pe_ix ix_seq (pe_lst (pa_cons (pe_tup (pa_cons (pv 1) (pa_cons (pv 3) pa_nil))) (pa_cons (pe_tup (pa_cons (pe_non) (pa_cons (pv 3) pa_nil))) (pa_cons (pe_tup (pa_cons (pv 1) (pa_cons (pe_non) pa_nil))) (pa_cons (pe_tup (pa_cons (pe_non) (pa_cons (pe_non) pa_nil))) pa_nil))))) (pe_callF F_law_take (hr.mono (by decide)) (by rfl) pass0 (pa_cons (pv 0) (pa_cons (pe_int) pa_nil))) (fun _ _ => rfl)))
    (pss_cons (ps_set (i := 5) nd (by rfl) (Or.inl rfl) (pe_lst (pa_cons (pe_callF F_is_integer (hr.mono (by decide)) (by rfl) pass0 (pa_cons (pv 1) pa_nil)) (pa_cons (pe_callF F_is_name (hr.mono (by decide)) (by rfl) pass0 (pa_cons (pv 2) pa_nil)) (pa_cons (pe_callF F_is_span (hr.mono (by decide)) (by rfl) pass0 (pa_cons (pv 4) pa_nil)) pa_nil)))))
    (pss_cons (ps_set (i := 6) nd (by rfl) (Or.inl rfl) (pe_lst (pa_cons (pe_callF F_is_integer (hr.mono (by decide)) (by rfl) pass0 (pa_cons (pv 2) pa_nil)) (pa_cons (pe_callF F_is_integer (hr.mono (by decide)) (by rfl) pass0 (pa_cons (pv 4) pa_nil)) (pa_cons (pe_callF F_is_name (hr.mono (by decide)) (by rfl) pass0 (pa_cons (pv 1) pa_nil)) (pa_cons (pe_callF F_is_name (hr.mono (by decide)) (by rfl) pass0 (pa_cons (pv 4) pa_nil)) (pa_cons (pe_callF F_is_span (hr.mono (by decide)) (by rfl) pass0 (pa_cons (pv 1) pa_nil)) (pa_cons (pe_callF F_is_span (hr.mono (by decide)) (by rfl) pass0 (pa_cons (pv 2) pa_nil)) pa_nil))))))))
    (pss_cons (ps_set (i := 6) nd (by rfl) (Or.inl rfl) (pe_op op_addA (pv 6) (pe_lst (pa_cons (pe_callF F_is_name (hr.mono (by decide)) (by rfl) pass0 (pa_cons (pe_bm0 PySem.F.plainAttrs_str PySem.F.slot_str_upper PySem.F.type_str_upper mt_upper (pv 2)) pa_nil)) (pa_cons (pe_callF F_is_span (hr.mono (by decide)) (by rfl) pass0 (pa_cons (pe_tup (pa_cons (pv 3) (pa_cons (pv 1) pa_nil))) pa_nil)) (pa_cons (pe_callF F_is_span (hr.mono (by decide)) (by rfl) pass0 (pa_cons (pe_tup (pa_cons (pv 1) (pa_cons (pv 1) pa_nil))) pa_nil)) pa_nil))))))
    (pss_one (ps_ret ((pe_and (pe_cmpR (op_eqA hu) (pe_lc (own := [("one", 8)]) rfl nd (pi_any (pv 5)) (blkOk_by (own := [("one", 8)]) (N := ["box", "number", "name", "high", "span", "told", "other", "k", "one"]) (sc := defScope s_law_sure_right) (by decide +kernel)) (fun _ _ _ _ _ => (pg_name (i := 8) nd (by rfl) (by first | exact Or.inl rfl | exact Or.inr rfl))) (fun _ _ _ _ _ => (pts_one (pt_cmpR op_notA (pv 8) (pe_bl) (nomark _)))) (fun _ _ _ _ _ => (pv 8))) (pe_lst pa_nil) (nomark _)) (pe_one (pe_cmpR (op_eqA hu) (pe_lc (own := [("one", 8)]) rfl nd (pi_any (pv 6)) (blkOk_by (own := [("one", 8)]) (N := ["box", "number", "name", "high", "span", "told", "other", "k", "one"]) (sc := defScope s_law_sure_right) (by decide +kernel)) (fun _ _ _ _ _ => (pg_name (i := 8) nd (by rfl) (by first | exact Or.inl rfl | exact Or.inr rfl))) (fun _ _ _ _ _ => (pts_one (pt_cmpR op_notA (pv 8) (pe_bl) (nomark _)))) (fun _ _ _ _ _ => (pv 8))) (pe_lst pa_nil) (nomark _)))))))))))))))
theorem ok_law_sure_right (T : Txt K mg) (FD : ∃ fd, FunD K "_law_sure_right" "_law_sure_right" (defArgs s_law_sure_right) (defBody s_law_sure_right) (defScope s_law_sure_right) [] [] (He.ga K "_law_sure_right") fd) (hm : mg "_law_sure_right" = some (.ref (He.ga K "_law_sure_right"))) (F_law_take : Fok P w K mg base CX0 1 "_law_take" ["box", "many"] (sp_law_take K)) (F_is_span : Fok P w K mg base CX0 3 "is_span" ["value"] (sp_is_span K)) (F_is_name : Fok P w K mg base CX0 1 "is_name" ["value"] (sp_is_name K)) (F_is_integer : Fok P w K mg base CX0 1 "is_integer" ["value"] (sp_is_integer K)) : Fok P w K mg base CX0 4 "_law_sure_right" ["box"] (sp_law_sure_right K) := by
  obtain ⟨fd, F⟩ := FD
  exact ⟨⟨fd, okf_law_sure_right T F F_law_take F_is_span F_is_name F_is_integer, F.bindsN fun _ _ _ _ _ _ us hl => match us, hl with | [_], _ => rfl⟩, hm, F.kp⟩
abbrev s_law : Stmt := top 19
theorem sc_law : FnScope ["script", "k", "box", "value", "told", "due", "one"] ["script"] (defScope s_law) := ⟨rfl, rfl, rfl, by decide +kernel, rfl, by decide +kernel, by decide +kernel⟩
theorem okf_law {fd : FuncData} (T : Txt K mg) (F : FunD K "law" "law" (defArgs s_law) (defBody s_law) (defScope s_law) [] [] (He.ga K "law") fd) (F_law_box : Fok P w K mg base CX0 1 "_law_box" ["cell"] (sp_law_box K)) (F_law_cell : Fok P w K mg base CX0 1 "_law_cell" ["script", "k"] (sp_law_cell K)) (F_law_value : Fok P w K mg base CX0 3 "_law_value" ["box"] (sp_law_value K)) (F_is_span : Fok P w K mg base CX0 3 "is_span" ["value"] (sp_is_span K)) (F_is_name : Fok P w K mg base CX0 1 "is_name" ["value"] (sp_is_name K)) (F_is_integer : Fok P w K mg base CX0 1 "is_integer" ["value"] (sp_is_integer K)) (F_law_is_span : Fok P w K mg base CX0 2 "_law_is_span" ["value"] (sp_law_is_span K)) (F_law_is_name : Fok P w K mg base CX0 1 "_law_is_name" ["value"] (sp_law_is_name K)) (F_law_is_integer : Fok P w K mg base CX0 1 "_law_is_integer" ["value"] (sp_law_is_integer K)) (F_law_sure_right : Fok P w K mg base CX0 4 "_law_sure_right" ["box"] (sp_law_sure_right K)) : FnOk P w K mg base CX0 5 (He.ga K "law") fd ["script"] (sp_law K) := by
  have nd := sc_law.nd
  refine F.ok (k := 4) sc_law (len_law K) (fun cdv A outer s H vs Q E hr h => ⟨t_law K, PSs.nox ?_, pure_law K vs H Q E h⟩)
  have hu : (A.deeper (envOfC "law" (defScope s_law) s.heap.objs.size (He.ga K "law") cdv)).units + 64 < cLine := by
    have h1 := hr.un
    omega
  exact (pss_cons (ps_for PassesOwn.never rfl (pi_range1 (by rfl) T.b_range (pa_cons (pe_callB (call_maxA rfl) (by rfl) T.b_max (by decide +kernel) (pa_cons (pe_int) (pa_cons (pe_callB (call_minA rfl) (by rfl) T.b_min (by decide +kernel) (pa_cons (pe_int) (pa_cons (pe_callB call_lenA (by rfl) T.b_len (by decide +kernel) (pa_cons (pv 0) pa_nil)) pa_nil))) pa_nil))) pa_nil)) (pg_name (i := 1) nd (by rfl) (by first | exact Or.inl rfl | exact Or.inr rfl)) (pss_cons (ps_set (i := 2) nd (by rfl) (Or.inl rfl) (pe_callF F_law_box (hr.mono (by decide)) (by rfl) pass0 (pa_cons (pe_callF F_law_cell (hr.mono (by decide)) (by rfl) pass0 (pa_cons (pv 0) (pa_cons (pv 1) pa_nil))) pa_nil)))
    (pss_cons (ps_set (i := 3) nd (by rfl) (Or.inl rfl) (pe_callF F_law_value (hr.mono (by decide)) (by rfl) pass0 (pa_cons (pv 2) pa_nil)))
    (pss_cons (ps_set (i := 4) nd (by rfl) (Or.inl rfl) (pe_lst (pa_cons (pe_callF F_is_integer (hr.mono (by decide)) (by rfl) pass0 (pa_cons (pv 3) pa_nil)) (pa_cons (pe_callF F_is_name (hr.mono (by decide)) (by rfl) pass0 (pa_cons (pv 3) pa_nil)) (pa_cons (pe_callF F_is_span (hr.mono (by decide)) (by rfl) pass0 (pa_cons (pv 3) pa_nil)) pa_nil)))))
    (pss_cons (ps_set (i := 5) nd (by rfl) (Or.inl rfl) (pe_lst (pa_cons (pe_callF F_law_is_integer (hr.mono (by decide)) (by rfl) pass0 (pa_cons (pv 3) pa_nil)) (pa_cons (pe_callF F_law_is_name (hr.mono (by decide)) (by rfl) pass0 (pa_cons (pv 3) pa_nil)) (pa_cons (pe_callF F_law_is_span (hr.mono (by decide)) (by rfl) pass0 (pa_cons (pv 3) pa_nil)) pa_nil)))))
    (pss_cons (ps_if (PW.pt (pw_or (pt_cmpR (op_neA hu) (pe_lc (own := [("one", 6)]) rfl nd (pi_any (pv 4)) (blkOk_by (own := [("one", 6)]) (N := ["script", "k", "box", "value", "told", "due", "one"]) (sc := defScope s_law) (by decide +kernel)) (fun _ _ _ _ _ => (pg_name (i := 6) nd (by rfl) (by first | exact Or.inl rfl | exact Or.inr rfl))) (fun _ _ _ _ _ => (pts_one (pt_not (pt_val (pe_callB call_isi (by rfl) T.b_isinstance (by decide +kernel) (pa_cons (pv 6) (pa_cons (pe_bltn (by rfl) T.b_bool (by decide +kernel) rfl) pa_nil))))))) (fun _ _ _ _ _ => (pv 6))) (pe_lst pa_nil) (nomark _)) (pw_or1 (pt_cmpR (op_neA hu) (pv 4) (pv 5) (nomark _))))) (pss_one (ps_ret (pe_bl))) pss_nil)
    (pss_one (ps_if (pt_not (pt_val (pe_callF F_law_sure_right (hr.mono (by decide)) (by rfl) pass0 (pa_cons (pv 2) pa_nil)))) (pss_one (ps_ret (pe_bl))) pss_nil))))))))
    (pss_one (ps_ret (pe_bl))))
theorem ok_law (T : Txt K mg) (FD : ∃ fd, FunD K "law" "law" (defArgs s_law) (defBody s_law) (defScope s_law) [] [] (He.ga K "law") fd) (hm : mg "law" = some (.ref (He.ga K "law"))) (F_law_box : Fok P w K mg base CX0 1 "_law_box" ["cell"] (sp_law_box K)) (F_law_cell : Fok P w K mg base CX0 1 "_law_cell" ["script", "k"] (sp_law_cell K)) (F_law_value : Fok P w K mg base CX0 3 "_law_value" ["box"] (sp_law_value K)) (F_is_span : Fok P w K mg base CX0 3 "is_span" ["value"] (sp_is_span K)) (F_is_name : Fok P w K mg base CX0 1 "is_name" ["value"] (sp_is_name K)) (F_is_integer : Fok P w K mg base CX0 1 "is_integer" ["value"] (sp_is_integer K)) (F_law_is_span : Fok P w K mg base CX0 2 "_law_is_span" ["value"] (sp_law_is_span K)) (F_law_is_name : Fok P w K mg base CX0 1 "_law_is_name" ["value"] (sp_law_is_name K)) (F_law_is_integer : Fok P w K mg base CX0 1 "_law_is_integer" ["value"] (sp_law_is_integer K)) (F_law_sure_right : Fok P w K mg base CX0 4 "_law_sure_right" ["box"] (sp_law_sure_right K)) : Fok P w K mg base CX0 5 "law" ["script"] (sp_law K) := by
  obtain ⟨fd, F⟩ := FD
  exact ⟨⟨fd, okf_law T F F_law_box F_law_cell F_law_value F_is_span F_is_name F_is_integer F_law_is_span F_law_is_name F_law_is_integer F_law_sure_right, F.bindsN fun _ _ _ _ _ _ us hl => match us, hl with | [_], _ => rfl⟩, hm, F.kp⟩
end
/-! ### the head's facts -/
def fa : List He.Fa := [.free "all", .free "bool", .free "int", .free "isinstance", .free "len", .free "max", .free "min", .free "range", .free "str", .free "tuple", .str "LETTERS" "abcdefghijklmnopqrstuvwxyz", .int "MOST_LETTERS" 8, .str "TABLE" "table", .glo "is_integer", .glo "is_name", .glo "is_limit", .glo "is_span", .glo "_law_cell", .glo "_law_box", .glo "_law_take", .glo "_law_is_integer", .glo "_law_is_name", .glo "_law_is_span", .glo "_law_word", .glo "_law_limit", .glo "_law_value", .glo "_law_sure_right", .glo "law"]
def fn : List He.DefD := [⟨("is_integer", none), "is_integer", "is_integer", defArgs s_is_integer, defBody s_is_integer, defScope s_is_integer, [], []⟩, ⟨("is_name", none), "is_name", "is_name", defArgs s_is_name, defBody s_is_name, defScope s_is_name, [], []⟩, ⟨("is_limit", none), "is_limit", "is_limit", defArgs s_is_limit, defBody s_is_limit, defScope s_is_limit, [], []⟩, ⟨("is_span", none), "is_span", "is_span", defArgs s_is_span, defBody s_is_span, defScope s_is_span, [], []⟩, ⟨("_law_cell", none), "_law_cell", "_law_cell", defArgs s_law_cell, defBody s_law_cell, defScope s_law_cell, [], []⟩, ⟨("_law_box", none), "_law_box", "_law_box", defArgs s_law_box, defBody s_law_box, defScope s_law_box, [], []⟩, ⟨("_law_take", none), "_law_take", "_law_take", defArgs s_law_take, defBody s_law_take, defScope s_law_take, [], []⟩, ⟨("_law_is_integer", none), "_law_is_integer", "_law_is_integer", defArgs s_law_is_integer, defBody s_law_is_integer, defScope s_law_is_integer, [], []⟩, ⟨("_law_is_name", none), "_law_is_name", "_law_is_name", defArgs s_law_is_name, defBody s_law_is_name, defScope s_law_is_name, [], []⟩, ⟨("_law_is_span", none), "_law_is_span", "_law_is_span", defArgs s_law_is_span, defBody s_law_is_span, defScope s_law_is_span, [], []⟩, ⟨("_law_word", none), "_law_word", "_law_word", defArgs s_law_word, defBody s_law_word, defScope s_law_word, [], []⟩, ⟨("_law_limit", none), "_law_limit", "_law_limit", defArgs s_law_limit, defBody s_law_limit, defScope s_law_limit, [], []⟩, ⟨("_law_value", none), "_law_value", "_law_value", defArgs s_law_value, defBody s_law_value, defScope s_law_value, [], []⟩, ⟨("_law_sure_right", none), "_law_sure_right", "_law_sure_right", defArgs s_law_sure_right, defBody s_law_sure_right, defScope s_law_sure_right, [], []⟩, ⟨("law", none), "law", "law", defArgs s_law, defBody s_law, defScope s_law, [], []⟩]
theorem all_ok {P : Program} {w : World} {K : PySem.W.Frag} {h : Heap} {mg : Str → Option Value} {f : Addr} (X : K.In h) (G : h.Ns mainGlobals mg) (hfa : mg ("law" : Str) = some (.ref f)) (c : He.SaysD fa fn K) :
    ∃ fd : FuncData, (∀ (s : Shared) (v : Value), BindsTo s fd ⟨[v], []⟩ [("script", v)]) ∧ ∀ base : Heap, K.In base → base.Ns mainGlobals mg → FnOk P w K mg base CX0 5 f fd ["script"] (sp_law K) := by
  have T : Txt K mg := ⟨He.free_ok X G (c.fact 0 (f := .free "all") rfl), He.free_ok X G (c.fact 1 (f := .free "bool") rfl), He.free_ok X G (c.fact 2 (f := .free "int") rfl), He.free_ok X G (c.fact 3 (f := .free "isinstance") rfl), He.free_ok X G (c.fact 4 (f := .free "len") rfl), He.free_ok X G (c.fact 5 (f := .free "max") rfl), He.free_ok X G (c.fact 6 (f := .free "min") rfl), He.free_ok X G (c.fact 7 (f := .free "range") rfl), He.free_ok X G (c.fact 8 (f := .free "str") rfl), He.free_ok X G (c.fact 9 (f := .free "tuple") rfl), He.str_ok X G (c.fact 10 (f := .str "LETTERS" "abcdefghijklmnopqrstuvwxyz") rfl), He.int_ok X G (c.fact 11 (f := .int "MOST_LETTERS" 8) rfl), He.str_ok X G (c.fact 12 (f := .str "TABLE" "table") rfl)⟩
  have hml := He.glo_ok X G (c.fact 27 (f := .glo "law") rfl)
  have e := hfa.symm.trans hml
  cases e
  obtain ⟨fdL, FL⟩ := c.def_ 14 (d := ⟨("law", none), "law", "law", defArgs s_law, defBody s_law, defScope s_law, [], []⟩) rfl
  have b := FunD.bindsA (ps := ["script"]) FL fun _ _ _ _ _ _ us hl => match us, hl with | [_], _ => rfl
  refine ⟨fdL, fun s v => b s [v] rfl, fun base _ _ => ?_⟩
  have O_is_integer := ok_is_integer (P := P) (w := w) (base := base) T (c.def_ 0 (d := ⟨("is_integer", none), "is_integer", "is_integer", defArgs s_is_integer, defBody s_is_integer, defScope s_is_integer, [], []⟩) rfl) (He.glo_ok X G (c.fact 13 (f := .glo "is_integer") rfl)) 
  have O_is_name := ok_is_name (P := P) (w := w) (base := base) T (c.def_ 1 (d := ⟨("is_name", none), "is_name", "is_name", defArgs s_is_name, defBody s_is_name, defScope s_is_name, [], []⟩) rfl) (He.glo_ok X G (c.fact 14 (f := .glo "is_name") rfl)) 
  have O_is_limit := ok_is_limit (P := P) (w := w) (base := base) T (c.def_ 2 (d := ⟨("is_limit", none), "is_limit", "is_limit", defArgs s_is_limit, defBody s_is_limit, defScope s_is_limit, [], []⟩) rfl) (He.glo_ok X G (c.fact 15 (f := .glo "is_limit") rfl)) O_is_integer
  have O_is_span := ok_is_span (P := P) (w := w) (base := base) T (c.def_ 3 (d := ⟨("is_span", none), "is_span", "is_span", defArgs s_is_span, defBody s_is_span, defScope s_is_span, [], []⟩) rfl) (He.glo_ok X G (c.fact 16 (f := .glo "is_span") rfl)) O_is_limit
  have O_law_cell := ok_law_cell (P := P) (w := w) (base := base) T (c.def_ 4 (d := ⟨("_law_cell", none), "_law_cell", "_law_cell", defArgs s_law_cell, defBody s_law_cell, defScope s_law_cell, [], []⟩) rfl) (He.glo_ok X G (c.fact 17 (f := .glo "_law_cell") rfl)) 
  have O_law_box := ok_law_box (P := P) (w := w) (base := base) T (c.def_ 5 (d := ⟨("_law_box", none), "_law_box", "_law_box", defArgs s_law_box, defBody s_law_box, defScope s_law_box, [], []⟩) rfl) (He.glo_ok X G (c.fact 18 (f := .glo "_law_box") rfl)) 
  have O_law_take := ok_law_take (P := P) (w := w) (base := base) T (c.def_ 6 (d := ⟨("_law_take", none), "_law_take", "_law_take", defArgs s_law_take, defBody s_law_take, defScope s_law_take, [], []⟩) rfl) (He.glo_ok X G (c.fact 19 (f := .glo "_law_take") rfl)) 
  have O_law_is_integer := ok_law_is_integer (P := P) (w := w) (base := base) T (c.def_ 7 (d := ⟨("_law_is_integer", none), "_law_is_integer", "_law_is_integer", defArgs s_law_is_integer, defBody s_law_is_integer, defScope s_law_is_integer, [], []⟩) rfl) (He.glo_ok X G (c.fact 20 (f := .glo "_law_is_integer") rfl)) 
  have O_law_is_name := ok_law_is_name (P := P) (w := w) (base := base) T (c.def_ 8 (d := ⟨("_law_is_name", none), "_law_is_name", "_law_is_name", defArgs s_law_is_name, defBody s_law_is_name, defScope s_law_is_name, [], []⟩) rfl) (He.glo_ok X G (c.fact 21 (f := .glo "_law_is_name") rfl)) 
  have O_law_is_span := ok_law_is_span (P := P) (w := w) (base := base) T (c.def_ 9 (d := ⟨("_law_is_span", none), "_law_is_span", "_law_is_span", defArgs s_law_is_span, defBody s_law_is_span, defScope s_law_is_span, [], []⟩) rfl) (He.glo_ok X G (c.fact 22 (f := .glo "_law_is_span") rfl)) O_law_is_integer
  have O_law_word := ok_law_word (P := P) (w := w) (base := base) T (c.def_ 10 (d := ⟨("_law_word", none), "_law_word", "_law_word", defArgs s_law_word, defBody s_law_word, defScope s_law_word, [], []⟩) rfl) (He.glo_ok X G (c.fact 23 (f := .glo "_law_word") rfl)) O_law_take
  have O_law_limit := ok_law_limit (P := P) (w := w) (base := base) T (c.def_ 11 (d := ⟨("_law_limit", none), "_law_limit", "_law_limit", defArgs s_law_limit, defBody s_law_limit, defScope s_law_limit, [], []⟩) rfl) (He.glo_ok X G (c.fact 24 (f := .glo "_law_limit") rfl)) O_law_take
  have O_law_value := ok_law_value (P := P) (w := w) (base := base) T (c.def_ 12 (d := ⟨("_law_value", none), "_law_value", "_law_value", defArgs s_law_value, defBody s_law_value, defScope s_law_value, [], []⟩) rfl) (He.glo_ok X G (c.fact 25 (f := .glo "_law_value") rfl)) O_law_take O_law_word O_law_limit
  have O_law_sure_right := ok_law_sure_right (P := P) (w := w) (base := base) T (c.def_ 13 (d := ⟨("_law_sure_right", none), "_law_sure_right", "_law_sure_right", defArgs s_law_sure_right, defBody s_law_sure_right, defScope s_law_sure_right, [], []⟩) rfl) (He.glo_ok X G (c.fact 26 (f := .glo "_law_sure_right") rfl)) O_law_take O_is_span O_is_name O_is_integer
  exact okf_law (P := P) (w := w) (base := base) T FL O_law_box O_law_cell O_law_value O_is_span O_is_name O_is_integer O_law_is_span O_law_is_name O_law_is_integer O_law_sure_right
def lawLevel : Nat := 5
def lawAt : Nat := 19

end Z

namespace Z
open PySem PySem.Spec PyProof.Rows L2
/-! ### the end -/
abbrev R : PySem.W.OpenRow := PySem.W.OpenLaw.row PySem.Challenge.rw_shiftparts_k01_kinds_of_values
abbrev hk : PySem.W.Hook := He.hookD 4 fa fn
def ob (s : PySem.W.SharedT) : He.AlD := He.obsDG 4 fa fn (HandSHeadRun.getT s)
theorem ob_eq (s : PySem.W.SharedT) : ob s = hk.obs s.abs := He.obsDG_eq (HandSHeadRun.getT_eq s)
def loose : List PySem.Str := (["LETTERS", "MOST_LETTERS", "TABLE", "is_integer", "is_name", "is_limit", "is_span", "_law_cell", "_law_box", "_law_take", "_law_is_integer", "_law_is_name", "_law_is_span", "_law_word", "_law_limit", "_law_value", "_law_sure_right"] : List PySem.Str)
theorem run (w : World) : HandSHeadRun.RunEq R (PySem.W.view R.prog [19]) hk ob 4000 loose w := by
  intro os
  kernel_rfl
end Z
open PySem PySem.W PySem.Calls PyProof.Rows
theorem PySem.Challenge.cw_shiftparts_k01_kinds_of_values_holds : PySem.Challenge.rw_shiftparts_k01_kinds_of_values.Holds := by
  w_on; o_law
  refine HandSHeadRun.head_any (r := OpenLaw.row PySem.Challenge.rw_shiftparts_k01_kinds_of_values) (q := view (OpenLaw.row PySem.Challenge.rw_shiftparts_k01_kinds_of_values).prog [19]) (H := Z.hk) (ob := Z.ob) (M := 4000) (loose := Z.loose) (d := HandSHeadRun.topDef (OpenLaw.row PySem.Challenge.rw_shiftparts_k01_kinds_of_values).prog 19) (kwd := []) Z.ob_eq
    (by kernel_rfl) (fun s => by kernel_rfl) Z.run (by kernel_rfl) (by kernel_rfl) (by kernel_rfl) (by rfl) (by first | assumption | decide +kernel) (by decide +kernel) ⟨rfl, rfl, rfl, rfl, rfl, by decide +kernel⟩ ?hw ?hc
  case hw => w_witness2
  case hc =>
    refine L2.walk_ofE (l := PySem.Challenge.rw_shiftparts_k01_kinds_of_values) (n := 63) (k := 5) (x := "script") (CX := L2.CX0) rfl (by decide) (by kernel_rfl) ⟨rfl, by decide, by decide⟩ ?F (fun _ _ _ _ z => z)
    intro w mg fa h Y G hmg0
    obtain ⟨K, KX, c⟩ := Y
    have hmg : mg ("law" : PySem.Str) = some (.ref fa) := by
      have e : (HandSHeadRun.topDef (OpenLaw.row PySem.Challenge.rw_shiftparts_k01_kinds_of_values).prog 19).name = ("law" : PySem.Str) := by kernel_rfl
      rw [← e]
      exact hmg0
    obtain ⟨fd, hb, hF⟩ := Z.all_ok (P := (PySem.Challenge.rw_shiftparts_k01_kinds_of_values).prog) (w := w) KX G hmg c
    exact ⟨K, fd, Z.sp_law K, KX, hb, fun H a ns hl _ hS => ⟨a, ns, rfl, hS, hl, fun _ => rfl⟩, hF⟩
#print axioms PySem.Challenge.cw_shiftparts_k01_kinds_of_values_holds

