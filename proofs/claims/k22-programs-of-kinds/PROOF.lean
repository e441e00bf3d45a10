import PyProof.Rows.All
import Wide.All
import OpenK.AllK
import Wide.FinOn
import HandS.ForMost
import HandS.Flow
import HandS.Style
import HandS.Wide
import HandS.WideMore
import HandS.IsInst
import HandS.Evl
import HandS.Walk
import HandS.Defaults
import HandS.Head0
import HandS.Head1
import HandS.Head2
import HandS.HeadEnd
import HandS.HeadHook1
import HandS.HeadHook2
import HandS.HeadHook3
import KE.KExcSuper
import KE.KExcPX
import HandS.Exc
import HandS.ExcSuper
import HandS.ExcInit
import HandS.ExcField
import HandS.TryMany
import HandS.TryOnly
import HandS.RaiseFrom
import HandS.FStr
import HandS.TupAny
import KE.KUnpackStar
import HandS.Star
import HandS.More
import HandS.Small
import HandS.RaiseMore
import HandS.WordsExc
import PySem.Challenge.RW_shiftparts_k22_programs_of_kinds
set_option Elab.async false
set_option linter.all false
set_option maxRecDepth 100000
set_option maxHeartbeats 4000000
/-! == and != of data at any depth: items by identity or by ==, lists and tuples of any length -/
namespace Z
open PySem PySem.Spec PyProof.Rows L2 Evl
def scB : V → V → Bool
  | .non, .non | .non, .int _ | .int _, .non | .non, .bl _ | .bl _, .non | .non, .str _ | .str _, .non => true
  | .int _, .int _ | .bl _, .bl _ | .str _, .str _ | .int _, .str _ | .str _, .int _ | .bl _, .str _ | .str _, .bl _ => true
  | _, _ => false
def isS : V → Bool
  | .non | .bl _ | .int _ | .str _ => true
  | _ => false
/-- items one by one, as far as both go -/
inductive EqZ (E : V → V → Bool → Prop) : List V → List V → List Bool → Prop
  | nil : EqZ E [] [] []
  | nilL {y : V} {ys : List V} : EqZ E [] (y :: ys) []
  | nilR {x : V} {xs : List V} : EqZ E (x :: xs) [] []
  | cons {x y : V} {xs ys : List V} {b : Bool} {e : List Bool} : E x y b → EqZ E xs ys e → EqZ E (x :: xs) (y :: ys) (b :: e)
/-- x == y gives b, items by E -/
inductive EqR (K : PySem.W.Frag) (H : Hp) (E : V → V → Bool → Prop) : V → V → Bool → Prop
  | sc {x y : V} : scB x y = true → EqR K H E x y (decide (x = y))
  | bi (a : Bool) (j : Int) : EqR K H E (.bl a) (.int j) ((if a then 1 else 0) == j)
  | ib (i : Int) (b : Bool) : EqR K H E (.int i) (.bl b) (i == (if b then 1 else 0))
  | ll {a b : Addr} {xs ys : List V} : SqL K H a xs → SqL K H b ys → xs.length ≠ ys.length → EqR K H E (.ref a) (.ref b) false
  | lst {a b : Addr} {xs ys : List V} {e : List Bool} : SqL K H a xs → SqL K H b ys → xs.length = ys.length → EqZ E xs ys e → EqR K H E (.ref a) (.ref b) (e.all id)
  | tup {a b : Addr} {xs ys : List V} {e : List Bool} : SqT K H a xs → SqT K H b ys → EqZ E xs ys e → EqR K H E (.ref a) (.ref b) (e.all id && decide (xs.length = ys.length))
  | lt {a b : Addr} {xs ys : List V} : SqL K H a xs → SqT K H b ys → EqR K H E (.ref a) (.ref b) false
  | tl {a b : Addr} {xs ys : List V} : SqT K H a xs → SqL K H b ys → EqR K H E (.ref a) (.ref b) false
  | ls {a : Addr} {xs : List V} {y : V} : SqL K H a xs → isS y = true → EqR K H E (.ref a) y false
  | sl {a : Addr} {xs : List V} {y : V} : SqL K H a xs → isS y = true → EqR K H E y (.ref a) false
  | ts {a : Addr} {xs : List V} {y : V} : SqT K H a xs → isS y = true → EqR K H E (.ref a) y false
  | st {a : Addr} {xs : List V} {y : V} : SqT K H a xs → isS y = true → EqR K H E y (.ref a) false
/-- two items: the same object, or equal by == -/
def EqI (K : PySem.W.Frag) (H : Hp) : Nat → V → V → Bool → Prop
  | 0 => fun _ _ _ => False
  | n + 1 => fun x y b => (∃ a, x = .ref a ∧ y = .ref a ∧ b = true) ∨ (EqR K H (EqI K H n) x y b ∧ ∀ a, x = .ref a → y ≠ .ref a)
theorem EqI.same {K : PySem.W.Frag} {H : Hp} {n : Nat} (a : Addr) : EqI K H (n + 1) (.ref a) (.ref a) true := .inl ⟨a, rfl, rfl, rfl⟩
theorem EqI.sc {K : PySem.W.Frag} {H : Hp} {n : Nat} {x y : V} (h : scB x y = true) : EqI K H (n + 1) x y (decide (x = y)) := .inr ⟨.sc h, fun a e => by
  subst e
  cases h⟩
theorem EqI.rc {K : PySem.W.Frag} {H : Hp} {n : Nat} {a b : Addr} {k : Bool} (h : EqR K H (EqI K H n) (.ref a) (.ref b) k) (ne : a ≠ b) : EqI K H (n + 1) (.ref a) (.ref b) k := .inr ⟨h, fun c e f => by
  injection e with e
  injection f with f
  exact ne (e.trans f.symm)⟩
section
variable {X : Cx} {pins : List (Addr × Obj)} {σ : L2.St} {H : Hp} {s : Shared}
theorem sc_rc {A : Around} {x y : V} {v u : Value} (h : scB x y = true) (rx : RelV x v) (ry : RelV y u) : SeqAt.RcAt A s v u (decide (x = y)) := by
  have beqd : ∀ (a b : Bool), decide (V.bl a = V.bl b) = (a == b) := fun a b => by cases a <;> cases b <;> rfl
  have beqi : ∀ (a b : Int), decide (V.int a = V.int b) = (a == b) := fun a b => by
    rw [Bool.beq_eq_decide_eq]
    simp
  have beqs : ∀ (a b : Str), decide (V.str a = V.str b) = (a == b) := fun a b => by
    rw [Bool.beq_eq_decide_eq]
    simp
  cases x <;> cases y <;> first | (exact absurd (show false = true from h) Bool.false_ne_true) | skip
  · cases rx; cases ry; exact SeqAt.RcAt.none_none
  · cases rx; cases ry; exact SeqAt.RcAt.none_bool _
  · cases rx; obtain ⟨t, rfl⟩ := ry; exact SeqAt.RcAt.none_int _ _
  · cases rx; obtain ⟨t, rfl⟩ := ry; exact SeqAt.RcAt.none_str _ _
  · cases rx; cases ry; exact SeqAt.RcAt.bool_none _
  · cases rx; cases ry; rw [beqd]; exact SeqAt.RcAt.bool_bool _ _
  · cases rx; obtain ⟨t, rfl⟩ := ry; exact SeqAt.RcAt.bool_str _ _ _
  · cases ry; obtain ⟨t, rfl⟩ := rx; exact SeqAt.RcAt.int_none _ _
  · obtain ⟨t, rfl⟩ := rx; obtain ⟨t', rfl⟩ := ry; rw [beqi]; exact SeqAt.RcAt.int_int _ _ _ _
  · obtain ⟨t, rfl⟩ := rx; obtain ⟨t', rfl⟩ := ry; exact SeqAt.RcAt.int_str _ _ _ _
  · cases ry; obtain ⟨t, rfl⟩ := rx; exact SeqAt.RcAt.str_none _ _
  · cases ry; obtain ⟨t, rfl⟩ := rx; exact SeqAt.RcAt.str_bool _ _ _
  · obtain ⟨t, rfl⟩ := rx; obtain ⟨t', rfl⟩ := ry; exact SeqAt.RcAt.str_int _ _ _ _
  · obtain ⟨t, rfl⟩ := rx; obtain ⟨t', rfl⟩ := ry; rw [beqs]; exact SeqAt.RcAt.str_str _ _ _ _
theorem sc_eq {A : Around} {x y : V} {v u : Value} (h : scB x y = true) (rx : RelV x v) (ry : RelV y u) : SeqAt.EqAt A s v u (decide (x = y)) := by
  have beqd : ∀ (a b : Bool), decide (V.bl a = V.bl b) = (a == b) := fun a b => by cases a <;> cases b <;> rfl
  have beqi : ∀ (a b : Int), decide (V.int a = V.int b) = (a == b) := fun a b => by
    rw [Bool.beq_eq_decide_eq]
    simp
  have beqs : ∀ (a b : Str), decide (V.str a = V.str b) = (a == b) := fun a b => by
    rw [Bool.beq_eq_decide_eq]
    simp
  cases x <;> cases y <;> first | (exact absurd (show false = true from h) Bool.false_ne_true) | skip
  · cases rx; cases ry; exact SeqAt.EqAt.same _
  · cases rx; cases ry; exact SeqAt.EqAt.none_bool _
  · cases rx; obtain ⟨t, rfl⟩ := ry; exact SeqAt.EqAt.none_int _ _
  · cases rx; obtain ⟨t, rfl⟩ := ry; exact SeqAt.EqAt.none_str _ _
  · cases rx; cases ry; exact SeqAt.EqAt.bool_none _
  · cases rx; cases ry; rw [beqd]; exact SeqAt.EqAt.bool_bool _ _
  · cases rx; obtain ⟨t, rfl⟩ := ry; exact SeqAt.EqAt.bool_str _ _ _
  · cases ry; obtain ⟨t, rfl⟩ := rx; exact SeqAt.EqAt.int_none _ _
  · obtain ⟨t, rfl⟩ := rx; obtain ⟨t', rfl⟩ := ry; rw [beqi]; exact SeqAt.EqAt.int_int _ _ _ _
  · obtain ⟨t, rfl⟩ := rx; obtain ⟨t', rfl⟩ := ry; exact SeqAt.EqAt.int_str _ _ _ _
  · cases ry; obtain ⟨t, rfl⟩ := rx; exact SeqAt.EqAt.str_none _ _
  · cases ry; obtain ⟨t, rfl⟩ := rx; exact SeqAt.EqAt.str_bool _ _ _
  · obtain ⟨t, rfl⟩ := rx; obtain ⟨t', rfl⟩ := ry; exact SeqAt.EqAt.str_int _ _ _ _
  · obtain ⟨t, rfl⟩ := rx; obtain ⟨t', rfl⟩ := ry; rw [beqs]; exact SeqAt.EqAt.str_str _ _ _ _
theorem sc_ne {A : Around} {x y : V} {v u : Value} (h : scB x y = true) (rx : RelV x v) (ry : RelV y u) : SeqAt.RcNeAt A s v u (!decide (x = y)) := by
  have beqd : ∀ (a b : Bool), decide (V.bl a = V.bl b) = (a == b) := fun a b => by cases a <;> cases b <;> rfl
  have beqi : ∀ (a b : Int), decide (V.int a = V.int b) = (a == b) := fun a b => by
    rw [Bool.beq_eq_decide_eq]
    simp
  have beqs : ∀ (a b : Str), decide (V.str a = V.str b) = (a == b) := fun a b => by
    rw [Bool.beq_eq_decide_eq]
    simp
  cases x <;> cases y <;> first | (exact absurd (show false = true from h) Bool.false_ne_true) | skip
  · cases rx; cases ry; exact SeqAt.RcNeAt.none_none
  · cases rx; cases ry; exact SeqAt.RcNeAt.none_bool _
  · cases rx; obtain ⟨t, rfl⟩ := ry; exact SeqAt.RcNeAt.none_int _ _
  · cases rx; obtain ⟨t, rfl⟩ := ry; exact SeqAt.RcNeAt.none_str _ _
  · cases rx; cases ry; exact SeqAt.RcNeAt.bool_none _
  · cases rx; cases ry; rw [beqd]; exact SeqAt.RcNeAt.bool_bool _ _
  · cases rx; obtain ⟨t, rfl⟩ := ry; exact SeqAt.RcNeAt.bool_str _ _ _
  · cases ry; obtain ⟨t, rfl⟩ := rx; exact SeqAt.RcNeAt.int_none _ _
  · obtain ⟨t, rfl⟩ := rx; obtain ⟨t', rfl⟩ := ry; rw [beqi]; exact SeqAt.RcNeAt.int_int _ _ _ _
  · obtain ⟨t, rfl⟩ := rx; obtain ⟨t', rfl⟩ := ry; exact SeqAt.RcNeAt.int_str _ _ _ _
  · cases ry; obtain ⟨t, rfl⟩ := rx; exact SeqAt.RcNeAt.str_none _ _
  · cases ry; obtain ⟨t, rfl⟩ := rx; exact SeqAt.RcNeAt.str_bool _ _ _
  · obtain ⟨t, rfl⟩ := rx; obtain ⟨t', rfl⟩ := ry; exact SeqAt.RcNeAt.str_int _ _ _ _
  · obtain ⟨t, rfl⟩ := rx; obtain ⟨t', rfl⟩ := ry; rw [beqs]; exact SeqAt.RcNeAt.str_str _ _ _ _
theorem range_all : ∀ e : List Bool, (List.range e.length).all (fun i => e.getD i false) = e.all id
  | [] => rfl
  | b :: e => by
    rw [List.length_cons, List.range_succ_eq_map, List.all_cons, List.all_map, List.all_cons, ← range_all e]
    rfl
theorem EqZ.len {E : V → V → Bool → Prop} {xs ys : List V} {e : List Bool} (h : EqZ E xs ys e) : e.length = min xs.length ys.length := by
  induction h with
  | nil => rfl
  | nilL => simp
  | nilR => simp
  | cons _ _ ih =>
    simp only [List.length_cons]
    omega
theorem EqZ.run {E : V → V → Bool → Prop} {A : Around} (ih : ∀ {x y : V} {b : Bool} {v u : Value}, E x y b → RelV x v → RelV y u → SeqAt.EqAt A s v u b) {xs ys : List V} {e : List Bool} (h : EqZ E xs ys e) : ∀ {us ws : List Value}, Vals xs us → Vals ys ws →
    ∀ j (h1 : j < us.length) (h2 : j < ws.length), SeqAt.EqAt A s us[j] ws[j] (e.getD j false) := by
  induction h with
  | nil => intro us ws r1 r2 j h1 h2; cases r1; exact absurd h1 (Nat.not_lt_zero j)
  | nilL => intro us ws r1 r2 j h1 h2; cases r1; exact absurd h1 (Nat.not_lt_zero j)
  | nilR => intro us ws r1 r2 j h1 h2; cases r2; exact absurd h2 (Nat.not_lt_zero j)
  | cons h _ k =>
    intro us ws r1 r2 j h1 h2
    cases r1 with
    | cons a1 b1 =>
      cases r2 with
      | cons a2 b2 =>
        cases j with
        | zero => exact ih h a1 a2
        | succ j => exact k b1 b2 j (Nat.lt_of_succ_lt_succ h1) (Nat.lt_of_succ_lt_succ h2)
theorem EqR.run (I : Inv X pins σ H s) {E : V → V → Bool → Prop} {A : Around} (hu : A.units < cLine) (ih : ∀ {x y : V} {b : Bool} {v u : Value}, E x y b → RelV x v → RelV y u → SeqAt.EqAt A.in1 s v u b)
    {x y : V} {b : Bool} {v u : Value} (h : EqR X.K H E x y b) (rx : RelV x v) (ry : RelV y u) : SeqAt.RcAt A s v u b := by
  cases h with
  | sc h => exact sc_rc h rx ry
  | bi a j => cases rx; obtain ⟨t, rfl⟩ := ry; exact SeqAt.RcAt.bool_int _ _ _
  | ib i b => cases ry; obtain ⟨t, rfl⟩ := rx; exact SeqAt.RcAt.int_bool _ _ _
  | ll h1 h2 hn =>
    cases rx; cases ry
    obtain ⟨i1, r1, p1, _⟩ := I.list h1
    obtain ⟨i2, r2, p2, _⟩ := I.list h2
    refine SeqAt.RcAt.lists_lengths p1.isList p2.isList ?_ hu
    have e1 := r1.length
    have e2 := r2.length
    simp only [List.size_toArray, bne_iff_ne]
    omega
  | @lst a b xs ys e h1 h2 hl hz =>
    cases rx; cases ry
    obtain ⟨i1, r1, p1, _⟩ := I.list h1
    obtain ⟨i2, r2, p2, _⟩ := I.list h2
    have e1 := r1.length
    have e2 := r2.length
    have el := hz.len
    have q := SeqAt.RcAt.lists (A := A) (e := fun i => e.getD i false) p1.isList p2.isList (by simp only [List.size_toArray]; omega) hu
      (fun j h1 h2 => hz.run ih r1 r2 j (by simpa using h1) (by simpa using h2))
    rw [show i1.toArray.size = e.length by simp only [List.size_toArray]; omega, range_all] at q
    exact q
  | @tup a b xs ys e h1 h2 hz =>
    cases rx; cases ry
    obtain ⟨i1, r1, p1, _⟩ := I.tuple h1
    obtain ⟨i2, r2, p2, _⟩ := I.tuple h2
    have e1 := r1.length
    have e2 := r2.length
    have el := hz.len
    have q := SeqAt.RcAt.tuples (A := A) (e := fun i => e.getD i false) p1 p2 hu
      (fun j h1 h2 => hz.run ih r1 r2 j (by simpa using h1) (by simpa using h2))
    rw [show min i1.toArray.size i2.toArray.size = e.length by simp only [List.size_toArray]; omega, range_all] at q
    have q2 : (i1.toArray.size == i2.toArray.size) = decide (xs.length = ys.length) := by
      rw [Bool.beq_eq_decide_eq]
      simp only [List.size_toArray]
      rw [e1, e2]
    rw [q2] at q
    exact q
  | lt h1 h2 =>
    cases rx; cases ry
    obtain ⟨i1, r1, p1, _⟩ := I.list h1
    obtain ⟨i2, r2, p2, _⟩ := I.tuple h2
    exact SeqAt.RcAt.list_tuple p1.isList p2 hu
  | tl h1 h2 =>
    cases rx; cases ry
    obtain ⟨i1, r1, p1, _⟩ := I.tuple h1
    obtain ⟨i2, r2, p2, _⟩ := I.list h2
    exact SeqAt.RcAt.tuple_list p1 p2.isList hu
  | ls h1 hs =>
    cases rx
    obtain ⟨i1, r1, p1, _⟩ := I.list h1
    cases y with
    | non => cases ry; exact SeqAt.RcAt.list_none p1.isList hu
    | bl b => cases ry; exact SeqAt.RcAt.list_bool _ p1.isList hu
    | int i => obtain ⟨t, rfl⟩ := ry; exact SeqAt.RcAt.list_int _ _ p1.isList hu
    | str z => obtain ⟨t, rfl⟩ := ry; exact SeqAt.RcAt.list_str _ _ p1.isList hu
    | _ => cases hs
  | sl h1 hs =>
    cases ry
    obtain ⟨i1, r1, p1, _⟩ := I.list h1
    cases x with
    | non => cases rx; exact SeqAt.RcAt.none_list p1.isList hu
    | bl b => cases rx; exact SeqAt.RcAt.bool_list _ p1.isList hu
    | int i => obtain ⟨t, rfl⟩ := rx; exact SeqAt.RcAt.int_list _ _ p1.isList hu
    | str z => obtain ⟨t, rfl⟩ := rx; exact SeqAt.RcAt.str_list _ _ p1.isList hu
    | _ => cases hs
  | ts h1 hs =>
    cases rx
    obtain ⟨i1, r1, p1, _⟩ := I.tuple h1
    cases y with
    | non => cases ry; exact SeqAt.RcAt.tuple_none p1 hu
    | bl b => cases ry; exact SeqAt.RcAt.tuple_bool _ p1 hu
    | int i => obtain ⟨t, rfl⟩ := ry; exact SeqAt.RcAt.tuple_int _ _ p1 hu
    | str z => obtain ⟨t, rfl⟩ := ry; exact SeqAt.RcAt.tuple_str _ _ p1 hu
    | _ => cases hs
  | st h1 hs =>
    cases ry
    obtain ⟨i1, r1, p1, _⟩ := I.tuple h1
    cases x with
    | non => cases rx; exact SeqAt.RcAt.none_tuple p1 hu
    | bl b => cases rx; exact SeqAt.RcAt.bool_tuple _ p1 hu
    | int i => obtain ⟨t, rfl⟩ := rx; exact SeqAt.RcAt.int_tuple _ _ p1 hu
    | str z => obtain ⟨t, rfl⟩ := rx; exact SeqAt.RcAt.str_tuple _ _ p1 hu
    | _ => cases hs
theorem EqR.runNe (I : Inv X pins σ H s) {E : V → V → Bool → Prop} {A : Around} (hu : A.units < cLine) (ih : ∀ {x y : V} {b : Bool} {v u : Value}, E x y b → RelV x v → RelV y u → SeqAt.EqAt A.in1 s v u b)
    {x y : V} {b : Bool} {v u : Value} (h : EqR X.K H E x y b) (rx : RelV x v) (ry : RelV y u) : SeqAt.RcNeAt A s v u (!b) := by
  cases h with
  | sc h => exact sc_ne h rx ry
  | bi a j => cases rx; obtain ⟨t, rfl⟩ := ry; exact SeqAt.RcNeAt.bool_int _ _ _
  | ib i b => cases ry; obtain ⟨t, rfl⟩ := rx; exact SeqAt.RcNeAt.int_bool _ _ _
  | ll h1 h2 hn =>
    cases rx; cases ry
    obtain ⟨i1, r1, p1, _⟩ := I.list h1
    obtain ⟨i2, r2, p2, _⟩ := I.list h2
    refine SeqAt.RcNeAt.lists_lengths p1.isList p2.isList ?_ hu
    have e1 := r1.length
    have e2 := r2.length
    simp only [List.size_toArray, bne_iff_ne]
    omega
  | @lst a b xs ys e h1 h2 hl hz =>
    cases rx; cases ry
    obtain ⟨i1, r1, p1, _⟩ := I.list h1
    obtain ⟨i2, r2, p2, _⟩ := I.list h2
    have e1 := r1.length
    have e2 := r2.length
    have el := hz.len
    have q := SeqAt.RcNeAt.lists (A := A) (e := fun i => e.getD i false) p1.isList p2.isList (by simp only [List.size_toArray]; omega) hu
      (fun j h1 h2 => hz.run ih r1 r2 j (by simpa using h1) (by simpa using h2))
    rw [show i1.toArray.size = e.length by simp only [List.size_toArray]; omega, range_all] at q
    exact q
  | @tup a b xs ys e h1 h2 hz =>
    cases rx; cases ry
    obtain ⟨i1, r1, p1, _⟩ := I.tuple h1
    obtain ⟨i2, r2, p2, _⟩ := I.tuple h2
    have e1 := r1.length
    have e2 := r2.length
    have el := hz.len
    have q := SeqAt.RcNeAt.tuples (A := A) (e := fun i => e.getD i false) p1 p2 hu
      (fun j h1 h2 => hz.run ih r1 r2 j (by simpa using h1) (by simpa using h2))
    rw [show min i1.toArray.size i2.toArray.size = e.length by simp only [List.size_toArray]; omega, range_all] at q
    have q2 : (i1.toArray.size == i2.toArray.size) = decide (xs.length = ys.length) := by
      rw [Bool.beq_eq_decide_eq]
      simp only [List.size_toArray]
      rw [e1, e2]
    rw [q2] at q
    exact q
  | lt h1 h2 =>
    cases rx; cases ry
    obtain ⟨i1, r1, p1, _⟩ := I.list h1
    obtain ⟨i2, r2, p2, _⟩ := I.tuple h2
    exact SeqAt.RcNeAt.list_tuple p1.isList p2 hu
  | tl h1 h2 =>
    cases rx; cases ry
    obtain ⟨i1, r1, p1, _⟩ := I.tuple h1
    obtain ⟨i2, r2, p2, _⟩ := I.list h2
    exact SeqAt.RcNeAt.tuple_list p1 p2.isList hu
  | ls h1 hs =>
    cases rx
    obtain ⟨i1, r1, p1, _⟩ := I.list h1
    cases y with
    | non => cases ry; exact SeqAt.RcNeAt.list_none p1.isList hu
    | bl b => cases ry; exact SeqAt.RcNeAt.list_bool _ p1.isList hu
    | int i => obtain ⟨t, rfl⟩ := ry; exact SeqAt.RcNeAt.list_int _ _ p1.isList hu
    | str z => obtain ⟨t, rfl⟩ := ry; exact SeqAt.RcNeAt.list_str _ _ p1.isList hu
    | _ => cases hs
  | sl h1 hs =>
    cases ry
    obtain ⟨i1, r1, p1, _⟩ := I.list h1
    cases x with
    | non => cases rx; exact SeqAt.RcNeAt.none_list p1.isList hu
    | bl b => cases rx; exact SeqAt.RcNeAt.bool_list _ p1.isList hu
    | int i => obtain ⟨t, rfl⟩ := rx; exact SeqAt.RcNeAt.int_list _ _ p1.isList hu
    | str z => obtain ⟨t, rfl⟩ := rx; exact SeqAt.RcNeAt.str_list _ _ p1.isList hu
    | _ => cases hs
  | ts h1 hs =>
    cases rx
    obtain ⟨i1, r1, p1, _⟩ := I.tuple h1
    cases y with
    | non => cases ry; exact SeqAt.RcNeAt.tuple_none p1 hu
    | bl b => cases ry; exact SeqAt.RcNeAt.tuple_bool _ p1 hu
    | int i => obtain ⟨t, rfl⟩ := ry; exact SeqAt.RcNeAt.tuple_int _ _ p1 hu
    | str z => obtain ⟨t, rfl⟩ := ry; exact SeqAt.RcNeAt.tuple_str _ _ p1 hu
    | _ => cases hs
  | st h1 hs =>
    cases ry
    obtain ⟨i1, r1, p1, _⟩ := I.tuple h1
    cases x with
    | non => cases rx; exact SeqAt.RcNeAt.none_tuple p1 hu
    | bl b => cases rx; exact SeqAt.RcNeAt.bool_tuple _ p1 hu
    | int i => obtain ⟨t, rfl⟩ := rx; exact SeqAt.RcNeAt.int_tuple _ _ p1 hu
    | str z => obtain ⟨t, rfl⟩ := rx; exact SeqAt.RcNeAt.str_tuple _ _ p1 hu
    | _ => cases hs
theorem EqI.run (I : Inv X pins σ H s) : ∀ {n : Nat} {A : Around}, A.units + n < cLine → ∀ {x y : V} {b : Bool} {v u : Value}, EqI X.K H n x y b → RelV x v → RelV y u → SeqAt.EqAt A s v u b
  | 0, _, _, _, _, _, _, _, h, _, _ => h.elim
  | n + 1, A, hu, x, y, b, v, u, h, rx, ry => by
    have hu1 : A.units < cLine := by omega
    rcases h with ⟨a, rfl, rfl, rfl⟩ | ⟨h, hn⟩
    · cases rx; cases ry; exact SeqAt.EqAt.same _
    · have ih : ∀ {x y : V} {b : Bool} {v u : Value}, EqI X.K H n x y b → RelV x v → RelV y u → SeqAt.EqAt A.in1 s v u b := EqI.run I (by show A.units + 1 + n < cLine; omega)
      by_cases hr : ∃ a b, x = V.ref a ∧ y = V.ref b
      · obtain ⟨a, b, rfl, rfl⟩ := hr
        have k := h.run I hu1 ih rx ry
        cases rx; cases ry
        exact SeqAt.EqAt.of_refs (fun e => hn a rfl (by rw [e])) k
      · have hu := hu1
        cases h with
        | sc h => exact sc_eq h rx ry
        | bi a j => cases rx; obtain ⟨t, rfl⟩ := ry; exact SeqAt.EqAt.bool_int _ _ _
        | ib i b => cases ry; obtain ⟨t, rfl⟩ := rx; exact SeqAt.EqAt.int_bool _ _ _
        | ll _ _ _ => exact absurd ⟨_, _, rfl, rfl⟩ hr
        | lst _ _ _ _ => exact absurd ⟨_, _, rfl, rfl⟩ hr
        | tup _ _ _ => exact absurd ⟨_, _, rfl, rfl⟩ hr
        | lt _ _ => exact absurd ⟨_, _, rfl, rfl⟩ hr
        | tl _ _ => exact absurd ⟨_, _, rfl, rfl⟩ hr
        | ls h1 hs =>
          cases rx
          obtain ⟨i1, r1, p1, _⟩ := I.list h1
          cases y with
          | non => cases ry; exact SeqAt.EqAt.list_none p1.isList hu
          | bl b => cases ry; exact SeqAt.EqAt.list_bool _ p1.isList hu
          | int i => obtain ⟨t, rfl⟩ := ry; exact SeqAt.EqAt.list_int _ _ p1.isList hu
          | str z => obtain ⟨t, rfl⟩ := ry; exact SeqAt.EqAt.list_str _ _ p1.isList hu
          | _ => cases hs
        | sl h1 hs =>
          cases ry
          obtain ⟨i1, r1, p1, _⟩ := I.list h1
          cases x with
          | non => cases rx; exact SeqAt.EqAt.none_list p1.isList hu
          | bl b => cases rx; exact SeqAt.EqAt.bool_list _ p1.isList hu
          | int i => obtain ⟨t, rfl⟩ := rx; exact SeqAt.EqAt.int_list _ _ p1.isList hu
          | str z => obtain ⟨t, rfl⟩ := rx; exact SeqAt.EqAt.str_list _ _ p1.isList hu
          | _ => cases hs
        | ts h1 hs =>
          cases rx
          obtain ⟨i1, r1, p1, _⟩ := I.tuple h1
          cases y with
          | non => cases ry; exact SeqAt.EqAt.tuple_none p1 hu
          | bl b => cases ry; exact SeqAt.EqAt.tuple_bool _ p1 hu
          | int i => obtain ⟨t, rfl⟩ := ry; exact SeqAt.EqAt.tuple_int _ _ p1 hu
          | str z => obtain ⟨t, rfl⟩ := ry; exact SeqAt.EqAt.tuple_str _ _ p1 hu
          | _ => cases hs
        | st h1 hs =>
          cases ry
          obtain ⟨i1, r1, p1, _⟩ := I.tuple h1
          cases x with
          | non => cases rx; exact SeqAt.EqAt.none_tuple p1 hu
          | bl b => cases rx; exact SeqAt.EqAt.bool_tuple _ p1 hu
          | int i => obtain ⟨t, rfl⟩ := rx; exact SeqAt.EqAt.int_tuple _ _ p1 hu
          | str z => obtain ⟨t, rfl⟩ := rx; exact SeqAt.EqAt.str_tuple _ _ p1 hu
          | _ => cases hs

/-- x == y, x != y -/
def rEqG (K : PySem.W.Frag) : R2 := fun x y H Q => ∃ b, EqR K H (EqI K H 60) x y b ∧ Q (.bl b) H
def rNeG (K : PySem.W.Frag) : R2 := fun x y H Q => ∃ b, EqR K H (EqI K H 60) x y b ∧ Q (.bl (!b)) H
theorem op_eqG (hu : X.A.units + 64 < cLine) : OpR X (compareOp .Eq) (rEqG X.K) := by
  intro pins s σ H x y v u Q I rx ry h
  obtain ⟨b, e, q⟩ := h
  exact e.run I (A := X.A) (by omega) (EqI.run I (by show X.A.units + 1 + 60 < cLine; omega)) rx ry X.prog X.w _ _ ⟨.bl b, H, I, rfl, q⟩
theorem op_neG (hu : X.A.units + 64 < cLine) : OpR X (compareOp .NotEq) (rNeG X.K) := by
  intro pins s σ H x y v u Q I rx ry h
  obtain ⟨b, e, q⟩ := h
  exact e.runNe I (A := X.A) (by omega) (EqI.run I (by show X.A.units + 1 + 60 < cLine; omega)) rx ry X.prog X.w _ _ ⟨.bl (!b), H, I, rfl, q⟩
end
end Z

/-! L3: wide rules (one rule a construct, whatever the kinds of its operands), and steps for their readings -/
namespace Z
open PySem PySem.Spec PyProof.Rows L2 Evl

/-! ### wide relations -/
def rAddA (K : PySem.W.Frag) : R2 := fun x y H Q => (∃ i j, x = .int i ∧ y = .int j ∧ Q (.int (i + j)) H) ∨ (∃ i j, x = .str i ∧ y = .str j ∧ i.length + j.length ≤ sizeLine ∧ Q (.str (i ++ j)) H) ∨ rCat x y H Q ∨ L2.rCatA K x y H Q
def rSubA : R2 := fun x y H Q => ∃ i j, x = .int i ∧ y = .int j ∧ Q (.int (i - j)) H
def rMulS : R2 := fun x y H Q => ∃ z n, x = .str z ∧ y = .int n ∧ MulOk z n ∧ Q (.str (Txt.mul z n)) H
def rMulA : R2 := fun x y H Q => (∃ i j, x = .int i ∧ y = .int j ∧ CMulW i j ∧ Q (.int (i * j)) H) ∨ rMulS x y H Q ∨ rRep x y H Q
def rDivA : R2 := fun x y H Q => ∃ i j, x = .int i ∧ y = .int j ∧ CDivW i j ∧ Q (.int (i / j)) H
def rModA : R2 := fun x y H Q => ∃ i j, x = .int i ∧ y = .int j ∧ 0 < j ∧ Q (.int (i % j)) H
def rPowA : R2 := fun x y H Q => ∃ i j, x = .int i ∧ y = .int j ∧ CPow i j ∧ Q (.int (i ^ j.toNat)) H
def rEqA (K : PySem.W.Frag) : R2 := fun x y H Q => rEq x y H Q ∨ rEqG K x y H Q ∨ rEqD K x y H Q
def rNeA (K : PySem.W.Frag) : R2 := fun x y H Q => rNe x y H Q ∨ rNeG K x y H Q ∨ rNeD K x y H Q
def rLtA : R2 := fun x y H Q => (∃ i j, x = .int i ∧ y = .int j ∧ Q (.bl (decide (i < j))) H) ∨ (∃ i j, x = .str i ∧ y = .str j ∧ Q (.bl (decide (i.cps.toList < j.cps.toList))) H)
def rLeA : R2 := fun x y H Q => (∃ i j, x = .int i ∧ y = .int j ∧ Q (.bl (decide (i ≤ j))) H) ∨ (∃ i j, x = .str i ∧ y = .str j ∧ Q (.bl (!decide (j.cps.toList < i.cps.toList))) H)
def rGtA : R2 := fun x y H Q => (∃ i j, x = .int i ∧ y = .int j ∧ Q (.bl (decide (j < i))) H) ∨ (∃ i j, x = .str i ∧ y = .str j ∧ Q (.bl (decide (j.cps.toList < i.cps.toList))) H)
def rGeA : R2 := fun x y H Q => (∃ i j, x = .int i ∧ y = .int j ∧ Q (.bl (decide (j ≤ i))) H) ∨ (∃ i j, x = .str i ∧ y = .str j ∧ Q (.bl (!decide (i.cps.toList < j.cps.toList))) H)
def rIsA : R2 := fun x y H Q => (y = .non ∧ Q (.bl (decide (x = .non))) H) ∨ rIsB x y H Q ∨ (∃ a b oa ob, x = .ref a ∧ y = .ref b ∧ H a = some oa ∧ isObj oa = true ∧ H b = some ob ∧ isObj ob = true ∧ Q (.bl (decide (a = b))) H)
def rNotA : R2 := fun x y H Q => (y = .non ∧ Q (.bl (!decide (x = .non))) H) ∨ rNotB x y H Q ∨ (∃ a b oa ob, x = .ref a ∧ y = .ref b ∧ H a = some oa ∧ isObj oa = true ∧ H b = some ob ∧ isObj ob = true ∧ Q (.bl (!decide (a = b))) H)
def rInA (K : PySem.W.Frag) : R2 := fun x y H Q => (∃ (c : Nat) (z : Str), x = .str ⟨#[c]⟩ ∧ y = .str z ∧ Q (.bl (decide (c ∈ z.cps.toList))) H) ∨ rIn K false x y H Q ∨ (∃ i j, x = .str i ∧ y = .str j ∧ Q (.bl (!(Builtin.Str.occurrences j i 0 j.length 1).isEmpty)) H)
def rNinA (K : PySem.W.Frag) : R2 := fun x y H Q => (∃ (c : Nat) (z : Str), x = .str ⟨#[c]⟩ ∧ y = .str z ∧ Q (.bl (!decide (c ∈ z.cps.toList))) H) ∨ rIn K true x y H Q ∨ (∃ i j, x = .str i ∧ y = .str j ∧ Q (.bl (!(!(Builtin.Str.occurrences j i 0 j.length 1).isEmpty))) H)
def rSlA (K : PySem.W.Frag) : V → Option Int → Option Int → Hp → VK → Prop := fun x lo hi H Q => rSlS x lo hi H Q ∨ rSlL K x lo hi H Q ∨ L2.rSlA K x lo hi H Q
def rLenA (K : PySem.W.Frag) : List V → Hp → VK → Prop := fun xs H Q => (∃ x n, xs = [x] ∧ LenV K x H n ∧ Q (.int n) H) ∨ (∃ a kvs, xs = [V.ref a] ∧ H a = some (.dK kvs) ∧ Q (.int kvs.length) H)
def rMaxA (K : PySem.W.Frag) : List V → Hp → VK → Prop := fun xs H Q => (∃ i j, xs = [.int i, .int j] ∧ Q (.int (if j > i then j else i)) H) ∨ rMax K xs H Q
def rMinA (K : PySem.W.Frag) : List V → Hp → VK → Prop := fun xs H Q => (∃ i j, xs = [.int i, .int j] ∧ Q (.int (if j < i then j else i)) H) ∨ rMin K xs H Q
def rJoinA (K : PySem.W.Frag) : V → List V → Hp → VK → Prop := fun x xs H Q => ∃ a p, ∃ ys : List Str, x = .str a ∧ xs = [.ref p] ∧ (SqL K H p (ys.map V.str) ∨ SqT K H p (ys.map V.str)) ∧ (ys.map (·.length)).sum + ys.length * a.length ≤ 16777216 ∧ Q (.str (Txt.join a ys)) H
def rUpper : V → List V → Hp → VK → Prop := fun x xs H Q => ∃ a, x = .str a ∧ xs = [] ∧ a.length ≤ 5592405 ∧ Q (.str (Txt.upper a)) H
def iAny (K : PySem.W.Frag) (te : TE) : TI := fun σ H R => iList K te σ H R ∨ iTup K te σ H R ∨ iStr te σ H R

section
variable {X : Cx}
theorem op_addA : OpR X (binaryOp .Add) (rAddA X.K) := op_add.or (op_add_str.or (op_cat.or op_catA))
theorem op_subA : OpR X (binaryOp .Sub) rSubA := op_sub
theorem op_mulS : OpR X (binaryOp .Mult) rMulS := by
  intro pins s σ H x y v u Q I rx ry h
  obtain ⟨i, j, rfl, rfl, hz, q⟩ := h
  obtain ⟨t, rfl⟩ := rx
  obtain ⟨t', rfl⟩ := ry
  exact SB.mul hz fun t' k => ⟨.str _, H, I.tok _, ⟨_, rfl⟩, q⟩
theorem op_mulA : OpR X (binaryOp .Mult) rMulA := op_mulW.or (op_mulS.or op_rep)
theorem op_divA : OpR X (binaryOp .FloorDiv) rDivA := op_fdivW
theorem op_modA : OpR X (binaryOp .Mod) rModA := op_mod
theorem op_powA : OpR X (binaryOp .Pow) rPowA := op_pow
theorem op_eqA (hu : X.A.units + 64 < cLine) : OpR X (compareOp .Eq) (rEqA X.K) := op_eq.or ((op_eqG hu).or (op_eqD hu))
theorem op_neA (hu : X.A.units + 64 < cLine) : OpR X (compareOp .NotEq) (rNeA X.K) := op_ne.or ((op_neG hu).or (op_neD hu))
theorem op_ltA : OpR X (compareOp .Lt) rLtA := op_lt.or op_lt_str
theorem op_leA : OpR X (compareOp .LtE) rLeA := op_le.or op_le_str
theorem op_gtA : OpR X (compareOp .Gt) rGtA := op_gt.or op_gt_str
theorem op_geA : OpR X (compareOp .GtE) rGeA := op_ge.or op_ge_str
theorem op_isA : OpR X (compareOp .Is) rIsA := op_isN.or (op_isBl.or op_is_ref)
theorem op_notA : OpR X (compareOp .IsNot) rNotA := op_notN.or (op_notBl.or op_isnot_ref)
theorem op_inA : OpR X (compareOp .In) (rInA X.K) := op_in_sign.or (op_in_seq.or op_in_str)
theorem op_ninA : OpR X (compareOp .NotIn) (rNinA X.K) := op_notIn_sign.or (op_notIn_seq.or op_notIn_str)
theorem sl_A : SlR X (rSlA X.K) := sl_str.or (sl_list.or sl_tupA)
theorem call_lenA : CallR X (.builtin "len") (rLenA X.K) := call_len.or call_lenD
theorem call_maxA (hc : X.calm = true) : CallR X (.builtin "max") (rMaxA X.K) := (call_max2 hc).or (cr_max hc)
theorem call_minA (hc : X.calm = true) : CallR X (.builtin "min") (rMinA X.K) := (call_min2 hc).or (cr_min hc)
theorem PI.or {tg iter : Expr} {w1 w2 : TI} (h1 : PI X tg iter w1) (h2 : PI X tg iter w2) : PI X tg iter (fun σ H R => w1 σ H R ∨ w2 σ H R) :=
  ⟨fun pins s σ H R I h => h.elim (h1.run pins s σ H R I) (h2.run pins s σ H R I)⟩
theorem pi_any {tg e : Expr} {te : TE} (he : PE X e te) : PI X tg e (iAny X.K te) := PI.or (pi_list he) (PI.or (pi_tup he) (pi_str he))
theorem pe_gint {x : Str} {i : Int} {pos : Pos} (hg : Gl X x) (hm : ∃ t, X.mg x = some (.int i t)) (hd : (x == ("__debug__" : Str)) = false := by decide) : PE X (.Name x pos) (tC (.int i)) :=
  let ⟨t, h⟩ := hm
  pe_glob hg h ⟨t, rfl⟩ hd
theorem pe_gstr {x : Str} {i : Str} {pos : Pos} (hg : Gl X x) (hm : ∃ t, X.mg x = some (.str i t)) (hd : (x == ("__debug__" : Str)) = false := by decide) : PE X (.Name x pos) (tC (.str i)) :=
  let ⟨t, h⟩ := hm
  pe_glob hg h ⟨t, rfl⟩ hd
end

/-! ### a def behind the top, its promise -/
structure Fok (P : Program) (w : World) (K : PySem.W.Frag) (mg : Str → Option Value) (base : Heap) (CX : CXT) (k : Nat) (x : Str) (ps : List Str) (sp : Sp) : Prop where
  ex : ∃ fd, FnOk P w K mg base CX k (He.ga K x) fd ps sp ∧ Binds K fd ps []
  hm : mg x = some (.ref (He.ga K x))
  kp : PySem.W.keepIn K (.ref (He.ga K x)) = true
theorem pe_callF {X : Cx} {CX : CXT} {k : Nat} {x : Str} {ps : List Str} {sp : Sp} {E : XK} {e : Expr} {es : List Expr} {t : TA} {p pos : Pos} (F : Fok X.prog X.w X.K X.mg X.base CX k x ps sp) (hr : Room k X.A) (hg : Gl X x) (hx : Passes CX X E)
    (ha : PA X (e :: es) t) (hdb : (x == ("__debug__" : Str)) = false := by decide) (he : starEach (e :: es) X.env = (false, eval e X.env) :: starEach es X.env := by rfl) (hpl : (backTo pos (starEach es X.env)).any (·.1) = false := by rfl) :
    PE X (.Call (.Name x p) (e :: es) [] pos) (tCall sp [] E t) :=
  let ⟨_, h1, h2⟩ := F.ex
  pe_call h1 hr hg F.hm F.kp h2 .nil hx ha hdb he hpl

/-! ### heaps -/
/-- all but the object at p is as it was -/
def But (p : Addr) (H H' : Hp) : Prop := ∀ a o, H a = some o → a ≠ p → H' a = some o
theorem Ex.but {p : Addr} {H H' : Hp} (e : Ex H H') : But p H H' := fun a o h _ => e a o h
theorem But.refl {p : Addr} {H : Hp} : But p H H := fun _ _ h _ => h
theorem But.trans {p : Addr} {H H1 H2 : Hp} (a : But p H H1) (b : But p H1 H2) : But p H H2 := fun x o h n => b x o (a x o h n) n
theorem But.ex {p : Addr} {H H1 H2 : Hp} (a : But p H H1) (b : Ex H1 H2) : But p H H2 := fun x o h n => b x o (a x o h n)
theorem But.new {p q : Addr} {H H1 : Hp} {o : HO} (a : But p H H1) (h : H1 q = none) : But p H (upd H1 q o) := a.ex (Ex.new h)
theorem But.set {p : Addr} {H H1 : Hp} {o : HO} (a : But p H H1) : But p H (upd H1 p o) := fun x o h n => by
  rw [upd_ne n]
  exact a x o h n
theorem look_new {H : Hp} {a b : Addr} {o u : HO} (h : H a = some o) (hn : H b = none) : upd H b u a = some o := Ex.new hn _ _ h
theorem look_mut {H : Hp} {a b : Addr} {o u : HO} (h : H a = some o) (hn : a ≠ b) : upd H b u a = some o := by
  rw [upd_ne hn]
  exact h
theorem look_ex {H H' : Hp} {a : Addr} {o : HO} (s : Ex H H') (h : H a = some o) : H' a = some o := s _ _ h
theorem look_but {H H' : Hp} {a p : Addr} {o : HO} (s : But p H H') (h : H a = some o) (n : a ≠ p) : H' a = some o := s _ _ h n
theorem ne_back {H : Hp} {a b : Addr} {o : HO} (h : H a = some o) (h' : H b = none) : b ≠ a := fun e => ne_of_none h h' e.symm

theorem len_ok {n : Nat} (h : n ≤ 16777216) : n ≤ sizeLine := by
  rw [sizeLine_eq]
  exact h
/-! ### steps -/
section
variable {K : PySem.W.Frag} {σ : L2.St} {H : Hp} {Q : VK} {ta tb : TE} {x y v : V}
theorem s_var {i : Nat} (h : σ[i]? = some (some v)) (q : Q v H) : tVar i σ H Q := ⟨v, h, q⟩
theorem s_c (q : Q v H) : tC v σ H Q := q
theorem s_op {r : R2} (h : ta σ H fun x H1 => tb σ H1 fun y H2 => r x y H2 Q) : tOp r ta tb σ H Q := h
theorem s_un {r : V → Hp → VK → Prop} (h : ta σ H fun x H1 => r x H1 Q) : tUn r ta σ H Q := h
theorem s_rU {g : Int → V} {i : Int} (q : Q (g i) H) : rU g (.int i) H Q := ⟨i, rfl, q⟩
theorem s_cb {r : List V → Hp → VK → Prop} {t : TA} (h : t σ H fun vs H1 => r vs H1 Q) : tCB r t σ H Q := h
theorem s_call {sp : Sp} {E : XK} {t : TA} (h : t σ H fun vs H1 => sp vs H1 Q E) : tCall sp [] E t σ H Q := by
  show t σ H fun vs H1 => sp (vs ++ []) H1 Q E
  simp only [List.append_nil]
  exact h
theorem s_if {t : TT} (h : t σ H fun c H1 => if c = true then ta σ H1 Q else tb σ H1 Q) : tIf t ta tb σ H Q := h
theorem s_andV (h : ta σ H fun x H1 => ∃ c, x = .bl c ∧ if c = true then tb σ H1 Q else Q (.bl false) H1) : tAndV ta tb σ H Q := h
theorem s_orV (h : ta σ H fun x H1 => ∃ c, x = .bl c ∧ if c = true then Q (.bl true) H1 else tb σ H1 Q) : tOrV ta tb σ H Q := h
theorem s_notV (h : ta σ H fun x H1 => ∃ c, x = .bl c ∧ Q (.bl (!c)) H1) : tNotV ta σ H Q := h
theorem s_bl {c : Bool} {R : Bool → Prop} (h : R c) : ∃ d, V.bl c = .bl d ∧ R d := ⟨c, rfl, h⟩
theorem s_chain {r r' : R2} {tc : TE} (h : ta σ H fun x H1 => tb σ H1 fun y H2 => r x y H2 fun z H3 => ∃ k, z = .bl k ∧ (if k = true then tc σ H3 fun w' H4 => r' y w' H4 Q else Q (.bl false) H3)) : tChain r r' ta tb tc σ H Q := h
theorem s_lst {t : TA} (h : t σ H fun xs H1 => xs.length ≤ sizeLine ∧ ∀ p, H1 p = none → Q (.ref p) (upd H1 p (.lst xs))) : tLst t σ H Q := h
theorem s_tup {t : TA} (h : t σ H fun xs H1 => xs.length ≤ sizeLine ∧ ∀ p, H1 p = none → Q (.ref p) (upd H1 p (.tup xs))) : tTup t σ H Q := h
theorem s_sl {r : V → Option Int → Option Int → Hp → VK → Prop} {tl th : TO} (h : ta σ H fun x H1 => tl σ H1 fun l H2 => th σ H2 fun u H3 => r x l u H3 Q) : tSl r ta tl th σ H Q := h
theorem s_m0 {r : V → List V → Hp → VK → Prop} {z : Str} (h : r (.str z) [] H Q) : (fun (x : V) H1 => (∃ a, x = .str a) ∧ r x [] H1 Q) (.str z) H := ⟨⟨z, rfl⟩, h⟩
section
variable {R : Bool → Hp → Prop} {t u : TT}
theorem s_test (h : ta σ H fun x H' => ∃ k, x = .bl k ∧ R k H') : tTest ta σ H R := h
theorem s_B (h : ta σ H fun x H' => ∃ k, x = .bl k ∧ R k H') : tB ta σ H R := h
theorem s_and (h : t σ H fun c H1 => if c = true then u σ H1 R else R false H1) : tAnd t u σ H R := h
theorem s_or (h : t σ H fun c H1 => if c = true then R true H1 else u σ H1 R) : tOr t u σ H R := h
theorem s_not (h : t σ H fun c H1 => R (!c) H1) : tNot t σ H R := h
theorem s_yes (h : R true H) : tYes σ H R := h
end
section
variable {R : List V → Hp → Prop} {t : TA}
theorem s_nil (h : R [] H) : tNil σ H R := h
theorem s_cons (h : ta σ H fun x H1 => t σ H1 fun xs H2 => R (x :: xs) H2) : tCons ta t σ H R := h
end
section
variable {R : Option Int → Hp → Prop}
theorem s_nopart (h : R none H) : tNoPart σ H R := h
theorem s_part (h : ta σ H fun x H1 => ∃ i, x = .int i ∧ R (some i) H1) : tPart ta σ H R := h
theorem s_int {i : Int} {R : Int → Prop} (h : R i) : ∃ j, V.int i = .int j ∧ R j := ⟨i, rfl, h⟩
end
theorem s_itet {b : Bool} {A B : Prop} (e : b = true) (h : A) : if b = true then A else B := by
  rw [if_pos e]
  exact h
theorem s_itef {b : Bool} {A B : Prop} (e : b = false) (h : B) : if b = true then A else B := by
  rw [e]
  exact iteF h
/-- what a part gives, whatever follows -/
theorem via {te : TE} (R : V → Hp → Prop) (h : ∀ F : VK, (∀ v H', R v H' → F v H') → te σ H F) (q : ∀ v H', R v H' → Q v H') : te σ H Q := h Q q
theorem ite_via {c : Prop} [Decidable c] {t1 t2 : TE} (R : V → Hp → Prop) (h1 : c → ∀ F : VK, (∀ v H', R v H' → F v H') → t1 σ H F) (h2 : ¬ c → ∀ F : VK, (∀ v H', R v H' → F v H') → t2 σ H F) (q : ∀ v H', R v H' → Q v H') :
    if c then t1 σ H Q else t2 σ H Q := ite2 (fun h => h1 h Q q) (fun h => h2 h Q q)
/-! operators by kinds -/
theorem s_addI {i j : Int} (q : Q (.int (i + j)) H) : rAddA K (.int i) (.int j) H Q := .inl ⟨i, j, rfl, rfl, q⟩
theorem s_addS {i j : Str} (h : i.length + j.length ≤ sizeLine) (q : Q (.str (i ++ j)) H) : rAddA K (.str i) (.str j) H Q := .inr (.inl ⟨i, j, rfl, rfl, h, q⟩)
theorem s_addL {a b : Addr} {xs ys : List V} (ha : H a = some (.lst xs)) (hb : H b = some (.lst ys)) (h : xs.length + ys.length ≤ sizeLine) (q : ∀ p, H p = none → Q (.ref p) (upd H p (.lst (xs ++ ys)))) : rAddA K (.ref a) (.ref b) H Q :=
  .inr (.inr (.inl ⟨a, b, xs, ys, rfl, rfl, ha, hb, h, q⟩))
theorem s_addT {a b : Addr} {xs ys : List V} (ha : H a = some (.tup xs)) (hb : H b = some (.tup ys)) (hx : xs ≠ []) (hy : ys ≠ []) (h : xs.length + ys.length ≤ sizeLine) (q : ∀ p, H p = none → Q (.ref p) (upd H p (.tup (xs ++ ys)))) : rAddA K (.ref a) (.ref b) H Q :=
  .inr (.inr (.inr ⟨a, b, xs, ys, rfl, rfl, SqT.of ha, SqT.of hb, h, fun e => absurd e hx, fun _ e => absurd e hy, fun _ _ => q⟩))
theorem s_subI {i j : Int} (q : Q (.int (i - j)) H) : rSubA (.int i) (.int j) H Q := ⟨i, j, rfl, rfl, q⟩
theorem s_mulI {i j : Int} (h : CMulW i j) (q : Q (.int (i * j)) H) : rMulA (.int i) (.int j) H Q := .inl ⟨i, j, rfl, rfl, h, q⟩
theorem s_mulS {z : Str} {n : Int} (h : MulOk z n) (q : Q (.str (Txt.mul z n)) H) : rMulA (.str z) (.int n) H Q := .inr (.inl ⟨z, n, rfl, rfl, h, q⟩)
theorem s_divI {i j : Int} (h : CDivW i j) (q : Q (.int (i / j)) H) : rDivA (.int i) (.int j) H Q := ⟨i, j, rfl, rfl, h, q⟩
theorem s_modI {i j : Int} (h : 0 < j) (q : Q (.int (i % j)) H) : rModA (.int i) (.int j) H Q := ⟨i, j, rfl, rfl, h, q⟩
theorem s_powI {i j : Int} (h : CPow i j) (q : Q (.int (i ^ j.toNat)) H) : rPowA (.int i) (.int j) H Q := ⟨i, j, rfl, rfl, h, q⟩
theorem s_eqS (h : scal x y = true) (q : Q (.bl (decide (x = y))) H) : rEqA K x y H Q := .inl ⟨h, q⟩
theorem s_neS (h : scal x y = true) (q : Q (.bl (!decide (x = y))) H) : rNeA K x y H Q := .inl ⟨h, q⟩
theorem s_eqD {d e : PyData} (hd : Dp K H x d) (he : Dp K H y e) (sd : SeqAt.shaped d = true) (se : SeqAt.shaped e = true) (q : Q (.bl (PyData.eqv d e)) H) : rEqA K x y H Q := .inr (.inr ⟨d, e, hd, he, sd, se, q⟩)
theorem s_neD {d e : PyData} (hd : Dp K H x d) (he : Dp K H y e) (sd : SeqAt.shaped d = true) (se : SeqAt.shaped e = true) (q : Q (.bl (!PyData.eqv d e)) H) : rNeA K x y H Q := .inr (.inr ⟨d, e, hd, he, sd, se, q⟩)
theorem s_eqG {b : Bool} (h : EqR K H (EqI K H 60) x y b) (q : Q (.bl b) H) : rEqA K x y H Q := .inr (.inl ⟨b, h, q⟩)
theorem s_neG {b : Bool} (h : EqR K H (EqI K H 60) x y b) (q : Q (.bl (!b)) H) : rNeA K x y H Q := .inr (.inl ⟨b, h, q⟩)
/-- a list against the empty one -/
theorem eq_nil {K : PySem.W.Frag} {H : Hp} {a b : Addr} {xs : List V} {E : V → V → Bool → Prop} (ha : H a = some (.lst xs)) (hb : H b = some (.lst [])) : EqR K H E (.ref a) (.ref b) xs.isEmpty := by
  cases xs with
  | nil => exact .lst (e := []) (SqL.of ha) (SqL.of hb) rfl .nil
  | cons x xs => exact .ll (SqL.of ha) (SqL.of hb) (by simp)
theorem s_eqNil {a b : Addr} {xs : List V} (ha : H a = some (.lst xs)) (hb : H b = some (.lst [])) (q : Q (.bl xs.isEmpty) H) : rEqA K (.ref a) (.ref b) H Q := s_eqG (eq_nil ha hb) q
theorem s_neNil {a b : Addr} {xs : List V} (ha : H a = some (.lst xs)) (hb : H b = some (.lst [])) (q : Q (.bl (!xs.isEmpty)) H) : rNeA K (.ref a) (.ref b) H Q := s_neG (eq_nil ha hb) q
theorem s_ltI {i j : Int} (q : Q (.bl (decide (i < j))) H) : rLtA (.int i) (.int j) H Q := .inl ⟨i, j, rfl, rfl, q⟩
theorem s_leI {i j : Int} (q : Q (.bl (decide (i ≤ j))) H) : rLeA (.int i) (.int j) H Q := .inl ⟨i, j, rfl, rfl, q⟩
theorem s_gtI {i j : Int} (q : Q (.bl (decide (j < i))) H) : rGtA (.int i) (.int j) H Q := .inl ⟨i, j, rfl, rfl, q⟩
theorem s_geI {i j : Int} (q : Q (.bl (decide (j ≤ i))) H) : rGeA (.int i) (.int j) H Q := .inl ⟨i, j, rfl, rfl, q⟩
theorem s_isN (q : Q (.bl (decide (x = .non))) H) : rIsA x .non H Q := .inl ⟨rfl, q⟩
theorem s_notN (q : Q (.bl (!decide (x = .non))) H) : rNotA x .non H Q := .inl ⟨rfl, q⟩
theorem s_isB {a b : Bool} (q : Q (.bl (decide (a = b))) H) : rIsA (.bl a) (.bl b) H Q := .inr (.inl ⟨a, b, rfl, rfl, q⟩)
theorem s_notB {a b : Bool} (q : Q (.bl (!decide (a = b))) H) : rNotA (.bl a) (.bl b) H Q := .inr (.inl ⟨a, b, rfl, rfl, q⟩)
theorem s_in1 {c : Nat} {z : Str} (q : Q (.bl (decide (c ∈ z.cps.toList))) H) : rInA K (.str ⟨#[c]⟩) (.str z) H Q := .inl ⟨c, z, rfl, rfl, q⟩
theorem s_nin1 {c : Nat} {z : Str} (q : Q (.bl (!decide (c ∈ z.cps.toList))) H) : rNinA K (.str ⟨#[c]⟩) (.str z) H Q := .inl ⟨c, z, rfl, rfl, q⟩
theorem s_ixL {p : Addr} {xs : List V} {i : Int} (h : H p = some (.lst xs)) (ha : atI xs i = some v) (q : Q v H) : rIx K (.ref p) (.int i) H Q := .inl ⟨p, xs, i, v, rfl, rfl, SqL.of h, ha, q⟩
theorem s_ixLK {p : Addr} {xs : List V} {i : Int} (h : SqL K H p xs) (ha : atI xs i = some v) (q : Q v H) : rIx K (.ref p) (.int i) H Q := .inl ⟨p, xs, i, v, rfl, rfl, h, ha, q⟩
theorem s_ixT {p : Addr} {xs : List V} {i : Int} (h : H p = some (.tup xs)) (ha : atI xs i = some v) (q : Q v H) : rIx K (.ref p) (.int i) H Q := .inr (.inl ⟨p, xs, i, v, rfl, rfl, SqT.of h, ha, q⟩)
theorem s_ixS {z : Str} {i : Int} {c : Nat} (h : z.length ≤ sizeLine) (ha : atI z.cps.toList i = some c) (q : Q (.str ⟨#[c]⟩) H) : rIx K (.str z) (.int i) H Q := .inr (.inr ⟨z, i, c, rfl, rfl, h, ha, q⟩)
theorem s_slS {z : Str} {lo hi : Option Int} (h : z.length ≤ sizeLine) (q : Q (.str (cutS z lo hi)) H) : rSlA K (.str z) lo hi H Q := .inl ⟨z, rfl, h, q⟩
theorem s_lenS {z : Str} (h : z.length ≤ sizeLine) (q : Q (.int z.length) H) : rLenA K [.str z] H Q := .inl ⟨_, _, rfl, ⟨h, rfl⟩, q⟩
theorem s_lenL {p : Addr} {xs : List V} (h : H p = some (.lst xs)) (q : Q (.int xs.length) H) : rLenA K [.ref p] H Q := .inl ⟨_, _, rfl, .inl ⟨xs, SqL.of h, rfl⟩, q⟩
theorem s_lenLK {p : Addr} {xs : List V} (h : SqL K H p xs) (q : Q (.int xs.length) H) : rLenA K [.ref p] H Q := .inl ⟨_, _, rfl, .inl ⟨xs, h, rfl⟩, q⟩
theorem s_lenT {p : Addr} {xs : List V} (h : H p = some (.tup xs)) (q : Q (.int xs.length) H) : rLenA K [.ref p] H Q := .inl ⟨_, _, rfl, .inr ⟨xs, SqT.of h, rfl⟩, q⟩
theorem s_max2 {i j : Int} (q : Q (.int (if j > i then j else i)) H) : rMaxA K [.int i, .int j] H Q := .inl ⟨i, j, rfl, q⟩
theorem s_min2 {i j : Int} (q : Q (.int (if j < i then j else i)) H) : rMinA K [.int i, .int j] H Q := .inl ⟨i, j, rfl, q⟩
/-! statements -/
section
variable {D : Ends} {t u : TS} {c : TT} {g : TG}
theorem s_seq (h : t { D with nx := u D } σ H) : tSeq t u D σ H := h
theorem s_cut (Mid : L2.St → Hp → Prop) (h : t { D with nx := Mid } σ H) (k : ∀ σ' H', Mid σ' H' → u D σ' H') : tCut t u D σ H := ⟨Mid, h, k⟩
theorem s_ifS (h : c σ H fun b H1 => if b = true then t D σ H1 else u D σ H1) : tIfS c t u D σ H := h
theorem s_ret (h : ta σ H D.rt) : tRet ta D σ H := h
theorem s_retN (h : D.rt .non H) : tRetN D σ H := h
theorem s_next (h : D.nx σ H) : tNext D σ H := h
theorem s_drop (h : ta σ H fun _ H1 => D.nx σ H1) : tDrop ta D σ H := h
theorem s_asg (h : ta σ H fun x H1 => g x σ H1 D.nx) : tAsg ta g D σ H := h
theorem s_gTup {n : Nat} {gs : TGs} {a : Addr} {xs : List V} {R : L2.St → Hp → Prop} (h : H a = some (.tup xs)) (hn : xs.length = n) (q : gs xs σ H R) : gTup K n gs (.ref a) σ H R := ⟨a, xs, rfl, SqT.of h, hn, q⟩
theorem s_gCons {gs : TGs} {vs : List V} {R : L2.St → Hp → Prop} (q : g v σ H fun σ' H' => gs vs σ' H' R) : gCons g gs (v :: vs) σ H R := ⟨v, vs, rfl, q⟩
theorem s_gNil {R : L2.St → Hp → Prop} (q : R σ H) : gNil [] σ H R := ⟨rfl, q⟩
theorem s_gSub {to ti : TE} {st : TSet} {R : L2.St → Hp → Prop} (q : to σ H fun o H1 => ti σ H1 fun i H2 => st o i v H2 fun H3 => R σ H3) : gSub to ti st v σ H R := q
theorem s_setL {p : Addr} {k : Int} {xs : List V} {j : Nat} {R : Hp → Prop} (h : H p = some (.lst xs)) (hj : ixN xs.length k = some j) (q : R (upd H p (.lst (xs.set j v)))) : rSetL (.ref p) (.int k) v H R := ⟨p, xs, k, j, rfl, rfl, h, hj, q⟩
theorem s_gName {i : Nat} {R : L2.St → Hp → Prop} (h : R (σ.set i (some v)) H) : gName i v σ H R := h
end
end
/-- an item of a menu by a draw -/
theorem at_mem {α : Type} {xs : List α} {d : Int} (h0 : 0 ≤ d) (h1 : d < (xs.length : Int)) : ∃ v, v ∈ xs ∧ atI xs d = some v := by
  have hj : d.toNat < xs.length := by omega
  refine ⟨xs[d.toNat], List.getElem_mem hj, ?_⟩
  have e : ∀ (z : Int) (j : Nat) (v : α), z = (j : Int) → xs[j]? = some v → atI xs z = some v := fun z j v e h => by
    rw [e]
    exact atI_nat h
  exact e d d.toNat _ (by omega) (by simp [hj])
theorem s_menuL {K : PySem.W.Frag} {H : Hp} {Q : VK} {p : Addr} {xs : List V} {i : Int} (h : H p = some (.lst xs)) (h0 : 0 ≤ i) (h1 : i < (xs.length : Int)) (q : ∀ v, v ∈ xs → Q v H) : rIx K (.ref p) (.int i) H Q := by
  obtain ⟨v, hv, e⟩ := at_mem h0 h1
  exact s_ixL h e (q v hv)
theorem s_menuS {K : PySem.W.Frag} {H : Hp} {Q : VK} {z : Str} {i : Int} (h : z.length ≤ sizeLine) (h0 : 0 ≤ i) (h1 : i < (z.cps.toList.length : Int)) (q : ∀ c, c ∈ z.cps.toList → Q (.str ⟨#[c]⟩) H) : rIx K (.str z) (.int i) H Q := by
  obtain ⟨v, hv, e⟩ := at_mem h0 h1
  exact s_ixS h e (q v hv)
end Z

/-! ### facts of one's own in the hook -/
namespace Z
open PySem PySem.Spec PyProof.Rows L2
def eqB {α : Type} [DecidableEq α] (a b : α) : Bool := decide (a = b)
theorem eqB_ok {α : Type} [DecidableEq α] {a b : α} (h : eqB a b = true) : a = b := of_decide_eq_true h
/-- a class over ValueError, by whatever classes of the module -/
def clsB (K : PySem.W.Frag) (C : Addr) : Bool := match K.lookup C with
  | some ⟨.type "type", _, .cls cd, sl⟩ => (match cd.mro, sl.toList with
    | .ref C' :: bm, [_, _, _, _, some (.builtin n), _] => C' == C && (n == "ValueError.__new__" && (!cd.hasDel && (cd.hasDict && PySem.HandSPX.refsVE bm)))
    | _, _ => false)
  | _ => false
theorem clsB_ok {K : PySem.W.Frag} {C : Addr} (q : clsB K C = true) : ∃ nm q N bs bm sn sub ab col dd k0 k1 k2 k3 k5, K.lookup C = some (excClassObj nm q C N bs bm true sn sub ab col dd k0 k1 k2 k3 k5 "ValueError.__new__") ∧ PySem.HandSPX.refsVE bm = true := by
  unfold clsB at q
  split at q
  · rename_i dd cd sl ho
    split at q
    · rename_i C' bm k0 k1 k2 k3 n k5 hm hs
      simp only [Bool.and_eq_true, beq_iff_eq, Bool.not_eq_true'] at q
      obtain ⟨rfl, rfl, hdel, hdict, ht⟩ := q
      obtain ⟨nm, bs, mro, ns, qn, hd, sn, sub, ab, col, del⟩ := cd
      dsimp only at hm hdel hdict
      subst hm hdel hdict
      have hsl : sl = #[k0, k1, k2, k3, some (.builtin "ValueError.__new__"), k5] := by
        obtain ⟨l⟩ := sl
        simp only at hs
        rw [hs]
      subst hsl
      exact ⟨nm, qn, ns, bs, bm, sn, sub, ab, col, dd, k0, k1, k2, k3, k5, ho, ht⟩
    · cases q
  · cases q
abbrev FnS : Type := Option (Str × Str × Arguments × FuncBody × Scope × Addr × List Str × Addr)
/-- a function that closes over cells: the cells' names -/
def fnS (K : PySem.W.Frag) (p : Str × Option Str) : FnS := match K.lookup (He.fAd K p) with
  | some ⟨_, _, .func fd, _⟩ => some (fd.name, fd.qualname, fd.params, fd.body, fd.scope, fd.globals, fd.closure.map (·.1), fd.builtins)
  | _ => none
def initC (P0 : Program) (K : PySem.W.Frag) (C fI : Addr) : Bool := match K.lookup fI with
  | some ⟨_, _, .func fd, _⟩ => (match fd.code, fd.closure, fd.defaults, fd.kwdefaults with
    | .ref cda, [(_, cc)], .none, .none => PySem.W.codeIn K (.ref cda) fd.qualname && ((match K.lookup cc with
      | some ⟨_, _, .cell (some (.ref D)), _⟩ => D == C
      | _ => false) && (match K.lookup cda with
      | some ⟨_, _, .fields vs, _⟩ => (match (vs : Array Value)[2]? with
        | some (Value.str file _) => (P0.main.file : Str) == file
        | _ => false)
      | _ => false))
    | _, _, _, _ => false)
  | _ => false
def initB (P0 : Program) (K : PySem.W.Frag) (x : Str) : Bool :=
  eqB (PySem.W.findIn K (.ref (He.ga K x)) "__init__") (some (some (.ref (He.ma K (He.ga K x) "__init__")))) && (eqB (PySem.W.typeIn K (.ref (He.ma K (He.ga K x) "__init__"))) (some (.type "function")) &&
  ((PySem.W.keepIn K (.ref (He.ga K x)) && (eqB (PySem.W.subIn K (.ref (He.ga K x)) (.type "BaseException")) (some true) && (eqB (PySem.W.subIn K (.ref (He.ga K x)) (.type "ValueError")) (some true) && (eqB (PySem.W.typeIn K (.ref (He.ga K x))) (some (.type "type")) &&
    (eqB (PySem.W.mroIn K (He.ga K x) (.ref (He.ga K x))) (some true) && (eqB (PySem.W.nsIn K cStatics "thirdparty.any") (some none) && eqB (PySem.W.ks_superIn K (He.ga K x) (He.ga K x) "__init__") (some (some (.builtin "ValueError.__init__"))))))))) && initC P0 K (He.ga K x) (He.ma K (He.ga K x) "__init__")))
theorem initB_ok {P0 : Program} {K : PySem.W.Frag} {x : Str} (c : initB P0 K x = true) :
    PySem.W.findIn K (.ref (He.ga K x)) "__init__" = some (some (.ref (He.ma K (He.ga K x) "__init__"))) ∧ PySem.W.typeIn K (.ref (He.ma K (He.ga K x) "__init__")) = some (.type "function") ∧ True ∧ True ∧ True ∧
    (PySem.W.keepIn K (.ref (He.ga K x)) = true ∧ PySem.W.subIn K (.ref (He.ga K x)) (.type "BaseException") = some true ∧ PySem.W.subIn K (.ref (He.ga K x)) (.type "ValueError") = some true ∧ PySem.W.typeIn K (.ref (He.ga K x)) = some (.type "type") ∧
      PySem.W.mroIn K (He.ga K x) (.ref (He.ga K x)) = some true ∧ PySem.W.nsIn K cStatics "thirdparty.any" = some none ∧ PySem.W.ks_superIn K (He.ga K x) (He.ga K x) "__init__" = some (some (.builtin "ValueError.__init__"))) ∧
    ∀ (nm qu : Str) (ps : Arguments) (body : List Stmt) (sc : Scope), fnS K (x, some "__init__") = some (nm, qu, ps, FuncBody.stmts body, sc, mainGlobals, [("__class__" : Str)], builtinsNs) →
      ∃ oc od osl doc pm an cda ct cc, K.lookup (He.ma K (He.ga K x) "__init__") = some ⟨oc, od, .func (PySem.W.ksFn nm qu ps body sc .none .none doc pm an (.ref cda) ct cc), osl⟩ ∧ PySem.W.codeIn K (.ref cda) qu = true ∧
        (∃ cl cld csl, K.lookup cc = some ⟨cl, cld, .cell (some (.ref (He.ga K x))), csl⟩) ∧ (∃ ccl cdd vs ccs file tf, K.lookup cda = some ⟨ccl, cdd, .fields vs, ccs⟩ ∧ vs[2]? = some (.str file tf) ∧ ((P0.main.file : Str) == file) = true) := by
  obtain ⟨c1, c⟩ := He.ba c
  obtain ⟨c2, c⟩ := He.ba c
  obtain ⟨c3, c4⟩ := He.ba c
  obtain ⟨k1, c3⟩ := He.ba c3
  obtain ⟨k2, c3⟩ := He.ba c3
  obtain ⟨k3, c3⟩ := He.ba c3
  obtain ⟨k4, c3⟩ := He.ba c3
  obtain ⟨k5, c3⟩ := He.ba c3
  obtain ⟨k6, k7⟩ := He.ba c3
  refine ⟨eqB_ok c1, eqB_ok c2, trivial, trivial, trivial, ⟨k1, eqB_ok k2, eqB_ok k3, eqB_ok k4, eqB_ok k5, eqB_ok k6, eqB_ok k7⟩, fun nm qu ps body sc e => ?_⟩
  unfold initC at c4
  unfold fnS He.fAd at e
  dsimp only at e
  cases q : K.lookup (He.ma K (He.ga K x) "__init__") with
  | none =>
    rw [q] at c4
    cases c4
  | some o =>
    obtain ⟨oc, od, dt, osl⟩ := o
    rw [q] at c4 e
    cases dt with
    | func fd =>
      obtain ⟨n1, n2, n3, n4, n5, n6, n7, n8, n9, n10, n11, n12, n13, n14, n15⟩ := fd
      have e2 : (some (n1, n2, n3, n4, n5, n6, n7.map (·.1), n15) : FnS) = some (nm, qu, ps, FuncBody.stmts body, sc, mainGlobals, [("__class__" : Str)], builtinsNs) := e
      simp only [Option.some.injEq, Prod.mk.injEq] at e2
      obtain ⟨h1, h2, h3, h4, h5, h6, h7, h8⟩ := e2
      subst h1 h2 h3 h4 h5 h6 h8
      dsimp only at c4
      split at c4
      · rename_i cda cn cc
        obtain ⟨m1, c4⟩ := He.ba c4
        obtain ⟨m2, m3⟩ := He.ba c4
        have hcn : cn = "__class__" := by simpa using h7
        subst hcn
        refine ⟨oc, od, osl, n10, n11, n12, cda, n14, cc, rfl, m1, ?_, ?_⟩
        · split at m2
          · rename_i cl cld D csl hc
            have hD : D = He.ga K x := by simpa using m2
            rw [hD] at hc
            exact ⟨_, _, _, hc⟩
          · cases m2
        · split at m3
          · rename_i ccl cdd vs ccs hc
            split at m3
            · rename_i file tf hv
              exact ⟨_, _, _, _, _, _, hc, hv, m3⟩
            · cases m3
          · cases m3
      · cases c4
    | _ => cases c4
/-! ### the hook -/
abbrev AlX : Type := Bool × (List He.FnW × (List FnS × List (Option (List (Option (Str × Int))))))
/-- fs: functions that close over cells, with what they must be; cu: facts of one's own; ts: dicts of the module with text keys -/
def obsX (fa : List He.Fa) (fn : List He.DefD) (fs : List ((Str × Option Str) × FnS)) (cu : List (PySem.W.Frag → Bool)) (ts : List He.Tab) (K : PySem.W.Frag) : AlX :=
  ((fa.all fun f => f.ok K) && ((fn.all fun d => d.ok K) && cu.all fun c => c K), (fn.map fun d => He.fnW K d.at_, (fs.map fun f => fnS K f.1, ts.map fun t => He.dicW K (t.1 K))))
def valX (fn : List He.DefD) (fs : List ((Str × Option Str) × FnS)) (ts : List He.Tab) (w : World) : AlX := (true, (fn.map He.DefD.val, (fs.map (·.2), ts.map fun t => some (He.keysIn w.params t.2))))
def SaysX (fa : List He.Fa) (fn : List He.DefD) (fs : List ((Str × Option Str) × FnS)) (cu : List (PySem.W.Frag → Bool)) (ts : List He.Tab) (w : World) (K : PySem.W.Frag) : Prop := obsX fa fn fs cu ts K = valX fn fs ts w
def obsXG (n : Nat) (fa : List He.Fa) (fn : List He.DefD) (fs : List ((Str × Option Str) × FnS)) (cu : List (PySem.W.Frag → Bool)) (ts : List He.Tab) (g : Addr → Option Obj) : AlX := obsX fa fn fs cu ts (He.frG g (cStatics :: He.asD g n))
def hookX (n : Nat) (fa : List He.Fa) (fn : List He.DefD) (fs : List ((Str × Option Str) × FnS)) (cu : List (PySem.W.Frag → Bool)) (ts : List He.Tab) : PySem.W.Hook where
  α := AlX
  obs := fun s => obsXG n fa fn fs cu ts s.heap.get?
  val := fun w => valX fn fs ts w
  says := fun w h => ∃ K : PySem.W.Frag, K.In h ∧ SaysX fa fn fs cu ts w K
  of := fun _ _ e => ⟨_, He.frG_in, e⟩
  keeps := fun _ _ _ ⟨K, hK, c⟩ k => ⟨K, PySem.W.Frag.In.keeps hK k, c⟩
theorem obsXG_eq {n : Nat} {fa : List He.Fa} {fn : List He.DefD} {fs : List ((Str × Option Str) × FnS)} {cu : List (PySem.W.Frag → Bool)} {ts : List He.Tab} {g : Addr → Option Obj} {s : Shared} (h : ∀ a, g a = s.heap.get? a) : obsXG n fa fn fs cu ts g = (hookX n fa fn fs cu ts).obs s := by
  have e : g = s.heap.get? := funext h
  rw [e] <;> rfl
section
variable {fa : List He.Fa} {fn : List He.DefD} {fs : List ((Str × Option Str) × FnS)} {cu : List (PySem.W.Frag → Bool)} {ts : List He.Tab} {w : World} {K : PySem.W.Frag}
theorem SaysX.all (c : SaysX fa fn fs cu ts w K) : (fa.all fun f => f.ok K) = true ∧ (fn.all fun d => d.ok K) = true ∧ (cu.all fun c => c K) = true := by
  have c1 : ((fa.all fun f => f.ok K) && ((fn.all fun d => d.ok K) && cu.all fun c => c K)) = true := congrArg (fun z : AlX => z.1) c
  obtain ⟨a, b⟩ := He.ba c1
  obtain ⟨b, d⟩ := He.ba b
  exact ⟨a, b, d⟩
theorem SaysX.fact (c : SaysX fa fn fs cu ts w K) (i : Nat) {f : He.Fa} (h : fa[i]? = some f := by rfl) : f.ok K = true := List.all_eq_true.mp c.all.1 f (List.mem_of_getElem? h)
theorem SaysX.own (c : SaysX fa fn fs cu ts w K) (i : Nat) {f : PySem.W.Frag → Bool} (h : cu[i]? = some f := by rfl) : f K = true := List.all_eq_true.mp c.all.2.2 f (List.mem_of_getElem? h)
theorem SaysX.init (c : SaysX fa fn fs cu ts w K) (i : Nat) {f : (Str × Option Str) × FnS} (h : fs[i]? = some f := by rfl) : fnS K f.1 = f.2 := by
  have e : fs.map (fun f => fnS K f.1) = fs.map (·.2) := congrArg (fun z : AlX => z.2.2.1) c
  have e2 : (fs.map fun f => fnS K f.1)[i]? = (fs.map (·.2))[i]? := by rw [e]
  rw [List.getElem?_map, List.getElem?_map, h] at e2
  exact Option.some.inj e2
theorem SaysX.def_ (c : SaysX fa fn fs cu ts w K) (i : Nat) {d : He.DefD} (h : fn[i]? = some d := by rfl) : ∃ fd, FunD K d.name d.qual d.params d.body d.scope (d.dvs K) (d.kws K) (He.fAd K d.at_) fd := by
  have e : fn.map (fun d => He.fnW K d.at_) = fn.map He.DefD.val := congrArg (fun z : AlX => z.2.1) c
  have e2 : (fn.map fun d => He.fnW K d.at_)[i]? = (fn.map He.DefD.val)[i]? := by rw [e]
  rw [List.getElem?_map, List.getElem?_map, h] at e2
  exact He.DefD.funD (Option.some.inj e2) (List.all_eq_true.mp c.all.2.1 d (List.mem_of_getElem? h))
theorem SaysX.tab (c : SaysX fa fn fs cu ts w K) (i : Nat) {t : He.Tab} (h : ts[i]? = some t := by rfl) : ∃ es n, KDict K w (t.1 K) es n := by
  have e : ts.map (fun t => He.dicW K (t.1 K)) = ts.map fun t => some (He.keysIn w.params t.2) := congrArg (fun z : AlX => z.2.2.2) c
  have e2 : (ts.map fun t => He.dicW K (t.1 K))[i]? = (ts.map fun t => some (He.keysIn w.params t.2))[i]? := by rw [e]
  rw [List.getElem?_map, List.getElem?_map, h] at e2
  exact He.dicW_ok (Option.some.inj e2)
end
/-! ### tables of the module -/
/-- the texts that are keys of the dict at d, in order -/
def keysB (K : PySem.W.Frag) (d : Addr) (ks : List Str) : Bool := match K.lookup d with
  | some ⟨_, _, .dict es _, _⟩ => eqB (es.toList.map fun e => match e.key with | Value.str x _ => some x | _ => none) (ks.map some)
  | _ => false
theorem keysB_none {K : PySem.W.Frag} {d : Addr} {ks : List Str} (h : keysB K d ks = true) {z : Str} (hz : z ∉ ks) : PySem.W.nsIn K d z = some none := by
  unfold keysB at h
  unfold PySem.W.nsIn
  cases q : K.lookup d with
  | none => rw [q] at h; cases h
  | some o =>
    obtain ⟨oc, od, dt, osl⟩ := o
    rw [q] at h
    cases dt with
    | dict es n =>
      have e := eqB_ok h
      have all : ∀ e ∈ es.toList, ∃ x t, e.key = .str x t ∧ x ∈ ks := fun y hy => by
        have hm : (match y.key with | Value.str x _ => some x | _ => none) ∈ ks.map some := by
          rw [← e]
          exact List.mem_map.mpr ⟨y, hy, rfl⟩
        obtain ⟨x, hx, ex⟩ := List.mem_map.mp hm
        cases hk : y.key with
        | str x2 t =>
          rw [hk] at ex
          cases ex
          exact ⟨_, t, rfl, hx⟩
        | _ => rw [hk] at ex; cases ex
      have f1 : es.toList.find? (·.key.isStr z) = none := by
        rw [List.find?_eq_none]
        intro y hy
        obtain ⟨x, t, hk, hx⟩ := all y hy
        rw [hk, PySem.W.isStr_of]
        intro hh
        have : x = z := by
          simp [Value.isStrOf] at hh
          exact hh
        exact hz (this ▸ hx)
      have f2 : es.toList.any (·.refKey) = false := by
        rw [List.any_eq_false]
        intro y hy
        obtain ⟨x, t, hk, hx⟩ := all y hy
        simp [DictEntry.refKey, hk]
      dsimp only
      rw [f1, f2]
      rfl
    | _ => cases h
/-- the object that stands at a key -/
def kAt (K : PySem.W.Frag) (d : Addr) (z : Str) : Addr := match PySem.W.nsIn K d z with
  | some (some (.ref a)) => a
  | _ => 0
/-- at a: a tuple of these -/
def tupK (K : PySem.W.Frag) (a : Addr) (vs : List He.Dv) : Bool := match K.lookup a with
  | some ⟨.type c, _, .seq its _, _⟩ => decide (c = "tuple") && (decide (its.size ≤ sizeLine) && He.relAll (vs.map (He.Dv.v K)) its.toList)
  | _ => false
theorem tupK_ok {K : PySem.W.Frag} {a : Addr} {vs : List He.Dv} (h : tupK K a vs = true) (H : Hp) : SqT K H a (vs.map (He.Dv.v K)) := by
  unfold tupK at h
  cases q : K.lookup a with
  | none => rw [q] at h; cases h
  | some o =>
    obtain ⟨oc, od, dt, osl⟩ := o
    rw [q] at h
    cases oc with
    | type c =>
      cases dt with
      | seq its n =>
        obtain ⟨h1, h2⟩ := He.ba (show (decide (c = "tuple") && (decide (its.size ≤ sizeLine) && He.relAll (vs.map (He.Dv.v K)) its.toList)) = true from h)
        obtain ⟨h3, h4⟩ := He.ba h2
        exact .inr ⟨_, its, n, q, congrArg Value.type (of_decide_eq_true h1), rfl, of_decide_eq_true h3, He.relAll_ok h4⟩
      | _ => cases h
    | _ => cases dt <;> cases h
end Z

/-! ### try with clauses of both kinds: except X, except X as n -/
namespace Z
open PySem PySem.Spec PyProof.Rows L2 Evl
/-- behind «except .. as n»: slot i, n's, is empty -/
def unb (i : Option Nat) (D : Ends) : Ends := match i with
  | none => D
  | some i => { nx := fun σ' H' => D.nx (σ'.set i none) H', rt := D.rt, bk := fun σ' H' => D.bk (σ'.set i none) H', ct := fun σ' H' => D.ct (σ'.set i none) H' }
def bnd (i : Option Nat) (a : Addr) (σ : L2.St) : L2.St := match i with
  | none => σ
  | some i => σ.set i (some (.ref a))
abbrev Hd : Type := Value × Option Nat × (Addr → Value → Option Addr → TS)
/-- what the clauses wish of an exception of the body, one after the other -/
def wMix (K : PySem.W.Frag) (Wout : WX) (D : Ends) : List Hd → WX
  | [] => Wout
  | (c, i, ts) :: r => fun cls d σ H => ∃ b, PySem.W.exmOne K cls c = some b ∧ (b = true → ∀ a, H a = none → ts a cls d (unb i D) (bnd i a σ) H) ∧ (b = false → wMix K Wout D r cls d σ H)
inductive HdZ (X : Cx) : List ExceptHandler → List Hd → Prop
  | nil : HdZ X [] []
  | only {x : Str} {c : Value} {ts : Addr → Value → Option Addr → TS} {b₀ : Stmt} {suite : List Stmt} {np pos' : Pos} {hds : List ExceptHandler} {l : List Hd} (hc : Names X x c)
      (hsu : ∀ (a : Addr) (oe : Obj) (cls : Value) (d : Option Addr) (pn : List (Addr × Obj)), Zc cls d oe → (∃ vs, oe.data = .fields vs) → PSs (X.suite a ((a, oe) :: pn)) (b₀ :: suite) (ts a cls d)) (r : HdZ X hds l) :
      HdZ X (.ExceptHandler (some (.Name x np)) none (b₀ :: suite) pos' :: hds) ((c, none, ts) :: l)
  | as_ {x n : Str} {i : Nat} {c : Value} {ts : Addr → Value → Option Addr → TS} {b₀ : Stmt} {suite : List Stmt} {np pos' : Pos} {hds : List ExceptHandler} {l : List Hd} (hN : X.N.Nodup) (hi : X.N[i]? = some n) (hln : X.env.kindOf n = some .local) (hc : Names X x c)
      (hsu : ∀ (a : Addr) (oe : Obj) (cls : Value) (d : Option Addr) (pn : List (Addr × Obj)), Zc cls d oe → (∃ vs, oe.data = .fields vs) → PSs (X.suite a ((a, oe) :: pn)) (b₀ :: suite) (ts a cls d)) (r : HdZ X hds l) :
      HdZ X (.ExceptHandler (some (.Name x np)) (some n) (b₀ :: suite) pos' :: hds) ((c, some i, ts) :: l)
section
variable {prog : Program} {w : World} {A : Around} {E : Value → Shared → Prop} {s : Shared} {K : PySem.W.Frag} {B : Heap} {env : Env} {outer : List Env} {L a : Addr} {cls c : Value} {d : Option Addr} {t : Expr} {n : Str} {b₀ : Stmt} {suite : List Stmt} {pos : Pos} {rest : List ExceptHandler} {Q : Flow → Shared → Prop}
theorem cl_as (X : K.In s.heap) (fl : HandSPX.FlyingZ B (env :: outer) a (Zc cls d) s.heap) (hm : PySem.W.exmOne K cls c = some true)
    (test : ∀ {Q' : Value → Shared → Prop} {E' : Value → Shared → Prop}, Q' c s → wpAny (model prog w) (A.mark (some (.ref a))) (eval t env) Q' E' s)
    (k : ∀ h', HandSPX.FlyingZ B (env :: outer) a (Zc cls d) h' → s.heap.UpToSlots h' → wpAny (model prog w) (A.mark (some (.ref a))) (storeName env n (.ref a))
      (fun _ s₂ => wpAny (model prog w) (A.mark (some (.ref a))) (execs (b₀ :: suite) env) (fun f s₃ => wpAny (model prog w) A (do bindName env n .none; unbindBehindTheSuite env n pos) (fun _ s₄ => Q f s₄) E s₃) (fun _ _ => False) s₂) (fun _ _ => False) { s with heap := h' }) :
    wpAny (model prog w) A (handleBy (.ref a) env (.ExceptHandler (some t) (some n) (b₀ :: suite) pos :: rest)) Q E s := by
  obtain ⟨oe, vs, he, hz, _⟩ := fl.there
  refine wpAny_handleBy_cons (codeAny_handlers_test ?_) (by intro q; cases q)
  have LT : PySem.W.Looks (model prog w) s.heap (typeOf (.ref a)) cls := fun A Q E s k q => wpAny_typeOf_ref (k _ _ he) (by rw [hz.1]; exact q)
  refine test ((PySem.W.exm_one (M := model prog w) X LT hm).here ?_)
  refine codeAny_handlers_suite_as (HandSPX.lands_againZ fl fun h4 fl4 up4 => ?_)
  exact wpAny_mono (k h4 fl4 up4) (fun _ s₂ h₂ => wpAny_mono h₂ (fun f s₃ h₃ => h₃) fun _ _ z => z.elim) fun _ _ z => z.elim
theorem cl_only (X : K.In s.heap) (fl : HandSPX.FlyingZ B (env :: outer) a (Zc cls d) s.heap) (hm : PySem.W.exmOne K cls c = some true)
    (test : ∀ {Q' : Value → Shared → Prop} {E' : Value → Shared → Prop}, Q' c s → wpAny (model prog w) (A.mark (some (.ref a))) (eval t env) Q' E' s)
    (k : ∀ h', HandSPX.FlyingZ B (env :: outer) a (Zc cls d) h' → s.heap.UpToSlots h' → wpAny (model prog w) (A.mark (some (.ref a))) (execs (b₀ :: suite) env) Q (fun _ _ => False) { s with heap := h' }) :
    wpAny (model prog w) A (handleBy (.ref a) env (.ExceptHandler (some t) none (b₀ :: suite) pos :: rest)) Q E s := by
  obtain ⟨oe, vs, he, hz, _⟩ := fl.there
  refine wpAny_handleBy_cons (codeAny_handlers_test ?_) (by intro q; cases q)
  have LT : PySem.W.Looks (model prog w) s.heap (typeOf (.ref a)) cls := fun A Q E s k q => wpAny_typeOf_ref (k _ _ he) (by rw [hz.1]; exact q)
  refine test ((PySem.W.exm_one (M := model prog w) X LT hm).here ?_)
  refine codeAny_handlers_suite (HandSPX.lands_againZ fl fun h4 fl4 up4 => ?_)
  exact wpAny_mono (k h4 fl4 up4) (fun f s₂ h₂ => h₂) fun _ _ z => z.elim
theorem cl_pass {nm : Option Str} {body : List Stmt} (X : K.In s.heap) (fl : HandSPX.FlyingZ B (env :: outer) a (Zc cls d) s.heap) (hm : PySem.W.exmOne K cls c = some false)
    (test : ∀ {Q' : Value → Shared → Prop} {E' : Value → Shared → Prop}, Q' c s → wpAny (model prog w) (A.mark (some (.ref a))) (eval t env) Q' E' s)
    (k : wpAny (model prog w) A (handleBy (.ref a) env rest) Q E s) :
    wpAny (model prog w) A (handleBy (.ref a) env (.ExceptHandler (some t) nm body pos :: rest)) Q E s := by
  obtain ⟨oe, vs, he, hz, _⟩ := fl.there
  refine wpAny_handleBy_cons (codeAny_handlers_test ?_) (by intro q; cases q)
  have LT : PySem.W.Looks (model prog w) s.heap (typeOf (.ref a)) cls := fun A Q E s k q => wpAny_typeOf_ref (k _ _ he) (by rw [hz.1]; exact q)
  exact test ((PySem.W.exm_one (M := model prog w) X LT hm).here k)
theorem cl_none (hf : env.frame = some L) (fl : HandSPX.FlyingZ B (env :: outer) a (Zc cls d) s.heap) (k : ∀ h', HandSPX.HeldZ B (env :: outer) a (Zc cls d) L h' → s.heap.UpToSlots h' → E (.ref a) { s with heap := h' }) :
    wpAny (model prog w) A (handleBy (.ref a) env []) Q E s := by
  refine wpAny_handleBy_nil ?_
  obtain ⟨k1, k2, k3, oe, vs, T, oT, ts', he, hz, hd, h1, hr⟩ := id fl
  unfold PySem.passOn
  refine wpAny_bind (wpAny_field he hd h1 ?_)
  rw [if_neg (show ¬ ((Value.ref T == Value.none) = true) from by simp)]
  have fin : wpAny (model prog w) A (setFlight (.ref a) env.frame) (fun _ s4 => wpAny (model prog w) A (throw (.ref a) : Sem Flow) Q E s4) E s := by
    rw [hf]
    exact HandSPX.setFlight_upZ fl fun h4 hh4 up4 => wpAny_throw (k h4 hh4 up4)
  first
    | exact wpAny_bind (wpAny_pure (wpAny_bind fin))
    | exact wpAny_bind fin
end
section
variable {X : Cx} {body : List Stmt} {h₀ : ExceptHandler} {hds : List ExceptHandler} {l : List Hd} {pos : Pos} {tb : WX → TS} {Wout : WX}
theorem ps_try_mix (hs : X.stack = X.env :: X.outer) (hf : X.env.frame = some X.env.locals) (tk : Takes X Wout)
    (hb : ∀ (W : WX) (pn : List (Addr × Obj)) (xe : Value → Shared → Prop), Takes (X.tr pn xe) W → PassesOwn (model X.prog X.w) X.A X.env xe → PSs (X.tr pn xe) body (tb W))
    (hh : HdZ X (h₀ :: hds) l) : PS X (.Try body (h₀ :: hds) [] [] pos) (fun D σ H => tb (wMix X.K Wout D l) D σ H) := by
  refine ⟨fun pins s σ H D I h => ?_⟩
  have ok := I.ok
  have hfr : X.A.frames = some (X.env :: X.outer) := by rw [ok.frames, hs]
  refine wpAny_Try_except ?_
  refine wpAny_mono ((hb (wMix X.K Wout D l) (X.pn ++ pins) (fun e s₁ => wpAny (model X.prog X.w) X.A (noteFrame e X.env) (fun _ s₂ => wpAny (model X.prog X.w) X.A (setFlight e none) (fun _ s₃ =>
    wpAny (model X.prog X.w) X.A (handleBy e X.env (h₀ :: hds)) (SP X pins D) X.xe s₃) X.xe s₂) X.xe s₁) (fun u s' xx => ?_) PassesOwn.looking).run [] s σ H D (I.toTry _) h) (fun f s1 hsp => ?_) (fun e s1 he => he)
  · obtain ⟨a, B, sI, pins', σ', H', cls, d, rfl, J', nb, up, sky, na, os, ag, w⟩ := xx
    have J : Inv X pins σ' H' sI := J'.ofTry ok
    have sky' : Sky B (X.env :: X.outer) a (Zc cls d) X.env.locals s'.heap := by rw [← hs]; exact sky
    show wpAny (model X.prog X.w) X.A (noteFrame (.ref a) X.env) _ _ _
    refine Sky.land Zc.steady hfr hf sky' fun h3 fl3 up3 => ?_
    -- through the clauses, whatever the heap's traceback marks
    have go : ∀ {hds' : List ExceptHandler} {l' : List Hd}, HdZ X hds' l' → ∀ h3 : Heap, HandSPX.FlyingZ B (X.env :: X.outer) a (Zc cls d) h3 → sI.heap.UpToSlots h3 ∨ True → (∀ {h4 : Heap}, HandSPX.FlyingZ B (X.env :: X.outer) a (Zc cls d) h4 → h3.UpToSlots h4 → Inv X pins σ' H' { s' with heap := h4 }) → Inv X pins σ' H' { s' with heap := h3 } →
        (∀ {h4 : Heap}, HandSPX.HeldZ B (X.env :: X.outer) a (Zc cls d) X.env.locals h4 → h3.UpToSlots h4 → ∀ W : WX, Takes X W → W cls d σ' H' → X.xe (.ref a) { s' with heap := h4 }) → wMix X.K Wout D l' cls d σ' H' →
        wpAny (model X.prog X.w) X.A (handleBy (.ref a) X.env hds') (SP X pins D) X.xe { s' with heap := h3 } := by
      intro hds' l' hk
      induction hk with
      | nil =>
        intro h3 fl3 _ _ _ out w
        exact cl_none hf fl3 fun h4 hh4 up4 => out hh4 up4 _ tk w
      | @only x c ts b₀ suite np pos' hds2 l2 hc hsu r ih =>
        intro h3 fl3 u0 inv J3 out w
        obtain ⟨oe3, vs3, he3, hz3, hd3⟩ := fl3.there
        have nfr : a ∉ frs (X.env :: X.outer) := fun hm => by
          obtain ⟨_, o', e', hnf⟩ := fl3.2.2.1.mem hm
          rw [he3] at e'; cases e'
          exact hnf _ hd3
        have nL : a ≠ X.env.locals := fun z => nfr (List.mem_filterMap.mpr ⟨X.env, List.mem_cons_self, by rw [hf, z]⟩)
        have nF : a ∉ X.fs := fun hm => by
          obtain ⟨e, he, q⟩ := List.mem_filterMap.mp hm
          exact nfr (List.mem_filterMap.mpr ⟨e, List.mem_cons_of_mem _ he, q⟩)
        have S3 := J3.suite he3 hd3 na nL nF
        have test : ∀ {Q : Value → Shared → Prop} {E : Value → Shared → Prop}, Q c { s' with heap := h3 } → wpAny (model X.prog X.w) (X.A.mark (some (.ref a))) (eval (.Name x np) X.env) Q E { s' with heap := h3 } := fun {Q E} q => by
          obtain ⟨hg, hdbg, hm | ⟨hm, hv, hnn⟩⟩ := hc
          · exact ld_glob (X := X.suite a ((a, oe3) :: (X.pn ++ pins))) S3 hg hm q hdbg
          · exact ld_blt (X := X.suite a ((a, oe3) :: (X.pn ++ pins))) S3 hg hm hv q hnn hdbg
        obtain ⟨b, hb1, hyes, hno⟩ := w
        cases b with
        | true =>
          refine cl_only J3.kIn fl3 hb1 test fun h4 fl4 up4 => ?_
          obtain ⟨oe4, vs4, he4, hz4, hd4⟩ := fl4.there
          have S4 := (inv fl4 up4).suite he4 hd4 na nL nF
          refine wpAny_mono ((hsu a oe4 cls d (X.pn ++ pins) hz4 ⟨_, hd4⟩).run [] _ _ H' _ S4 (hyes rfl a na)) (fun f s6 hsp => ?_) (fun _ _ z => z)
          cases f with
          | ret u =>
            obtain ⟨v6, σ6, H6, S6, r6, q6⟩ := hsp
            exact ⟨_, _, _, S6.unsuite ok, r6, q6⟩
          | _ =>
            obtain ⟨σ6, H6, S6, q6⟩ := hsp
            exact ⟨_, _, S6.unsuite ok, q6⟩
        | false => exact cl_pass J3.kIn fl3 hb1 test (ih h3 fl3 u0 inv J3 out (hno rfl))
      | @as_ x n i c ts b₀ suite np pos' hds2 l2 hN hi hln hc hsu r ih =>
        intro h3 fl3 u0 inv J3 out w
        obtain ⟨oe3, vs3, he3, hz3, hd3⟩ := fl3.there
        have nfr : a ∉ frs (X.env :: X.outer) := fun hm => by
          obtain ⟨_, o', e', hnf⟩ := fl3.2.2.1.mem hm
          rw [he3] at e'; cases e'
          exact hnf _ hd3
        have nL : a ≠ X.env.locals := fun z => nfr (List.mem_filterMap.mpr ⟨X.env, List.mem_cons_self, by rw [hf, z]⟩)
        have nF : a ∉ X.fs := fun hm => by
          obtain ⟨e, he, q⟩ := List.mem_filterMap.mp hm
          exact nfr (List.mem_filterMap.mpr ⟨e, List.mem_cons_of_mem _ he, q⟩)
        have S3 := J3.suite he3 hd3 na nL nF
        have test : ∀ {Q : Value → Shared → Prop} {E : Value → Shared → Prop}, Q c { s' with heap := h3 } → wpAny (model X.prog X.w) (X.A.mark (some (.ref a))) (eval (.Name x np) X.env) Q E { s' with heap := h3 } := fun {Q E} q => by
          obtain ⟨hg, hdbg, hm | ⟨hm, hv, hnn⟩⟩ := hc
          · exact ld_glob (X := X.suite a ((a, oe3) :: (X.pn ++ pins))) S3 hg hm q hdbg
          · exact ld_blt (X := X.suite a ((a, oe3) :: (X.pn ++ pins))) S3 hg hm hv q hnn hdbg
        obtain ⟨b, hb1, hyes, hno⟩ := w
        cases b with
        | true =>
          refine cl_as J3.kIn fl3 hb1 test fun h4 fl4 up4 => ?_
          obtain ⟨oe4, vs4, he4, hz4, hd4⟩ := fl4.there
          have S4 := (inv fl4 up4).suite he4 hd4 na nL nF
          refine store_ok (X := X.suite a ((a, oe4) :: (X.pn ++ pins))) (v := .ref a) S4 hN hi (.inl hln) rfl (fun s5 S5 => ?_) (.inr hln)
          refine wpAny_mono ((hsu a oe4 cls d (X.pn ++ pins) hz4 ⟨_, hd4⟩).run [] s5 _ H' _ S5 (hyes rfl a na)) (fun f s6 hsp => ?_) (fun _ _ z => z)
          have end_ : ∀ {σ6 : L2.St} {H6 : Hp} {Q : Shared → Prop}, Inv (X.suite a ((a, oe4) :: (X.pn ++ pins))) [] σ6 H6 s6 → (∀ s7, Inv X pins (σ6.set i none) H6 s7 → Q s7) →
              wpAny (model X.prog X.w) X.A (do bindName X.env n .none; unbindBehindTheSuite X.env n pos') (fun _ s7 => Q s7) X.xe s6 := fun {σ6 H6 Q} S6 hq => gone_ok (S6.unsuite ok) hN hi hln hq
          cases f with
          | next =>
            obtain ⟨σ6, H6, S6, q6⟩ := hsp
            exact end_ S6 fun s7 J7 => ⟨_, _, J7, q6⟩
          | brk =>
            obtain ⟨σ6, H6, S6, q6⟩ := hsp
            exact end_ S6 fun s7 J7 => ⟨_, _, J7, q6⟩
          | cont =>
            obtain ⟨σ6, H6, S6, q6⟩ := hsp
            exact end_ S6 fun s7 J7 => ⟨_, _, J7, q6⟩
          | ret u =>
            obtain ⟨v6, σ6, H6, S6, r6, q6⟩ := hsp
            exact end_ S6 fun s7 J7 => ⟨_, _, _, J7, r6, q6⟩
        | false => exact cl_pass J3.kIn fl3 hb1 test (ih h3 fl3 u0 inv J3 out (hno rfl))
    refine go hh h3 fl3 (.inr trivial) (fun {h4} fl4 up4 => J.landed nb fl4.1 ((up.trans up3).trans up4) os ag) (J.landed nb fl3.1 (up.trans up3) os ag) (fun {h4} hh4 up4 W tkW w' => tkW _ _ ?_) w
    exact ⟨a, B, sI, pins, σ', H', cls, d, rfl, J, nb, (up.trans up3).trans up4, .inr (.inr (by rw [hs]; exact hh4)), na, os, ag, w'⟩
  · cases f with
    | next =>
      obtain ⟨σ', H', J', q⟩ := hsp
      exact wpAny_execs_nil ⟨σ', H', J'.ofTry ok, q⟩
    | brk =>
      obtain ⟨σ', H', J', q⟩ := hsp
      exact ⟨σ', H', J'.ofTry ok, q⟩
    | cont =>
      obtain ⟨σ', H', J', q⟩ := hsp
      exact ⟨σ', H', J'.ofTry ok, q⟩
    | ret u =>
      obtain ⟨v, σ', H', J', r, q⟩ := hsp
      exact ⟨v, σ', H', J'.ofTry ok, r, q⟩
end
/-- a call of a def that may raise, by its promise (Fok); W: what is wanted of the exception -/
theorem pe_callG {X : Cx} {W : WX} {k : Nat} {x : Str} {ps : List Str} {sp : Sp} {e : Expr} {es : List Expr} {t : TA} {p pos : Pos} (F : Fok X.prog X.w X.K X.mg X.base (L2.CX X.prog X.w) k x ps sp) (hr : Room k X.A) (hg : Gl X x) (tk : Takes X W)
    (ha : PA X (e :: es) t) (hdb : (x == ("__debug__" : Str)) = false := by decide) (he : starEach (e :: es) X.env = (false, eval e X.env) :: starEach es X.env := by rfl) (hpl : (backTo pos (starEach es X.env)).any (·.1) = false := by rfl) :
    PE X (.Call (.Name x p) (e :: es) [] pos) (tCallS sp (WE W) t) :=
  let ⟨_, h1, h2⟩ := F.ex
  pe_callS h1 hr hg F.hm F.kp h2 (fun σ => passAt tk σ) ha hdb he hpl
/-- what an exception's way out is owed: of the class x, its field f holding v, all that was there kept -/
def Rz (K : PySem.W.Frag) (x f : Str) (v : V) (H : Hp) (E : XK) : Prop := ∀ H' d, Ex H H' → H' d = some (.xd [(f, v)]) → E (.ref (He.ga K x)) (some d) H'
end Z

/-! ### calls with keywords: the values in the order that they are written (positional ones, then the keywords'), put in the parameters' order by places -/
namespace Z
open PySem PySem.Spec PyProof.Rows L2 Evl
def perm {α : Type} (p : List Nat) (l : List α) : List α := p.filterMap fun i => l[i]?
theorem perm_rel {vs : List V} {us : List Value} (r : Vals vs us) : ∀ p : List Nat, Vals (perm p vs) (perm p us)
  | [] => .nil
  | i :: p => by
    have ih := perm_rel r p
    unfold perm at ih ⊢
    rw [List.filterMap_cons, List.filterMap_cons]
    cases e : vs[i]? with
    | none =>
      have hl : us[i]? = none := by
        rw [List.getElem?_eq_none_iff] at e ⊢
        rw [← r.length]
        exact e
      rw [hl]
      exact ih
    | some v =>
      obtain ⟨u, hu, ru⟩ := Vals.get r e
      rw [hu]
      exact .cons ru ih
structure FokK (P : Program) (w : World) (K : PySem.W.Frag) (mg : Str → Option Value) (base : Heap) (CX : CXT) (k : Nat) (x : Str) (ps : List Str) (sp : Sp) (n : Nat) (ks : List Str) (p : List Nat) : Prop where
  ex : ∃ fd, FnOk P w K mg base CX k (He.ga K x) fd ps sp ∧ ∀ (s : Shared) (us ws : List Value), us.length = n → ws.length = ks.length → BindsTo s fd ⟨us, ks.zip ws⟩ (ps.zip (perm p (us ++ ws)))
  hm : mg x = some (.ref (He.ga K x))
  kp : PySem.W.keepIn K (.ref (He.ga K x)) = true
theorem kbinds {K : PySem.W.Frag} {x qual : Str} {params : Arguments} {body : List Stmt} {scope : Scope} {kws : List (Str × V)} {f : Addr} {fd : FuncData} {ps ks : List Str} {n : Nat} {p : List Nat} (F : FunD K x qual params body scope [] kws f fd)
    (h : ∀ (kV doc pm : Value) (an : Option Addr) (cdv ct : Value) (us ws : List Value), us.length = n → ws.length = ks.length → bindArgs (PySem.W.fnOf x qual params body scope .none kV doc pm an cdv ct) ⟨us, ks.zip ws⟩ = pure (ps.zip (perm p (us ++ ws)))) :
    ∀ (s : Shared) (us ws : List Value), us.length = n → ws.length = ks.length → BindsTo s fd ⟨us, ks.zip ws⟩ (ps.zip (perm p (us ++ ws))) := by
  obtain ⟨oc, od, dV, kV, doc, pm, an, cdv, ct, osl, rfl, lk, hcd, hD, hK⟩ := F.ex
  rcases hD with ⟨_, rfl⟩ | ⟨e, _⟩
  · exact fun s us ws l1 l2 => BindsTo.of_eq (h kV doc pm an cdv ct us ws l1 l2)
  · exact absurd rfl e
/-- f(e, .., k = v, ..) -/
def tCallP (p : List Nat) (n m : Nat) (sp : Sp) (E : L2.St → XK) (t tk : TA) : TE := fun σ H Q => t σ H fun vs H1 => tk σ H1 fun zs H2 => vs.length = n ∧ zs.length = m ∧ sp (perm p (vs ++ zs)) H2 Q (E σ)
section
variable {X : Cx} {CX : CXT} {k n : Nat} {ps ks : List Str} {sp : Sp} {E : L2.St → XK} {x : Str} {p pos : Pos} {e : Expr} {es : List Expr} {kws : List Keyword} {t tk : TA} {pm : List Nat}
theorem run_fnP {pins : List (Addr × Obj)} {σ : L2.St} {H : Hp} {s : Shared} {Q : VK} {us ws : List Value} {vs zs : List V} (F : FokK X.prog X.w X.K X.mg X.base CX k x ps sp n ks pm) (hr : Room k X.A) (hx : PassesAt CX X σ (E σ))
    (I : Inv X pins σ H s) (r : Vals vs us) (rz : Vals zs ws) (l1 : vs.length = n) (l2 : zs.length = ks.length) (h : sp (perm pm (vs ++ zs)) H Q (E σ)) : wpAny (model X.prog X.w) X.A (call (.ref (He.ga X.K x)) us (ks.zip ws)) (EP X pins σ Q) X.xe s := by
  obtain ⟨fd, F1, b⟩ := F.ex
  refine wpAny_call (codeAny_mono (F1.run X.A X.stack s H ⟨us, ks.zip ws⟩ (perm pm (us ++ ws)) (perm pm (vs ++ zs)) Q (E σ) hr I.env0 (b s us ws (r.length.symm.trans l1) (rz.length.symm.trans l2)) (perm_rel (r.append rz) pm) h) fun r s' hq => ?_)
  cases r with
  | error e => exact hx pins H s e s' I hq
  | ok fl =>
    cases fl with
    | ret u => exact I.after hq
    | next => exact False.elim hq
    | brk => exact False.elim hq
    | cont => exact False.elim hq
theorem pe_callP (F : FokK X.prog X.w X.K X.mg X.base CX k x ps sp n ks pm) (hr : Room k X.A) (hg : Gl X x) (hx : ∀ σ, PassesAt CX X σ (E σ))
    (ha : PA X (e :: es) t) (hkw : PK X kws tk) (hall : (backToKw pos (keywordEach kws X.env)).all (·.1.isSome) = true := by rfl) (hks : (backToKw pos (keywordEach kws X.env)).filterMap (·.1) = ks := by rfl)
    (hdb : (x == ("__debug__" : Str)) = false := by decide) (he : starEach (e :: es) X.env = (false, eval e X.env) :: starEach es X.env := by rfl)
    (hpl : ((backTo pos (starEach (e :: es) X.env)).any (·.1) || (backToKw pos (keywordEach kws X.env)).any (·.1.isNone)) = false := by rfl) {m : Nat} (hm : ks.length = m := by rfl) :
    PE X (.Call (.Name x p) (e :: es) kws pos) (tCallP pm n m sp E t tk) := by
  subst hm
  refine ⟨fun pins s σ H Q I h => ?_⟩
  refine wpAny_Call_Name_kw (ld_glob I hg F.hm ?_ hdb)
  refine PySem.W.callWith_KW (h₀ := X.base) I.ok.mod.kin F.kp hall (thn (ha.run pos pins s σ H _ I h) fun us s1 ⟨vs, H1, I1, r, q⟩ => ?_) hpl he
  refine thn (hkw.run pos pins s1 σ H1 _ I1 q) fun ws s2 ⟨zs, H2, I2, rz, l1, l2, q2⟩ => ⟨I2.kIn, ?_⟩
  rw [hks]
  exact run_fnP F hr (hx σ) I2 r rz l1 l2 q2
/-- f(k = v, ..) -/
theorem pe_callP0 (F : FokK X.prog X.w X.K X.mg X.base CX k x ps sp 0 ks pm) (hr : Room k X.A) (hg : Gl X x) (hx : ∀ σ, PassesAt CX X σ (E σ))
    (hkw : PK X kws tk) (hall : (backToKw pos (keywordEach kws X.env)).all (·.1.isSome) = true := by rfl) (hks : (backToKw pos (keywordEach kws X.env)).filterMap (·.1) = ks := by rfl)
    (hdb : (x == ("__debug__" : Str)) = false := by decide)
    (hpl : ((backTo pos (starEach [] X.env)).any (·.1) || (backToKw pos (keywordEach kws X.env)).any (·.1.isNone)) = false := by rfl) {m : Nat} (hm : ks.length = m := by rfl) :
    PE X (.Call (.Name x p) [] kws pos) (tCallP pm 0 m sp E tNil tk) := by
  subst hm
  refine ⟨fun pins s σ H Q I h => ?_⟩
  refine wpAny_Call_Name_kw (ld_glob I hg F.hm ?_ hdb)
  refine PySem.W.callWith_KW0 (h₀ := X.base) I.ok.mod.kin F.kp hall ?_ hpl
  have h' : tk σ H fun zs H2 => ([] : List V).length = 0 ∧ zs.length = ks.length ∧ sp (perm pm ([] ++ zs)) H2 Q (E σ) := h
  refine thn (hkw.run pos pins s σ H _ I h') fun ws s2 ⟨zs, H2, I2, rz, l1, l2, q2⟩ => ⟨I2.kIn, ?_⟩
  rw [hks]
  exact run_fnP F hr (hx σ) I2 .nil rz l1 l2 q2
theorem passAt0 (σ : L2.St) : PassesAt CX0 X σ E0 := fun _ _ _ _ _ _ h => h.elim
end
theorem s_callS {sp : Sp} {E : L2.St → XK} {t : TA} {σ : L2.St} {H : Hp} {Q : VK} (h : t σ H fun vs H1 => sp vs H1 Q (E σ)) : tCallS sp E t σ H Q := h
theorem s_callP {pm : List Nat} {n m : Nat} {sp : Sp} {E : L2.St → XK} {t tk : TA} {σ : L2.St} {H : Hp} {Q : VK} (h : t σ H fun vs H1 => tk σ H1 fun zs H2 => vs.length = n ∧ zs.length = m ∧ sp (perm pm (vs ++ zs)) H2 Q (E σ)) : tCallP pm n m sp E t tk σ H Q := h
end Z
namespace Z
open PySem PySem.Spec PyProof.Rows L2 Evl
theorem passAtL {X : Cx} (σ : L2.St) : PassesAt (L2.CX X.prog X.w) X σ E0 := fun pins H s e s' I h => passL pins σ H s e s' I h
def tTry (K : PySem.W.Frag) (tb : WX → TS) (Wout : WX) (l : List Hd) : TS := fun D σ H => tb (wMix K Wout D l) D σ H
end Z

/-! steps: exceptions, calls with keywords -/
namespace Z
open PySem PySem.Spec PyProof.Rows L2 Evl
section
variable {K : PySem.W.Frag} {σ : L2.St} {H : Hp} {Q : VK} {D : Ends}
theorem s_try {tb : WX → TS} {Wout : WX} {l : List Hd} (h : tb (wMix K Wout D l) D σ H) : tTry K tb Wout l D σ H := h
theorem mix_hit {Wout : WX} {c cls : Value} {i : Option Nat} {ts : Addr → Value → Option Addr → TS} {r : List Hd} {d : Option Addr} (e : PySem.W.exmOne K cls c = some true) (h : ∀ a, H a = none → ts a cls d (unb i D) (bnd i a σ) H) :
    wMix K Wout D ((c, i, ts) :: r) cls d σ H := ⟨true, e, (fun _ => h), fun z => by cases z⟩
theorem mix_miss {Wout : WX} {c cls : Value} {i : Option Nat} {ts : Addr → Value → Option Addr → TS} {r : List Hd} {d : Option Addr} (e : PySem.W.exmOne K cls c = some false) (h : wMix K Wout D r cls d σ H) :
    wMix K Wout D ((c, i, ts) :: r) cls d σ H := ⟨false, e, (fun z => by cases z), fun _ => h⟩
theorem s_xf {a : Addr} {cls : Value} {d : Option Addr} {C : Addr} {f : Str} {te : TE} (h : te σ H fun x H1 => x = .ref a ∧ cls = .ref C ∧ ∃ (dd : Addr) (fs : List (Str × V)) (v : V), d = some dd ∧ H1 dd = some (.xd fs) ∧ fs.lookup f = some v ∧ Q v H1) : tXf a cls d C f te σ H Q := h
theorem xf_at {a C dd : Addr} {f : Str} {v : V} {R : V → Prop} (h : H dd = some (.xd [(f, v)])) (q : R v) :
    V.ref a = .ref a ∧ (Value.ref C) = .ref C ∧ ∃ (d2 : Addr) (fs : List (Str × V)) (w : V), some dd = some d2 ∧ H d2 = some (.xd fs) ∧ fs.lookup f = some w ∧ R w := ⟨rfl, rfl, dd, _, v, rfl, h, by simp [List.lookup], q⟩
end
theorem Rz.of {K : PySem.W.Frag} {x f : Str} {v : V} {H H1 : Hp} {E : XK} (h : Rz K x f v H E) (e : Ex H H1) : Rz K x f v H1 E := fun H' d e' hd => h H' d (e.trans e') hd
end Z
namespace Z
open PySem PySem.Spec PyProof.Rows L2 Evl
theorem s_par {i j : Nat} {t : TA} {D : Ends} {σ : L2.St} {H : Hp} (h : t σ H fun vs H1 => ∃ x y, vs = [x, y] ∧ D.nx ((σ.set i (some x)).set j (some y)) H1) : tPar i j t D σ H := h
end Z

/-! ### an exception class of the package: `__init__(self, kind)` says super().__init__(text), then self.kind = kind -/
namespace PySem
namespace Sxkind
open PySem.W PySem.Calls PyProof.Rows PySem.HandSPX
def iA (p1 p2 : Pos) : Arguments := { posonlyargs := [], args := [{ arg := "self", annotation := none, pos := p1 }, { arg := "kind", annotation := none, pos := p2 }], vararg := none, kwonlyargs := [], kw_defaults := [], kwarg := none, defaults := [] }
def iB (txt : Str) (q1 q2 q3 q4 q5 q6 r1 r2 r3 r4 : Pos) : List Stmt := [.Expr (.Call (.Attribute (.Call (.Name "super" q1) [] [] q2) "__init__" q3) [.Constant (.str txt) 0 q4] [] q5) q6, .Assign [.Attribute (.Name "self" r1) "kind" r2] (.Name "kind" r3) r4]
def iS : Scope := { kind := .function, names := [(PySem.Str.ofString "self", .local), (PySem.Str.ofString "kind", .local), (PySem.Str.ofString "__class__", .free), (PySem.Str.ofString "super", .globalImplicit)], isGenerator := false, isCoroutine := false, more := [] }
/-- what the written part says of the class x at C, of its `__init__` at fI -/
structure Txt (P : Program) (K : Frag) (mg : Str → Option Value) (x : Str) (C fI : Addr) : Prop where
  gC : mg x = some (.ref C)
  noS : mg "super" = none
  cls : ∃ nm q N bs bm sn sub ab col dd k0 k1 k2 k3 k5, K.lookup C = some (excClassObj nm q C N bs bm true sn sub ab col dd k0 k1 k2 k3 k5 "ValueError.__new__") ∧ refsVE bm = true
  sa : findIn K (.ref C) "__setattr__" = some (some (.builtin "object.__setattr__"))
  noN : findIn K (.ref C) "kind" = some none
  iC : findIn K (.ref C) "__init__" = some (some (.ref fI))
  tC : typeIn K (.ref fI) = some (.type "function")
  kC : keepIn K (.ref C) = true
  exC : subIn K (.ref C) (.type "BaseException") = some true
  veC : subIn K (.ref C) (.type "ValueError") = some true
  tyC : typeIn K (.ref C) = some (.type "type")
  mroC : mroIn K C (.ref C) = some true
  opq : nsIn K cStatics "thirdparty.any" = some none
  sup : ks_superIn K C C "__init__" = some (some (.builtin "ValueError.__init__"))
  top : (P.main.scope.names.lookup ("super" : Str)).isSome = false
  fn : ∃ (qu txt : Str) (oc : Value) (od : Option Addr) (doc pm : Value) (an : Option Addr) (cda : Addr) (ct : Value) (osl : Array (Option Value)) (cc : Addr) (p1 p2 q1 q2 q3 q4 q5 q6 r1 r2 r3 r4 : Pos),
    K.lookup fI = some ⟨oc, od, .func (ksFn "__init__" qu (iA p1 p2) (iB txt q1 q2 q3 q4 q5 q6 r1 r2 r3 r4) iS .none .none doc pm an (.ref cda) ct cc), osl⟩ ∧ codeIn K (.ref cda) qu = true ∧
    (∃ cl cld csl, K.lookup cc = some ⟨cl, cld, .cell (some (.ref C)), csl⟩) ∧ (∃ ccl cdd vs ccs file tf, K.lookup cda = some ⟨ccl, cdd, .fields vs, ccs⟩ ∧ vs[2]? = some (.str file tf) ∧ ((P.main.file : Str) == file) = true) ∧ (q3.endLine == q5.line) = true
theorem one_size (v : Value) : [v].length ≤ sizeLine := by
  rw [sizeLine_eq]
  exact (by decide : 1 ≤ 16777216)
theorem he_of {env : Env} {txt : Str} {q1 q2 q3 q4 q5 : Pos} (hl : (q3.endLine == q5.line) = true) :
    eval (.Call (.Attribute (.Call (.Name "super" q1) [] [] q2) "__init__" q3) [.Constant (.str txt) 0 q4] [] q5) env = (do
      let ov ← attributeBase (.Call (.Name "super" q1) [] [] q2) "__init__" env (eval (.Call (.Name "super" q1) [] [] q2) env)
      standAt q3.atName
      let (f, first) ← holding [ov] (getMethod ov "__init__" (do return (← importBound (.Call (.Name "super" q1) [] [] q2) env).getD true))
      callWith q5 f first (backTo q5 (starEach [.Constant (.str txt) 0 q4] env)) []) := by
  have hp : methodCallPos true (.Call (.Name "super" q1) [] [] q2) env q3 q5 = pure q5 := by
    unfold methodCallPos
    rw [if_pos (by rw [hl]; rfl)]
  show (do
      let ov ← attributeBase (.Call (.Name "super" q1) [] [] q2) "__init__" env (eval (.Call (.Name "super" q1) [] [] q2) env)
      standAt q3.atName
      let (f, first) ← holding [ov] (getMethod ov "__init__" (do return (← importBound (.Call (.Name "super" q1) [] [] q2) env).getD true))
      let p ← methodCallPos true (.Call (.Name "super" q1) [] [] q2) env q3 q5
      callWith p f first (backTo q5 (starEach [.Constant (.str txt) 0 q4] env)) []) = _
  rw [hp]
  rfl
structure InitEnd (h h' : Heap) (x C dx t1 : Addr) (v : Value) : Prop where
  keep : ∀ b o, b ≠ x → h.get? b = some o → h'.get? b = some o
  obj : h'.get? x = some { cls := .ref C, dict := some dx, data := .fields #[.ref t1, .none, .none, .none, .bool false, .none] }
  dbig : h.objs.size ≤ dx
  dne : dx ≠ x
  ns : h'.Ns1 dx (fun y => if y = "kind" then some v else none)
structure OwnMade (h h' : Heap) (e C d : Addr) (v : Value) : Prop where
  keep : ∀ b o, h.get? b = some o → h'.get? b = some o
  new : h.objs.size ≤ e
  obj : ∃ oe vs, h'.get? e = some oe ∧ oe.cls = .ref C ∧ oe.dict = some d ∧ oe.data = .fields vs ∧ vs[1]? = some .none
  dbig : h.objs.size ≤ d
  dne : d ≠ e
  ns : h'.Ns1 d (fun y => if y = "kind" then some v else none)
section
variable {prog : Program} {w : World} {A : Around} {E : Value → Shared → Prop} {R : Result → Shared → Prop} {s : Shared} {K : Frag} {mg mb : Str → Option Value} {C fI : Addr} {n : Str}
theorem init (T : Txt prog K mg n C fI) {x t0 : Addr} {v : Value} (X : K.In s.heap) (hG : s.heap.Ns mainGlobals mg) (hB : s.heap.Ns builtinsNs mb) (hb : mb "super" = some (.type "super")) (hlim : s.heap.NoLimit) (hx : s.heap.get? x = some (excO C t0)) (hnx : K.lookup x = none) (hroom : A.depth < recursionLimit)
    (hq : ∀ h' tk t1 dx, InitEnd s.heap h' x C dx t1 v → R (.ok (.ret .none)) { s with heap := h', toks := tk }) :
    codeAny (model prog w) A (.call (.ref fI) ⟨[.ref x, v], []⟩) R s := by
  obtain ⟨qu, txt, oc, od, doc, pm, an, cda, ct, osl, cc, p1, p2, q1, q2, q3, q4, q5, q6, r1, r2, r3, r4, ho, hcd, ⟨cl, cld, csl, hcell⟩, ⟨ccl, cdd, vs, ccs, file, tf, hcode, hvs, hfile⟩, hline⟩ := T.fn
  obtain ⟨nm, q, N, bs, bm, sn, sub, ab, col, dd, k0, k1, k2, k3, k5, hC, hbm⟩ := T.cls
  have hcl : clsIn K C = some { name := nm, bases := bs, mro := .ref C :: bm, ns := N, qualname := q, hasDict := true, slotNames := sn, subclasses := sub, abstract := ab, collection := col, hasDel := false } := by unfold clsIn; rw [hC] <;> rfl
  have hsup := T.sup
  have hxC : x ≠ C := fun z => by
    have y := X _ _ hC
    rw [← z, hx] at y
    cases y
  refine ks_codeAny_call_defAt (fd := ksFn "__init__" qu (iA p1 p2) (iB txt q1 q2 q3 q4 q5 q6 r1 r2 r3 r4) iS .none .none doc pm an (.ref cda) ct cc) (body := iB txt q1 q2 q3 q4 q5 q6 r1 r2 r3 r4) (binds := [("self", .ref x), ("kind", v)]) hroom (X _ _ ho) rfl hlim (codeRec_of X hcd) rfl
    (BindsTo.of_eq (by first | rfl | with_unfolding_all rfl)) (by show ∀ x ∈ iS.names, x.2 ≠ NameKind.cell; decide) (by exact locs rfl) (fun h₁ hns k₁ => ?_) rfl rfl rfl
  have hxL : s.heap.objs.size ≠ x := Nat.ne_of_gt (Heap.lt_size hx)
  have X₁ : K.In h₁ := X.keeps k₁
  have hx₁ := k₁ _ _ hx
  have hG₁ := hG.keeps k₁
  have hB₁ := hB.keeps k₁
  -- super().__init__(text)
  show wpAt _ _ _ (execs (iB txt q1 q2 q3 q4 q5 q6 r1 r2 r3 r4) (ksEnv qu iS s.heap.objs.size fI (.ref cda) cc)) _ _ _
  refine ks_wpAt_execs_cons (ks_wpAt_Expr_any (ks_wpAt_MethodCall ?_ (he_of hline)))
  refine ks_wpAt_super_base (env := ksEnv qu iS s.heap.objs.size fI (.ref cda) cc) (ar := { arg := "self", annotation := none, pos := p1 }) rfl rfl (by decide) rfl (X₁ _ _ ho) rfl rfl rfl (X₁ _ _ hcode) rfl hvs hfile T.top ?_
  refine ks_loadName_global rfl rfl (loadGlobal_builtin (env := ksEnv qu iS s.heap.objs.size fI (.ref cda) cc) hG₁ T.noS hB₁ hb ⟨rfl, ?_⟩)
  refine wpAny_loadName_free rfl rfl rfl ⟨_, X₁ _ _ hcell, rfl⟩ ?_
  refine wpAny_loadName_local (v := .ref x) rfl rfl hns (by first | rfl | with_unfolding_all rfl) ?_
  refine ks_wpAny_isType_cls (X₁ _ _ hC) rfl ⟨rfl, ?_⟩
  refine ks_wpAny_call_super (X₁ _ _ hC) rfl hx₁ rfl (fun c e => by cases e) (looks_mroIn X₁ T.mroC) (fun h₂ hso k₂ => ?_)
  have X₂ : K.In h₂ := X₁.keeps k₂
  have I₂ : PySem.W.InstAt h₂ x (excO C t0) C none := ⟨k₂ _ _ hx₁, rfl, rfl, trivial⟩
  have hI : Looks (model prog w) h₂ (isInstance (.ref x) (.type "ValueError")) true := I₂.type.andThen (looks_subIn X₂ T.veC)
  unfold ks_superIn at hsup
  rw [hcl] at hsup
  refine kxs_getMethod kxs_ValueError hso (looks_opaque X₂ T.opq) (l₀ := .ref C :: bm) (fun A Q E s k q => wpAny_bind ((looks_clsIn X₂ hcl) A _ E s k (wpAny_pure q))) rfl X₂ hsup hI hxC (by decide) ?_
  have up₃ : ∀ b o, h₂.get? b = some o → (h₂.push (kxs_mw "ValueError.__init__" x)).get? b = some o := fun b o e => Heap.get?_push_of_some _ e
  have hu : (h₂.push (kxs_mw "ValueError.__init__" x)).get? h₂.objs.size = some (kxs_mw "ValueError.__init__" x) := Heap.get?_push_at rfl rfl
  refine kxs_callWith (i := "ValueError.__init__") (x := x) (by rfl) ?_
  refine evalArgs_plain (spliced_cons (wpAny_Constant_str (k := 0) (pos := q4) (spliced_nil ?_)))
  refine ⟨hu, ?_⟩
  refine wpAny_call (codeAny_of_tree ?_)
  show wpAny _ _ (callAny (.ref h₂.objs.size) ⟨[.str txt _], []⟩) _ _ _
  simp only [callAny]
  refine wpAny_bind (wpAny_load hu ?_)
  simp only [kxs_mw, show (Value.type "method-wrapper" == Value.type "method" || Value.type "method-wrapper" == Value.type "builtin_function_or_method" || Value.type "method-wrapper" == Value.type "method-wrapper") = true by decide, if_true]
  refine KFB.if_so (by decide) ?_
  have hC₃ := up₃ _ _ (X₂ _ _ hC)
  have hx₃ := up₃ _ _ I₂.at_
  refine wpAny_bind (check_bound_init F.excBase_ValueError.toExcCallFacts hC₃ hx₃ rfl ?_)
  refine wpAny_bind (wpAny_pure (wpAny_pure ?_))
  refine ⟨plainId_quiet F.excBase_ValueError.init.plain _, codeAny_builtin F.excBase_ValueError.initEntry ?_⟩
  refine exc_init_tree (cls := .ref C) (t0 := t0) (dv := none) (c2 := .none) (c3 := .none) (b4 := .bool false) hx₃ (one_size _) fun h₄ k₄ hx₄ ht₄ => ?_
  have k14 : ∀ b o, b ≠ x → h₁.get? b = some o → h₄.get? b = some o := fun b o hb e => k₄ b o hb (up₃ _ _ (k₂ _ _ e))
  have k04 : ∀ b o, b ≠ x → s.heap.get? b = some o → h₄.get? b = some o := fun b o hb e => k14 b o hb (k₁ _ _ e)
  have X₄ : K.In h₄ := fun a o e => k04 a o (fun z => by rw [z, hnx] at e; cases e) (X _ _ e)
  have hns₄ : h₄.Ns s.heap.objs.size (fun y => (([("self", .ref x), ("kind", v)] : List (Str × Value)).reverse.lookup y)) := by
    obtain ⟨oL, es, ep, hL, r⟩ := hns
    exact ⟨oL, es, ep, k14 _ _ hxL hL, r⟩
  have sz : s.heap.objs.size < h₁.objs.size := hns.lt
  -- self.kind = kind
  show wpAt _ _ _ _ _ _ _
  refine wpAt_of_wpAny ?_
  refine wpAny_execs_cons (plainObj_wpAny_Assign_Attribute ?_)
  refine ESX.ldL (env := ksEnv qu iS s.heap.objs.size fI (.ref cda) cc) (v := v) hns₄ (by first | rfl | with_unfolding_all rfl | kernel_rfl) (ESX.ldL (env := ksEnv qu iS s.heap.objs.size fI (.ref cda) cc) (v := .ref x) hns₄ (by first | rfl | with_unfolding_all rfl | kernel_rfl) ?_)
  refine set_plain X₄ (ox := excO C (h₂.push (kxs_mw "ValueError.__init__" x)).objs.size) (od := none) ⟨hx₄, rfl, rfl, trivial⟩ T.sa ?_
  refine exc_osa X₄ hx₄ hcl (show refsVE (.ref C :: bm) = true from hbm) rfl T.noN (fun h₅ tk₅ dx k₅ dn dne hx₅ hn₅ => ?_)
  have le4 : h₁.objs.size ≤ h₄.objs.size := by
    have a1 := Heap.lt_size hso
    have a2 := Heap.lt_size ht₄
    have a3 := Heap.lt_size hu
    exact Nat.le_of_lt (Nat.lt_trans a1 (Nat.lt_trans a3 a2))
  exact wpAny_execs_nil (hq h₅ tk₅ _ dx ⟨fun b o hb e => k₅ b o hb (k04 b o hb e), hx₅, Nat.le_of_lt (Nat.lt_of_lt_of_le sz (Nat.le_trans le4 dn)), dne, hn₅⟩)
theorem made (T : Txt prog K mg n C fI) {v : Value} (X : K.In s.heap) (hG : s.heap.Ns mainGlobals mg) (hB : s.heap.Ns builtinsNs mb) (hb : mb "super" = some (.type "super")) (hlim : s.heap.NoLimit) (hroom : A.depth + 1 < recursionLimit)
    (hq : ∀ h' tk e d, OwnMade s.heap h' e C d v → R (.ok (.ret (.ref e))) { s with heap := h', toks := tk }) :
    codeAny (model prog w) A (.call (.ref C) ⟨[v], []⟩) R s := by
  obtain ⟨nm, q, N, bs, bm, sn, sub, ab, col, dd, k0, k1, k2, k3, k5, hC, hbm⟩ := T.cls
  obtain ⟨hp, g, dr, tk, os⟩ := s
  have k : ∀ b o, hp.get? b = some o → ((hp.push (kdv_tup [v])).push (excO C hp.objs.size)).get? b = some o := fun b o e => Heap.get?_push_of_some _ (Heap.get?_push_of_some _ e)
  have hget : ((hp.push (kdv_tup [v])).push (excO C hp.objs.size)).get? (hp.objs.size + 1) = some (excO C hp.objs.size) := by heap_get
  have hnx : K.lookup (hp.objs.size + 1) = none := by
    cases e : K.lookup (hp.objs.size + 1) with
    | none => rfl
    | some o =>
      have z : hp.get? (hp.objs.size + 1) = some o := X _ _ e
      exact absurd (Nat.lt_of_succ_lt (Heap.lt_size z)) (Nat.lt_irrefl _)
  refine call_own F.excBase_ValueError (fun X => refsVE_contains X bm hbm) (X _ _ hC) (looks_findIn X T.iC) (fun self => bind_fn X self T.tC) (one_size v) ?_
  refine init (s := ⟨(hp.push (kdv_tup [v])).push (excO C hp.objs.size), g, dr, tk, os⟩) T (X.keeps k) (hG.keeps k) (hB.keeps k) hb (hlim.keeps k) hget hnx ?_ fun h' tk' t1 dx ⟨k', hx, dn, dne, hns⟩ => ?_
  · show A.depth + 1 < recursionLimit
    exact hroom
  · have old : ∀ b o, hp.get? b = some o → h'.get? b = some o := fun b o e => k' b o (Nat.ne_of_lt (Nat.lt_succ_of_lt (Heap.lt_size e))) (k b o e)
    have z : hp.objs.size + 1 + 1 ≤ dx := by
      first
        | (simpa only [Heap.size_push] using dn)
        | exact dn
        | (have q := dn; rw [Heap.size_push, Heap.size_push] at q; exact q)
    exact ⟨rfl, hq h' tk' (hp.objs.size + 1) dx ⟨old, Nat.le_succ _, ⟨_, _, hx, rfl, rfl, rfl, rfl⟩, Nat.le_trans (Nat.le_trans (Nat.le_succ _) (Nat.le_succ _)) z, dne, hns⟩⟩
end
end Sxkind
end PySem
namespace L2
open PySem PySem.Spec PyProof.Rows
theorem relO_kind {v : V} {v' : Value} (r : RelV v v') (f : Str) : RelO (List.lookup f [(("kind" : Str), v)]) (if f = "kind" then some v' else none) := by
  by_cases hw : f = "kind"
  · subst hw
    rw [if_pos rfl]
    have q : List.lookup ("kind" : Str) [(("kind" : Str), v)] = some v := by simp [List.lookup]
    rw [q]
    exact r
  · rw [if_neg hw]
    have qw : (f == ("kind" : Str)) = false := by simpa using hw
    have q2 : List.lookup f [(("kind" : Str), v)] = none := by simp [List.lookup, qw]
    rw [q2]
    trivial
section
variable {X : Cx} {C fI : Addr}
/-- x(e) : an exception of the class at C, its dict d new -/
def tMkkind (C : Addr) (ta : TA) : St → Hp → XK → Prop := fun σ H Q => ta σ H fun vs H1 => ∃ v, vs = [v] ∧ ∀ d, H1 d = none → Q (.ref C) (some d) (upd H1 d (.xd [(("kind" : Str), v)]))
theorem pmkkind {x : Str} {a : Expr} {ta : TA} {p pos : Pos} {k : Nat} (T : PySem.Sxkind.Txt X.prog X.K X.mg x C fI) (hr : Room k X.A) (ha : PA X [a] ta) (hg : Gl X x := by rfl) (hdb : (x == ("__debug__" : Str)) = false := by decide)
    (he : starEach (a :: []) X.env = (false, eval a X.env) :: starEach [] X.env := by rfl) (hpl : (backTo pos (starEach [] X.env)).any (·.1) = false := by rfl) :
    PMk X (.Call (.Name x p) [a] [] pos) (tMkkind C ta) := by
  intro pins s σ H Q I h
  refine wpAny_Call_Name_kw (ld_glob I hg T.gC ?_ hdb)
  refine PySem.W.callWith_K (h₀ := X.base) I.ok.mod.kin T.kC (thn (ha.run pos pins s σ H _ I h) fun us s1 hh => ?_) he hpl
  obtain ⟨vs, H1, I1, r1, v, ev, q1⟩ := hh
  subst ev
  refine ⟨I1.kIn, ?_⟩
  cases r1 with
  | cons rv rn =>
    rename_i v' us'
    cases rn
    show wpAny _ _ (call (.ref C) [v']) _ _ _
    have hlim := I1.nolimit
    obtain ⟨mb, b1, b2⟩ := I1.mod.blt
    have hG1 := I1.mod.glob.keeps I1.bk
    have hB1 := b1.keeps I1.bk
    obtain ⟨hp, g, dr, tk, os⟩ := s1
    refine wpAny_call (PySem.Sxkind.made T I1.kIn hG1 hB1 ((b2 _ (by decide)).trans (by first | boot_by_name | rfl | kernel_rfl)) hlim (by have := hr.dp; omega) fun h' tk' e d M => ?_)
    show MkP X pins σ Q (.ref e) ⟨h', g, dr, tk', os⟩
    obtain ⟨oe, fv, hoe, hc, hd, hdat, h1⟩ := M.obj
    have hns := M.ns
    obtain ⟨G', g1, g2⟩ := restrict h' fun b => decide (b ≠ e)
    have gk : ∀ b, b ≠ e → G'.get? b = h'.get? b := fun b hb => g1 b (decide_eq_true hb)
    have ge : G'.get? e = none := g2 e (by simp)
    have old : ∀ b o, hp.get? b = some o → G'.get? b = some o := fun b o q => (gk b (Nat.ne_of_lt (Nat.lt_of_lt_of_le (Heap.lt_size q) M.new))).trans (M.keep b o q)
    have ob : ObjOk X.prog X.w (upd H1 d (.xd [(("kind" : Str), v)])) G' d (.xd [(("kind" : Str), v)]) :=
      ⟨_, hns.at (fun o q => (gk d M.dne).trans q), fun f => relO_kind rv f⟩
    have J : Inv X pins σ (upd H1 d (.xd [(("kind" : Str), v)])) ⟨G', g, dr, tk', os⟩ := I1.laid (t' := tk') old M.dbig ob
    refine ⟨e, oe, fv, ⟨G', g, dr, tk', os⟩, _, .ref C, some d, rfl, J, fun b o q => ?_, ge, hoe, ⟨hc, hd⟩, hdat, h1, ?_, rfl, I1.bare, raises_own T.exC T.tyC, q1 d (I1.hok.fresh M.dbig)⟩
    · by_cases hb : b = e
      · have q' : G'.get? b = some o := q
        rw [hb, ge] at q'; cases q'
      · exact (gk b hb).symm.trans q
    · rw [upd_ne (Ne.symm M.dne)]
      exact I1.hok.fresh M.new
/-- raise x(e) -/
def tRaisekind (C : Addr) (W : WX) (ta : TA) : TS := fun _ σ H => tMkkind C ta σ H fun cls d H' => W cls d σ H'
theorem ps_raisekind {x : Str} {a : Expr} {ta : TA} {W : WX} {p pos pos2 : Pos} {k : Nat} (hc : X.calm = true) (T : PySem.Sxkind.Txt X.prog X.K X.mg x C fI) (hr : Room k X.A) (tk : Takes X W) (ha : PA X [a] ta) (hg : Gl X x := by rfl) (hdb : (x == ("__debug__" : Str)) = false := by decide)
    (he : starEach (a :: []) X.env = (false, eval a X.env) :: starEach [] X.env := by rfl) (hpl : (backTo pos (starEach [] X.env)).any (·.1) = false := by rfl) :
    PS X (.Raise (some (.Call (.Name x p) [a] [] pos)) none pos2) (tRaisekind C W ta) := ps_raise hc tk (pmkkind T hr ha hg hdb he hpl)
end
end L2

namespace Z
open PySem PySem.Spec PyProof.Rows L2
/-- the init's params, body as the text has them -/
def Chkkind (P0 : Program) (K : PySem.W.Frag) (x : Str) : Bool :=
  eqB (PySem.W.findIn K (.ref (He.ga K x)) "__setattr__") (some (some (.builtin "object.__setattr__"))) && (eqB (PySem.W.findIn K (.ref (He.ga K x)) "kind") (some none) && (clsB K (He.ga K x) && initB P0 K x))
theorem chkkind_ok {P P0 : Program} {K : PySem.W.Frag} {mg : Str → Option Value} {x : Str} {qu txt : Str} {p1 p2 q1 q2 q3 q4 q5 q6 r1 r2 r3 r4 : Pos} (g : mg x = some (.ref (He.ga K x))) (ns : mg "super" = none)
    (hf : P.main.file = P0.main.file) (hs : (P.main.scope.names.lookup ("super" : Str)).isSome = false)
    (e : fnS K (x, some "__init__") = (some ("__init__", qu, PySem.Sxkind.iA p1 p2, FuncBody.stmts (PySem.Sxkind.iB txt q1 q2 q3 q4 q5 q6 r1 r2 r3 r4), PySem.Sxkind.iS, mainGlobals, [("__class__" : Str)], builtinsNs) : FnS)) (hl : (q3.endLine == q5.line) = true)
    (c : Chkkind P0 K x = true) : PySem.Sxkind.Txt P K mg x (He.ga K x) (He.ma K (He.ga K x) "__init__") := by
  obtain ⟨c1, c⟩ := He.ba c
  obtain ⟨c2, c⟩ := He.ba c
  obtain ⟨c3, c4⟩ := He.ba c
  obtain ⟨d1, d2, d3, d4, d5, d6, d7⟩ := initB_ok c4
  obtain ⟨oc, od, osl, doc, pm, an, cda, ct, cc, hL, hq, hcell, hcode⟩ := d7 _ _ _ _ _ e
  obtain ⟨k1, k2, k3, k4, k5, k6, k7⟩ := d6
  exact ⟨g, ns, clsB_ok c3, eqB_ok c1, eqB_ok c2, d1, d2, k1, k2, k3, k4, k5, k6, k7, hs,
    ⟨qu, txt, oc, od, doc, pm, an, cda, ct, osl, cc, p1, p2, q1, q2, q3, q4, q5, q6, r1, r2, r3, r4, hL, hq, hcell, (by rw [hf]; exact hcode), hl⟩⟩
end Z
namespace Z
open PySem PySem.Spec PyProof.Rows L2 Evl
theorem s_raisekind {C : Addr} {W : WX} {ta : TA} {D : Ends} {σ : L2.St} {H : Hp} (h : ta σ H fun vs H1 => ∃ v, vs = [v] ∧ ∀ d, H1 d = none → W (.ref C) (some d) σ (upd H1 d (.xd [(("kind" : Str), v)]))) : tRaisekind C W ta D σ H := h
theorem rzkind {K : PySem.W.Frag} {x : Str} {v : V} {H0 H : Hp} {E : XK} (r : Rz K x "kind" v H0 E) (e : Ex H0 H) : ∃ v', [v] = [v'] ∧ ∀ d, H d = none → E (.ref (He.ga K x)) (some d) (upd H d (.xd [(("kind" : Str), v')])) :=
  ⟨v, rfl, fun d hd => r _ d (e.trans (Ex.new hd)) upd_same⟩
end Z

/-! ### an exception class of the package: `__init__(self, value)` says super().__init__(text), then self.value = value -/
namespace PySem
namespace Sxvalue
open PySem.W PySem.Calls PyProof.Rows PySem.HandSPX
def iA (p1 p2 : Pos) : Arguments := { posonlyargs := [], args := [{ arg := "self", annotation := none, pos := p1 }, { arg := "value", annotation := none, pos := p2 }], vararg := none, kwonlyargs := [], kw_defaults := [], kwarg := none, defaults := [] }
def iB (txt : Str) (q1 q2 q3 q4 q5 q6 r1 r2 r3 r4 : Pos) : List Stmt := [.Expr (.Call (.Attribute (.Call (.Name "super" q1) [] [] q2) "__init__" q3) [.Constant (.str txt) 0 q4] [] q5) q6, .Assign [.Attribute (.Name "self" r1) "value" r2] (.Name "value" r3) r4]
def iS : Scope := { kind := .function, names := [(PySem.Str.ofString "self", .local), (PySem.Str.ofString "value", .local), (PySem.Str.ofString "__class__", .free), (PySem.Str.ofString "super", .globalImplicit)], isGenerator := false, isCoroutine := false, more := [] }
/-- what the written part says of the class x at C, of its `__init__` at fI -/
structure Txt (P : Program) (K : Frag) (mg : Str → Option Value) (x : Str) (C fI : Addr) : Prop where
  gC : mg x = some (.ref C)
  noS : mg "super" = none
  cls : ∃ nm q N bs bm sn sub ab col dd k0 k1 k2 k3 k5, K.lookup C = some (excClassObj nm q C N bs bm true sn sub ab col dd k0 k1 k2 k3 k5 "ValueError.__new__") ∧ refsVE bm = true
  sa : findIn K (.ref C) "__setattr__" = some (some (.builtin "object.__setattr__"))
  noN : findIn K (.ref C) "value" = some none
  iC : findIn K (.ref C) "__init__" = some (some (.ref fI))
  tC : typeIn K (.ref fI) = some (.type "function")
  kC : keepIn K (.ref C) = true
  exC : subIn K (.ref C) (.type "BaseException") = some true
  veC : subIn K (.ref C) (.type "ValueError") = some true
  tyC : typeIn K (.ref C) = some (.type "type")
  mroC : mroIn K C (.ref C) = some true
  opq : nsIn K cStatics "thirdparty.any" = some none
  sup : ks_superIn K C C "__init__" = some (some (.builtin "ValueError.__init__"))
  top : (P.main.scope.names.lookup ("super" : Str)).isSome = false
  fn : ∃ (qu txt : Str) (oc : Value) (od : Option Addr) (doc pm : Value) (an : Option Addr) (cda : Addr) (ct : Value) (osl : Array (Option Value)) (cc : Addr) (p1 p2 q1 q2 q3 q4 q5 q6 r1 r2 r3 r4 : Pos),
    K.lookup fI = some ⟨oc, od, .func (ksFn "__init__" qu (iA p1 p2) (iB txt q1 q2 q3 q4 q5 q6 r1 r2 r3 r4) iS .none .none doc pm an (.ref cda) ct cc), osl⟩ ∧ codeIn K (.ref cda) qu = true ∧
    (∃ cl cld csl, K.lookup cc = some ⟨cl, cld, .cell (some (.ref C)), csl⟩) ∧ (∃ ccl cdd vs ccs file tf, K.lookup cda = some ⟨ccl, cdd, .fields vs, ccs⟩ ∧ vs[2]? = some (.str file tf) ∧ ((P.main.file : Str) == file) = true) ∧ (q3.endLine == q5.line) = true
theorem one_size (v : Value) : [v].length ≤ sizeLine := by
  rw [sizeLine_eq]
  exact (by decide : 1 ≤ 16777216)
theorem he_of {env : Env} {txt : Str} {q1 q2 q3 q4 q5 : Pos} (hl : (q3.endLine == q5.line) = true) :
    eval (.Call (.Attribute (.Call (.Name "super" q1) [] [] q2) "__init__" q3) [.Constant (.str txt) 0 q4] [] q5) env = (do
      let ov ← attributeBase (.Call (.Name "super" q1) [] [] q2) "__init__" env (eval (.Call (.Name "super" q1) [] [] q2) env)
      standAt q3.atName
      let (f, first) ← holding [ov] (getMethod ov "__init__" (do return (← importBound (.Call (.Name "super" q1) [] [] q2) env).getD true))
      callWith q5 f first (backTo q5 (starEach [.Constant (.str txt) 0 q4] env)) []) := by
  have hp : methodCallPos true (.Call (.Name "super" q1) [] [] q2) env q3 q5 = pure q5 := by
    unfold methodCallPos
    rw [if_pos (by rw [hl]; rfl)]
  show (do
      let ov ← attributeBase (.Call (.Name "super" q1) [] [] q2) "__init__" env (eval (.Call (.Name "super" q1) [] [] q2) env)
      standAt q3.atName
      let (f, first) ← holding [ov] (getMethod ov "__init__" (do return (← importBound (.Call (.Name "super" q1) [] [] q2) env).getD true))
      let p ← methodCallPos true (.Call (.Name "super" q1) [] [] q2) env q3 q5
      callWith p f first (backTo q5 (starEach [.Constant (.str txt) 0 q4] env)) []) = _
  rw [hp]
  rfl
structure InitEnd (h h' : Heap) (x C dx t1 : Addr) (v : Value) : Prop where
  keep : ∀ b o, b ≠ x → h.get? b = some o → h'.get? b = some o
  obj : h'.get? x = some { cls := .ref C, dict := some dx, data := .fields #[.ref t1, .none, .none, .none, .bool false, .none] }
  dbig : h.objs.size ≤ dx
  dne : dx ≠ x
  ns : h'.Ns1 dx (fun y => if y = "value" then some v else none)
structure OwnMade (h h' : Heap) (e C d : Addr) (v : Value) : Prop where
  keep : ∀ b o, h.get? b = some o → h'.get? b = some o
  new : h.objs.size ≤ e
  obj : ∃ oe vs, h'.get? e = some oe ∧ oe.cls = .ref C ∧ oe.dict = some d ∧ oe.data = .fields vs ∧ vs[1]? = some .none
  dbig : h.objs.size ≤ d
  dne : d ≠ e
  ns : h'.Ns1 d (fun y => if y = "value" then some v else none)
section
variable {prog : Program} {w : World} {A : Around} {E : Value → Shared → Prop} {R : Result → Shared → Prop} {s : Shared} {K : Frag} {mg mb : Str → Option Value} {C fI : Addr} {n : Str}
theorem init (T : Txt prog K mg n C fI) {x t0 : Addr} {v : Value} (X : K.In s.heap) (hG : s.heap.Ns mainGlobals mg) (hB : s.heap.Ns builtinsNs mb) (hb : mb "super" = some (.type "super")) (hlim : s.heap.NoLimit) (hx : s.heap.get? x = some (excO C t0)) (hnx : K.lookup x = none) (hroom : A.depth < recursionLimit)
    (hq : ∀ h' tk t1 dx, InitEnd s.heap h' x C dx t1 v → R (.ok (.ret .none)) { s with heap := h', toks := tk }) :
    codeAny (model prog w) A (.call (.ref fI) ⟨[.ref x, v], []⟩) R s := by
  obtain ⟨qu, txt, oc, od, doc, pm, an, cda, ct, osl, cc, p1, p2, q1, q2, q3, q4, q5, q6, r1, r2, r3, r4, ho, hcd, ⟨cl, cld, csl, hcell⟩, ⟨ccl, cdd, vs, ccs, file, tf, hcode, hvs, hfile⟩, hline⟩ := T.fn
  obtain ⟨nm, q, N, bs, bm, sn, sub, ab, col, dd, k0, k1, k2, k3, k5, hC, hbm⟩ := T.cls
  have hcl : clsIn K C = some { name := nm, bases := bs, mro := .ref C :: bm, ns := N, qualname := q, hasDict := true, slotNames := sn, subclasses := sub, abstract := ab, collection := col, hasDel := false } := by unfold clsIn; rw [hC] <;> rfl
  have hsup := T.sup
  have hxC : x ≠ C := fun z => by
    have y := X _ _ hC
    rw [← z, hx] at y
    cases y
  refine ks_codeAny_call_defAt (fd := ksFn "__init__" qu (iA p1 p2) (iB txt q1 q2 q3 q4 q5 q6 r1 r2 r3 r4) iS .none .none doc pm an (.ref cda) ct cc) (body := iB txt q1 q2 q3 q4 q5 q6 r1 r2 r3 r4) (binds := [("self", .ref x), ("value", v)]) hroom (X _ _ ho) rfl hlim (codeRec_of X hcd) rfl
    (BindsTo.of_eq (by first | rfl | with_unfolding_all rfl)) (by show ∀ x ∈ iS.names, x.2 ≠ NameKind.cell; decide) (by exact locs rfl) (fun h₁ hns k₁ => ?_) rfl rfl rfl
  have hxL : s.heap.objs.size ≠ x := Nat.ne_of_gt (Heap.lt_size hx)
  have X₁ : K.In h₁ := X.keeps k₁
  have hx₁ := k₁ _ _ hx
  have hG₁ := hG.keeps k₁
  have hB₁ := hB.keeps k₁
  -- super().__init__(text)
  show wpAt _ _ _ (execs (iB txt q1 q2 q3 q4 q5 q6 r1 r2 r3 r4) (ksEnv qu iS s.heap.objs.size fI (.ref cda) cc)) _ _ _
  refine ks_wpAt_execs_cons (ks_wpAt_Expr_any (ks_wpAt_MethodCall ?_ (he_of hline)))
  refine ks_wpAt_super_base (env := ksEnv qu iS s.heap.objs.size fI (.ref cda) cc) (ar := { arg := "self", annotation := none, pos := p1 }) rfl rfl (by decide) rfl (X₁ _ _ ho) rfl rfl rfl (X₁ _ _ hcode) rfl hvs hfile T.top ?_
  refine ks_loadName_global rfl rfl (loadGlobal_builtin (env := ksEnv qu iS s.heap.objs.size fI (.ref cda) cc) hG₁ T.noS hB₁ hb ⟨rfl, ?_⟩)
  refine wpAny_loadName_free rfl rfl rfl ⟨_, X₁ _ _ hcell, rfl⟩ ?_
  refine wpAny_loadName_local (v := .ref x) rfl rfl hns (by first | rfl | with_unfolding_all rfl) ?_
  refine ks_wpAny_isType_cls (X₁ _ _ hC) rfl ⟨rfl, ?_⟩
  refine ks_wpAny_call_super (X₁ _ _ hC) rfl hx₁ rfl (fun c e => by cases e) (looks_mroIn X₁ T.mroC) (fun h₂ hso k₂ => ?_)
  have X₂ : K.In h₂ := X₁.keeps k₂
  have I₂ : PySem.W.InstAt h₂ x (excO C t0) C none := ⟨k₂ _ _ hx₁, rfl, rfl, trivial⟩
  have hI : Looks (model prog w) h₂ (isInstance (.ref x) (.type "ValueError")) true := I₂.type.andThen (looks_subIn X₂ T.veC)
  unfold ks_superIn at hsup
  rw [hcl] at hsup
  refine kxs_getMethod kxs_ValueError hso (looks_opaque X₂ T.opq) (l₀ := .ref C :: bm) (fun A Q E s k q => wpAny_bind ((looks_clsIn X₂ hcl) A _ E s k (wpAny_pure q))) rfl X₂ hsup hI hxC (by decide) ?_
  have up₃ : ∀ b o, h₂.get? b = some o → (h₂.push (kxs_mw "ValueError.__init__" x)).get? b = some o := fun b o e => Heap.get?_push_of_some _ e
  have hu : (h₂.push (kxs_mw "ValueError.__init__" x)).get? h₂.objs.size = some (kxs_mw "ValueError.__init__" x) := Heap.get?_push_at rfl rfl
  refine kxs_callWith (i := "ValueError.__init__") (x := x) (by rfl) ?_
  refine evalArgs_plain (spliced_cons (wpAny_Constant_str (k := 0) (pos := q4) (spliced_nil ?_)))
  refine ⟨hu, ?_⟩
  refine wpAny_call (codeAny_of_tree ?_)
  show wpAny _ _ (callAny (.ref h₂.objs.size) ⟨[.str txt _], []⟩) _ _ _
  simp only [callAny]
  refine wpAny_bind (wpAny_load hu ?_)
  simp only [kxs_mw, show (Value.type "method-wrapper" == Value.type "method" || Value.type "method-wrapper" == Value.type "builtin_function_or_method" || Value.type "method-wrapper" == Value.type "method-wrapper") = true by decide, if_true]
  refine KFB.if_so (by decide) ?_
  have hC₃ := up₃ _ _ (X₂ _ _ hC)
  have hx₃ := up₃ _ _ I₂.at_
  refine wpAny_bind (check_bound_init F.excBase_ValueError.toExcCallFacts hC₃ hx₃ rfl ?_)
  refine wpAny_bind (wpAny_pure (wpAny_pure ?_))
  refine ⟨plainId_quiet F.excBase_ValueError.init.plain _, codeAny_builtin F.excBase_ValueError.initEntry ?_⟩
  refine exc_init_tree (cls := .ref C) (t0 := t0) (dv := none) (c2 := .none) (c3 := .none) (b4 := .bool false) hx₃ (one_size _) fun h₄ k₄ hx₄ ht₄ => ?_
  have k14 : ∀ b o, b ≠ x → h₁.get? b = some o → h₄.get? b = some o := fun b o hb e => k₄ b o hb (up₃ _ _ (k₂ _ _ e))
  have k04 : ∀ b o, b ≠ x → s.heap.get? b = some o → h₄.get? b = some o := fun b o hb e => k14 b o hb (k₁ _ _ e)
  have X₄ : K.In h₄ := fun a o e => k04 a o (fun z => by rw [z, hnx] at e; cases e) (X _ _ e)
  have hns₄ : h₄.Ns s.heap.objs.size (fun y => (([("self", .ref x), ("value", v)] : List (Str × Value)).reverse.lookup y)) := by
    obtain ⟨oL, es, ep, hL, r⟩ := hns
    exact ⟨oL, es, ep, k14 _ _ hxL hL, r⟩
  have sz : s.heap.objs.size < h₁.objs.size := hns.lt
  -- self.value = value
  show wpAt _ _ _ _ _ _ _
  refine wpAt_of_wpAny ?_
  refine wpAny_execs_cons (plainObj_wpAny_Assign_Attribute ?_)
  refine ESX.ldL (env := ksEnv qu iS s.heap.objs.size fI (.ref cda) cc) (v := v) hns₄ (by first | rfl | with_unfolding_all rfl | kernel_rfl) (ESX.ldL (env := ksEnv qu iS s.heap.objs.size fI (.ref cda) cc) (v := .ref x) hns₄ (by first | rfl | with_unfolding_all rfl | kernel_rfl) ?_)
  refine set_plain X₄ (ox := excO C (h₂.push (kxs_mw "ValueError.__init__" x)).objs.size) (od := none) ⟨hx₄, rfl, rfl, trivial⟩ T.sa ?_
  refine exc_osa X₄ hx₄ hcl (show refsVE (.ref C :: bm) = true from hbm) rfl T.noN (fun h₅ tk₅ dx k₅ dn dne hx₅ hn₅ => ?_)
  have le4 : h₁.objs.size ≤ h₄.objs.size := by
    have a1 := Heap.lt_size hso
    have a2 := Heap.lt_size ht₄
    have a3 := Heap.lt_size hu
    exact Nat.le_of_lt (Nat.lt_trans a1 (Nat.lt_trans a3 a2))
  exact wpAny_execs_nil (hq h₅ tk₅ _ dx ⟨fun b o hb e => k₅ b o hb (k04 b o hb e), hx₅, Nat.le_of_lt (Nat.lt_of_lt_of_le sz (Nat.le_trans le4 dn)), dne, hn₅⟩)
theorem made (T : Txt prog K mg n C fI) {v : Value} (X : K.In s.heap) (hG : s.heap.Ns mainGlobals mg) (hB : s.heap.Ns builtinsNs mb) (hb : mb "super" = some (.type "super")) (hlim : s.heap.NoLimit) (hroom : A.depth + 1 < recursionLimit)
    (hq : ∀ h' tk e d, OwnMade s.heap h' e C d v → R (.ok (.ret (.ref e))) { s with heap := h', toks := tk }) :
    codeAny (model prog w) A (.call (.ref C) ⟨[v], []⟩) R s := by
  obtain ⟨nm, q, N, bs, bm, sn, sub, ab, col, dd, k0, k1, k2, k3, k5, hC, hbm⟩ := T.cls
  obtain ⟨hp, g, dr, tk, os⟩ := s
  have k : ∀ b o, hp.get? b = some o → ((hp.push (kdv_tup [v])).push (excO C hp.objs.size)).get? b = some o := fun b o e => Heap.get?_push_of_some _ (Heap.get?_push_of_some _ e)
  have hget : ((hp.push (kdv_tup [v])).push (excO C hp.objs.size)).get? (hp.objs.size + 1) = some (excO C hp.objs.size) := by heap_get
  have hnx : K.lookup (hp.objs.size + 1) = none := by
    cases e : K.lookup (hp.objs.size + 1) with
    | none => rfl
    | some o =>
      have z : hp.get? (hp.objs.size + 1) = some o := X _ _ e
      exact absurd (Nat.lt_of_succ_lt (Heap.lt_size z)) (Nat.lt_irrefl _)
  refine call_own F.excBase_ValueError (fun X => refsVE_contains X bm hbm) (X _ _ hC) (looks_findIn X T.iC) (fun self => bind_fn X self T.tC) (one_size v) ?_
  refine init (s := ⟨(hp.push (kdv_tup [v])).push (excO C hp.objs.size), g, dr, tk, os⟩) T (X.keeps k) (hG.keeps k) (hB.keeps k) hb (hlim.keeps k) hget hnx ?_ fun h' tk' t1 dx ⟨k', hx, dn, dne, hns⟩ => ?_
  · show A.depth + 1 < recursionLimit
    exact hroom
  · have old : ∀ b o, hp.get? b = some o → h'.get? b = some o := fun b o e => k' b o (Nat.ne_of_lt (Nat.lt_succ_of_lt (Heap.lt_size e))) (k b o e)
    have z : hp.objs.size + 1 + 1 ≤ dx := by
      first
        | (simpa only [Heap.size_push] using dn)
        | exact dn
        | (have q := dn; rw [Heap.size_push, Heap.size_push] at q; exact q)
    exact ⟨rfl, hq h' tk' (hp.objs.size + 1) dx ⟨old, Nat.le_succ _, ⟨_, _, hx, rfl, rfl, rfl, rfl⟩, Nat.le_trans (Nat.le_trans (Nat.le_succ _) (Nat.le_succ _)) z, dne, hns⟩⟩
end
end Sxvalue
end PySem
namespace L2
open PySem PySem.Spec PyProof.Rows
theorem relO_value {v : V} {v' : Value} (r : RelV v v') (f : Str) : RelO (List.lookup f [(("value" : Str), v)]) (if f = "value" then some v' else none) := by
  by_cases hw : f = "value"
  · subst hw
    rw [if_pos rfl]
    have q : List.lookup ("value" : Str) [(("value" : Str), v)] = some v := by simp [List.lookup]
    rw [q]
    exact r
  · rw [if_neg hw]
    have qw : (f == ("value" : Str)) = false := by simpa using hw
    have q2 : List.lookup f [(("value" : Str), v)] = none := by simp [List.lookup, qw]
    rw [q2]
    trivial
section
variable {X : Cx} {C fI : Addr}
/-- x(e) : an exception of the class at C, its dict d new -/
def tMkvalue (C : Addr) (ta : TA) : St → Hp → XK → Prop := fun σ H Q => ta σ H fun vs H1 => ∃ v, vs = [v] ∧ ∀ d, H1 d = none → Q (.ref C) (some d) (upd H1 d (.xd [(("value" : Str), v)]))
theorem pmkvalue {x : Str} {a : Expr} {ta : TA} {p pos : Pos} {k : Nat} (T : PySem.Sxvalue.Txt X.prog X.K X.mg x C fI) (hr : Room k X.A) (ha : PA X [a] ta) (hg : Gl X x := by rfl) (hdb : (x == ("__debug__" : Str)) = false := by decide)
    (he : starEach (a :: []) X.env = (false, eval a X.env) :: starEach [] X.env := by rfl) (hpl : (backTo pos (starEach [] X.env)).any (·.1) = false := by rfl) :
    PMk X (.Call (.Name x p) [a] [] pos) (tMkvalue C ta) := by
  intro pins s σ H Q I h
  refine wpAny_Call_Name_kw (ld_glob I hg T.gC ?_ hdb)
  refine PySem.W.callWith_K (h₀ := X.base) I.ok.mod.kin T.kC (thn (ha.run pos pins s σ H _ I h) fun us s1 hh => ?_) he hpl
  obtain ⟨vs, H1, I1, r1, v, ev, q1⟩ := hh
  subst ev
  refine ⟨I1.kIn, ?_⟩
  cases r1 with
  | cons rv rn =>
    rename_i v' us'
    cases rn
    show wpAny _ _ (call (.ref C) [v']) _ _ _
    have hlim := I1.nolimit
    obtain ⟨mb, b1, b2⟩ := I1.mod.blt
    have hG1 := I1.mod.glob.keeps I1.bk
    have hB1 := b1.keeps I1.bk
    obtain ⟨hp, g, dr, tk, os⟩ := s1
    refine wpAny_call (PySem.Sxvalue.made T I1.kIn hG1 hB1 ((b2 _ (by decide)).trans (by first | boot_by_name | rfl | kernel_rfl)) hlim (by have := hr.dp; omega) fun h' tk' e d M => ?_)
    show MkP X pins σ Q (.ref e) ⟨h', g, dr, tk', os⟩
    obtain ⟨oe, fv, hoe, hc, hd, hdat, h1⟩ := M.obj
    have hns := M.ns
    obtain ⟨G', g1, g2⟩ := restrict h' fun b => decide (b ≠ e)
    have gk : ∀ b, b ≠ e → G'.get? b = h'.get? b := fun b hb => g1 b (decide_eq_true hb)
    have ge : G'.get? e = none := g2 e (by simp)
    have old : ∀ b o, hp.get? b = some o → G'.get? b = some o := fun b o q => (gk b (Nat.ne_of_lt (Nat.lt_of_lt_of_le (Heap.lt_size q) M.new))).trans (M.keep b o q)
    have ob : ObjOk X.prog X.w (upd H1 d (.xd [(("value" : Str), v)])) G' d (.xd [(("value" : Str), v)]) :=
      ⟨_, hns.at (fun o q => (gk d M.dne).trans q), fun f => relO_value rv f⟩
    have J : Inv X pins σ (upd H1 d (.xd [(("value" : Str), v)])) ⟨G', g, dr, tk', os⟩ := I1.laid (t' := tk') old M.dbig ob
    refine ⟨e, oe, fv, ⟨G', g, dr, tk', os⟩, _, .ref C, some d, rfl, J, fun b o q => ?_, ge, hoe, ⟨hc, hd⟩, hdat, h1, ?_, rfl, I1.bare, raises_own T.exC T.tyC, q1 d (I1.hok.fresh M.dbig)⟩
    · by_cases hb : b = e
      · have q' : G'.get? b = some o := q
        rw [hb, ge] at q'; cases q'
      · exact (gk b hb).symm.trans q
    · rw [upd_ne (Ne.symm M.dne)]
      exact I1.hok.fresh M.new
/-- raise x(e) -/
def tRaisevalue (C : Addr) (W : WX) (ta : TA) : TS := fun _ σ H => tMkvalue C ta σ H fun cls d H' => W cls d σ H'
theorem ps_raisevalue {x : Str} {a : Expr} {ta : TA} {W : WX} {p pos pos2 : Pos} {k : Nat} (hc : X.calm = true) (T : PySem.Sxvalue.Txt X.prog X.K X.mg x C fI) (hr : Room k X.A) (tk : Takes X W) (ha : PA X [a] ta) (hg : Gl X x := by rfl) (hdb : (x == ("__debug__" : Str)) = false := by decide)
    (he : starEach (a :: []) X.env = (false, eval a X.env) :: starEach [] X.env := by rfl) (hpl : (backTo pos (starEach [] X.env)).any (·.1) = false := by rfl) :
    PS X (.Raise (some (.Call (.Name x p) [a] [] pos)) none pos2) (tRaisevalue C W ta) := ps_raise hc tk (pmkvalue T hr ha hg hdb he hpl)
end
end L2

namespace Z
open PySem PySem.Spec PyProof.Rows L2
/-- the init's params, body as the text has them -/
def Chkvalue (P0 : Program) (K : PySem.W.Frag) (x : Str) : Bool :=
  eqB (PySem.W.findIn K (.ref (He.ga K x)) "__setattr__") (some (some (.builtin "object.__setattr__"))) && (eqB (PySem.W.findIn K (.ref (He.ga K x)) "value") (some none) && (clsB K (He.ga K x) && initB P0 K x))
theorem chkvalue_ok {P P0 : Program} {K : PySem.W.Frag} {mg : Str → Option Value} {x : Str} {qu txt : Str} {p1 p2 q1 q2 q3 q4 q5 q6 r1 r2 r3 r4 : Pos} (g : mg x = some (.ref (He.ga K x))) (ns : mg "super" = none)
    (hf : P.main.file = P0.main.file) (hs : (P.main.scope.names.lookup ("super" : Str)).isSome = false)
    (e : fnS K (x, some "__init__") = (some ("__init__", qu, PySem.Sxvalue.iA p1 p2, FuncBody.stmts (PySem.Sxvalue.iB txt q1 q2 q3 q4 q5 q6 r1 r2 r3 r4), PySem.Sxvalue.iS, mainGlobals, [("__class__" : Str)], builtinsNs) : FnS)) (hl : (q3.endLine == q5.line) = true)
    (c : Chkvalue P0 K x = true) : PySem.Sxvalue.Txt P K mg x (He.ga K x) (He.ma K (He.ga K x) "__init__") := by
  obtain ⟨c1, c⟩ := He.ba c
  obtain ⟨c2, c⟩ := He.ba c
  obtain ⟨c3, c4⟩ := He.ba c
  obtain ⟨d1, d2, d3, d4, d5, d6, d7⟩ := initB_ok c4
  obtain ⟨oc, od, osl, doc, pm, an, cda, ct, cc, hL, hq, hcell, hcode⟩ := d7 _ _ _ _ _ e
  obtain ⟨k1, k2, k3, k4, k5, k6, k7⟩ := d6
  exact ⟨g, ns, clsB_ok c3, eqB_ok c1, eqB_ok c2, d1, d2, k1, k2, k3, k4, k5, k6, k7, hs,
    ⟨qu, txt, oc, od, doc, pm, an, cda, ct, osl, cc, p1, p2, q1, q2, q3, q4, q5, q6, r1, r2, r3, r4, hL, hq, hcell, (by rw [hf]; exact hcode), hl⟩⟩
end Z
namespace Z
open PySem PySem.Spec PyProof.Rows L2 Evl
theorem s_raisevalue {C : Addr} {W : WX} {ta : TA} {D : Ends} {σ : L2.St} {H : Hp} (h : ta σ H fun vs H1 => ∃ v, vs = [v] ∧ ∀ d, H1 d = none → W (.ref C) (some d) σ (upd H1 d (.xd [(("value" : Str), v)]))) : tRaisevalue C W ta D σ H := h
theorem rzvalue {K : PySem.W.Frag} {x : Str} {v : V} {H0 H : Hp} {E : XK} (r : Rz K x "value" v H0 E) (e : Ex H0 H) : ∃ v', [v] = [v'] ∧ ∀ d, H d = none → E (.ref (He.ga K x)) (some d) (upd H d (.xd [(("value" : Str), v')])) :=
  ⟨v, rfl, fun d hd => r _ d (e.trans (Ex.new hd)) upd_same⟩
end Z

/-! ### a, *b = a tuple or list -/
namespace Z
open PySem PySem.Spec PySem.Calls PyProof.Rows L2 Evl
section
variable {prog : Program} {w : World} {A : Around} {E : Value → Shared → Prop} {s : Shared}
theorem star_tup {l : Addr} {items : Array Value} {n i : Nat} {Q : List Value → Shared → Prop} (hl : IsTup s.heap l items) (hh : A.handled = none) (hi : i < n) (hn : n ≤ items.size + 1) (hz : items.size ≤ 16384)
    (h : ∀ (h₂ : Heap) (tk : Nat), (∀ b o, s.heap.get? b = some o → h₂.get? b = some o) →
      Q (items.toList.take i ++ [.ref h₂.objs.size] ++ (items.toList.drop i).drop (items.size + 1 - n)) { s with heap := h₂.push { cls := .type "list", data := .seq ((items.toList.drop i).take (items.size + 1 - n)).toArray }, toks := tk }) : wpAny (model prog w) A (unpackItems (.ref l) n (some i)) Q E s := by
  have hlt : l ≠ s.heap.objs.size := by obtain ⟨o, ho, _⟩ := hl; exact Nat.ne_of_lt (Heap.lt_size ho)
  unfold unpackItems
  refine wpAny_bind ?_
  unfold notIterableAtAll
  refine wpAny_bind (wpAny_specialOf hl.typeIs slot_tuple_iter.lookup ?_)
  refine wpAny_pure ?_
  simp only [Bool.false_eq_true, if_false]
  refine wpAny_bind (wpAny_holding (iter_tuple hl ?_))
  refine wpAny_bind (wpAny_holding (draw_tuple hlt i 0 _ _ ⟨_, Heap.get?_push_size _ rfl, rfl, rfl⟩ (hl.push _) (by omega) fun h₁ hit₁ hs₁ => ?_))
  have hl₁ : IsTup h₁ l items := (hl.push _).extBut hs₁.extBut hlt
  rw [Nat.zero_add] at hit₁
  have hit₁' := hit₁
  obtain ⟨oi, hoi, _⟩ := hit₁'
  have hl₁' := hl₁
  obtain ⟨ol, hol, _⟩ := hl₁'
  rw [List.drop_zero]
  have hfl : (items.toList.take i).length = i := by rw [List.length_take, Array.length_toList]; omega
  rw [if_neg (show ¬ ((items.toList.take i).length < i) by rw [hfl]; omega)]
  refine wpAny_bind (wpAny_holding (PySem.W.kun_collect (s := { s with heap := h₁ }) (T := "tuple_iterator") (.inr (.inr (.inr rfl))) (Walks.tuple (A := A.in1) hh s.heap.objs.size l hlt items) (fun j u st => st.1.typeIs) (k := i) (by omega) ⟨hit₁, hl₁⟩ (Heap.lt_size hoi) (Heap.lt_size hol) (fun h₂ tk hk => ?_) (by rw [sizeLine_eq]; omega)))
  have hrl : (items.toList.drop i).length = items.size - i := by rw [List.length_drop, Array.length_toList]
  have hmid : (items.toList.drop i).length - (n - 1 - i) = items.size + 1 - n := by rw [hrl]; omega
  show wpAny _ _ (if (items.toList.drop i).length < n - 1 - i then _ else _) _ _ _
  rw [if_neg (by rw [hrl]; omega)]
  show wpAny _ _ (newList ((items.toList.drop i).take ((items.toList.drop i).length - (n - 1 - i))) >>= fun d => pure (items.toList.take i ++ [d] ++ (items.toList.drop i).drop ((items.toList.drop i).length - (n - 1 - i)))) _ _ _
  rw [hmid]
  have he : Heap.ExtBut s.heap.objs.size s.heap h₂ := fun b o hb e => hk b o hb (hs₁.extBut b o hb (Heap.get?_push_of_some _ e))
  refine wpAny_bind (wpAny_newObj_type (wpAny_pure ?_) ?_)
  · exact h h₂ tk fun b o e => he b o (Nat.ne_of_lt (Heap.lt_size e)) e
  · have h0 : ((items.toList.drop i).take (items.size + 1 - n)).length ≤ 16384 := by rw [List.length_take, hrl]; omega
    have h1 : ((items.toList.drop i).take (items.size + 1 - n)).toArray.size ≤ sizeLine := by rw [List.size_toArray, sizeLine_eq]; omega
    first
      | exact decide_eq_true h1
      | (simp [sizeOk, sizeLine_eq]; omega)
theorem star_list {l : Addr} {items : Array Value} {n i : Nat} {Q : List Value → Shared → Prop} (hl : s.heap.IsList l items) (hh : A.handled = none) (hi : i < n) (hn : n ≤ items.size + 1) (hz : items.size ≤ 16384)
    (h : ∀ (h₂ : Heap) (tk : Nat), (∀ b o, s.heap.get? b = some o → h₂.get? b = some o) →
      Q (items.toList.take i ++ [.ref h₂.objs.size] ++ (items.toList.drop i).drop (items.size + 1 - n)) { s with heap := h₂.push { cls := .type "list", data := .seq ((items.toList.drop i).take (items.size + 1 - n)).toArray }, toks := tk }) : wpAny (model prog w) A (unpackItems (.ref l) n (some i)) Q E s := by
  have hlt : l ≠ s.heap.objs.size := by obtain ⟨o, ho, _⟩ := hl; exact Nat.ne_of_lt (Heap.lt_size ho)
  unfold unpackItems
  refine wpAny_bind ?_
  unfold notIterableAtAll
  refine wpAny_bind (wpAny_specialOf hl.typeIs slot_list_iter.lookup ?_)
  refine wpAny_pure ?_
  simp only [Bool.false_eq_true, if_false]
  refine wpAny_bind (wpAny_holding (wpAny_pyIter_list hl ?_))
  refine wpAny_bind (wpAny_holding (PySem.W.kun_draw hlt i 0 _ _ ⟨_, Heap.get?_push_size _ rfl, rfl, rfl⟩ (hl.push _) (by omega) fun h₁ hit₁ hs₁ => ?_))
  have hl₁ : h₁.IsList l items := (hl.push _).extBut hs₁.extBut hlt
  rw [Nat.zero_add] at hit₁
  have hit₁' := hit₁
  obtain ⟨oi, hoi, _⟩ := hit₁'
  have hl₁' := hl₁
  obtain ⟨ol, hol, _⟩ := hl₁'
  rw [List.drop_zero]
  have hfl : (items.toList.take i).length = i := by rw [List.length_take, Array.length_toList]; omega
  rw [if_neg (show ¬ ((items.toList.take i).length < i) by rw [hfl]; omega)]
  refine wpAny_bind (wpAny_holding (PySem.W.kun_collect (s := { s with heap := h₁ }) (T := "list_iterator") (.inr (.inr (.inl rfl))) (Walks.list (A := A.in1) hh s.heap.objs.size l hlt items) (fun j u st => st.1.typeIs) (k := i) (by omega) ⟨hit₁, hl₁⟩ (Heap.lt_size hoi) (Heap.lt_size hol) (fun h₂ tk hk => ?_) (by rw [sizeLine_eq]; omega)))
  have hrl : (items.toList.drop i).length = items.size - i := by rw [List.length_drop, Array.length_toList]
  have hmid : (items.toList.drop i).length - (n - 1 - i) = items.size + 1 - n := by rw [hrl]; omega
  show wpAny _ _ (if (items.toList.drop i).length < n - 1 - i then _ else _) _ _ _
  rw [if_neg (by rw [hrl]; omega)]
  show wpAny _ _ (newList ((items.toList.drop i).take ((items.toList.drop i).length - (n - 1 - i))) >>= fun d => pure (items.toList.take i ++ [d] ++ (items.toList.drop i).drop ((items.toList.drop i).length - (n - 1 - i)))) _ _ _
  rw [hmid]
  have he : Heap.ExtBut s.heap.objs.size s.heap h₂ := fun b o hb e => hk b o hb (hs₁.extBut b o hb (Heap.get?_push_of_some _ e))
  refine wpAny_bind (wpAny_newObj_type (wpAny_pure ?_) ?_)
  · exact h h₂ tk fun b o e => he b o (Nat.ne_of_lt (Heap.lt_size e)) e
  · have h0 : ((items.toList.drop i).take (items.size + 1 - n)).length ≤ 16384 := by rw [List.length_take, hrl]; omega
    have h1 : ((items.toList.drop i).take (items.size + 1 - n)).toArray.size ≤ sizeLine := by rw [List.size_toArray, sizeLine_eq]; omega
    first
      | exact decide_eq_true h1
      | (simp [sizeOk, sizeLine_eq]; omega)
end
/-- (a, .., *b, .., c) = a tuple or a list: the starred one stands at i, n targets -/
def gStar (K : PySem.W.Frag) (n i : Nat) (t : TGs) : TG := fun v σ H Q => ∃ a xs, v = .ref a ∧ (SqT K H a xs ∨ SqL K H a xs) ∧ n ≤ xs.length + 1 ∧ xs.length ≤ 16384 ∧
  ∀ D, H D = none → t (xs.take i ++ [.ref D] ++ (xs.drop i).drop (xs.length + 1 - n)) σ (upd H D (.lst ((xs.drop i).take (xs.length + 1 - n)))) Q
theorem pg_star {X : Cx} {es es' : List Expr} {k : Nat} {pos : Pos} {t : TGs} {n i : Nat} (hc : X.calm = true) (h : PGs X es' t) (hn : (assignEach es X.env).length = n := by rfl) (hst : (assignEach es X.env).findIdx? (·.1) = some i := by rfl)
    (he : (assignEach es X.env).map (·.2) = (assignEach es' X.env).map (·.2) := by rfl) (hi : i < n := by decide) : PG X (.Tuple es k pos) (gStar X.K n i t) := by
  refine ⟨fun pins s σ H v u Q I r hw => ?_⟩
  obtain ⟨a, xs, e1, hq, hl, hz, hw⟩ := hw
  subst e1
  cases r
  rw [assign_Tuple]
  refine wpAny_bind (wpAny_standAt ?_)
  unfold unpack
  rw [hn, hst, he]
  have go : ∀ its : List Value, Vals xs its → (∀ {Q' : List Value → Shared → Prop} {E' : Value → Shared → Prop}, (∀ (h₂ : Heap) (tk : Nat), (∀ b o, s.heap.get? b = some o → h₂.get? b = some o) →
      Q' (its.toArray.toList.take i ++ [.ref h₂.objs.size] ++ (its.toArray.toList.drop i).drop (its.toArray.size + 1 - n)) { s with heap := h₂.push { cls := .type "list", data := .seq ((its.toArray.toList.drop i).take (its.toArray.size + 1 - n)).toArray }, toks := tk }) → wpAny (model X.prog X.w) X.A (unpackItems (.ref a) n (some i)) Q' E' s) →
      wpAny (model X.prog X.w) X.A (do assignInOrder ((assignEach es' X.env).map (·.2)) (← holding [.ref a] (unpackItems (.ref a) n (some i)))) (fun _ s' => ∃ σ' H', Inv X pins σ' H' s' ∧ Q σ' H') X.xe s := by
    intro its rv run
    have el : its.length = xs.length := rv.length.symm
    refine wpAny_bind (wpAny_holding (run fun h₂ tk k => ?_))
    have I1 : Inv X pins σ H { s with heap := h₂, toks := tk } := I.kept k
    have hD : H h₂.objs.size = none := I1.hok.fresh (Nat.le_refl _)
    have rm : Vals ((xs.drop i).take (xs.length + 1 - n)) ((its.drop i).take (its.length + 1 - n)) := by
      rw [el]
      exact (rv.drop i).take _
    have I2 := I1.lnew (t' := tk) rm (by rw [List.length_take, List.length_drop, sizeLine_eq]; omega)
    have r2 : Vals (xs.take i ++ [.ref h₂.objs.size] ++ (xs.drop i).drop (xs.length + 1 - n)) (its.take i ++ [.ref h₂.objs.size] ++ (its.drop i).drop (its.length + 1 - n)) := by
      rw [el]
      exact ((rv.take i).append (.cons (show RelV (V.ref h₂.objs.size) (Value.ref h₂.objs.size) from rfl) .nil)).append ((rv.drop i).drop _)
    exact h.run pins _ σ _ _ _ Q I2 r2 (hw _ hD)
  rcases hq with hq | hq
  · obtain ⟨its, rv, ht, _⟩ := I.tuple hq
    have el : its.length = xs.length := rv.length.symm
    exact go its rv fun {Q' E'} hh => star_tup ht (I.ok.hd hc) hi (by rw [List.size_toArray]; omega) (by rw [List.size_toArray]; omega) hh
  · obtain ⟨its, rv, ht, _⟩ := I.list hq
    have el : its.length = xs.length := rv.length.symm
    exact go its rv fun {Q' E'} hh => star_list ht.isList (I.ok.hd hc) hi (by rw [List.size_toArray]; omega) (by rw [List.size_toArray]; omega) hh
end Z

/-! L5: membership at any depth, dicts in the wide rules, conversions, methods of lists and dicts -/
namespace Z
open PySem PySem.Spec PyProof.Rows L2 Evl
def vOf : Value → V
  | .none => .non
  | .bool b => .bl b
  | .int i _ => .int i
  | .str x _ => .str x
  | .bytes b _ => .byt b
  | .float b _ => .flt b
  | .ref a => .ref a
  | .type n => .ty n
  | _ => .non
theorem vOf_rel {y : V} {u : Value} (r : RelV y u) : vOf u = y := by
  cases y with
  | int i => obtain ⟨t, rfl⟩ := r; rfl
  | str i => obtain ⟨t, rfl⟩ := r; rfl
  | byt i => obtain ⟨t, rfl⟩ := r; rfl
  | flt i => obtain ⟨t, rfl⟩ := r; rfl
  | _ => cases r; rfl
/-- x in a list or tuple: g tells which items it equals -/
def rInG (K : PySem.W.Frag) (neg : Bool) : R2 := fun x y H Q => ∃ (p : Addr) (xs : List V) (g : V → Bool), y = .ref p ∧ (SqL K H p xs ∨ SqT K H p xs) ∧ (∀ z ∈ xs, EqI K H 60 z x (g z)) ∧ Q (.bl (if neg then !xs.any g else xs.any g)) H
theorem any_vOf (g : V → Bool) : ∀ {xs : List V} {us : List Value}, Vals xs us → us.any (fun u => g (vOf u)) = xs.any g
  | _, _, .nil => rfl
  | _, _, .cons r t => by rw [List.any_cons, List.any_cons, vOf_rel r, any_vOf g t]
theorem mem_vOf {A : Around} {s : Shared} {x : V} {v : Value} {g : V → Bool} : ∀ {xs : List V} {us : List Value}, Vals xs us → (∀ z ∈ xs, ∀ u, RelV z u → SeqAt.EqAt A s u v (g z)) → ∀ u ∈ us, SeqAt.EqAt A s u v (g (vOf u))
  | _, _, .nil, _ => fun u hu => by cases hu
  | z :: xs, u :: us, .cons r t, h => fun w hw => by
    rcases List.mem_cons.mp hw with rfl | hw
    · rw [vOf_rel r]; exact h z (List.mem_cons_self ..) _ r
    · exact mem_vOf (x := x) t (fun z hz => h z (List.mem_cons_of_mem _ hz)) w hw
section
variable {X : Cx}
theorem op_inG (hu : X.A.units + 64 < cLine) : OpR X (compareOp .In) (rInG X.K false) := by
  intro pins s σ H x y v u Q I rx ry h
  obtain ⟨p, xs, g, rfl, hq, he, q⟩ := h
  cases ry
  have run : ∀ z ∈ xs, ∀ w, RelV z w → SeqAt.EqAt X.A.in1 s w v (g z) := fun z hz w rw' => EqI.run I (A := X.A.in1) (by show X.A.units + 1 + 60 < cLine; omega) (he z hz) rw' rx
  rcases hq with hq | hq
  · obtain ⟨its, r, pl, hz⟩ := I.list hq
    refine SeqAt.in_listAt (fun u => g (vOf u)) pl.isList (fun w hw => mem_vOf (x := x) r run w (by simpa using hw)) ⟨.bl _, H, I, rfl, ?_⟩
    rw [show its.toArray.any (fun u => g (vOf u)) = its.any (fun u => g (vOf u)) by simp, any_vOf g r]
    exact q
  · obtain ⟨its, r, pl, hz⟩ := I.tuple hq
    refine SeqAt.in_tupleAt (fun u => g (vOf u)) pl (fun w hw => mem_vOf (x := x) r run w (by simpa using hw)) ⟨.bl _, H, I, rfl, ?_⟩
    rw [show its.toArray.any (fun u => g (vOf u)) = its.any (fun u => g (vOf u)) by simp, any_vOf g r]
    exact q
theorem op_ninG (hu : X.A.units + 64 < cLine) : OpR X (compareOp .NotIn) (rInG X.K true) := by
  intro pins s σ H x y v u Q I rx ry h
  obtain ⟨p, xs, g, rfl, hq, he, q⟩ := h
  cases ry
  have run : ∀ z ∈ xs, ∀ w, RelV z w → SeqAt.EqAt X.A.in1 s w v (g z) := fun z hz w rw' => EqI.run I (A := X.A.in1) (by show X.A.units + 1 + 60 < cLine; omega) (he z hz) rw' rx
  rcases hq with hq | hq
  · obtain ⟨its, r, pl, hz⟩ := I.list hq
    refine SeqAt.notIn_listAt (fun u => g (vOf u)) pl.isList (fun w hw => mem_vOf (x := x) r run w (by simpa using hw)) ⟨.bl _, H, I, rfl, ?_⟩
    rw [show its.toArray.any (fun u => g (vOf u)) = its.any (fun u => g (vOf u)) by simp, any_vOf g r]
    exact q
  · obtain ⟨its, r, pl, hz⟩ := I.tuple hq
    refine SeqAt.notIn_tupleAt (fun u => g (vOf u)) pl (fun w hw => mem_vOf (x := x) r run w (by simpa using hw)) ⟨.bl _, H, I, rfl, ?_⟩
    rw [show its.toArray.any (fun u => g (vOf u)) = its.any (fun u => g (vOf u)) by simp, any_vOf g r]
    exact q
def rInDc : R2 := fun x y H Q => ∃ a o, y = .ref a ∧ DGet H a x o ∧ Q (.bl o.isSome) H
def rNinDc : R2 := fun x y H Q => ∃ a o, y = .ref a ∧ DGet H a x o ∧ Q (.bl (!o.isSome)) H
theorem op_inDc (hu : X.A.units + 64 < cLine) : OpR X (compareOp .In) rInDc := by
  intro pins s σ H x y v u Q I rx ry h
  obtain ⟨a, o, rfl, g, q⟩ := h
  cases ry
  exact d_in (by omega) I g rx fun s3 I3 => ⟨.bl o.isSome, H, I3, rfl, q⟩
theorem op_ninDc (hu : X.A.units + 64 < cLine) : OpR X (compareOp .NotIn) rNinDc := by
  intro pins s σ H x y v u Q I rx ry h
  obtain ⟨a, o, rfl, g, q⟩ := h
  cases ry
  exact d_notIn (by omega) I g rx fun s3 I3 => ⟨.bl (!o.isSome), H, I3, rfl, q⟩
def rInB (K : PySem.W.Frag) : R2 := fun x y H Q => rInA K x y H Q ∨ rInG K false x y H Q ∨ rInDc x y H Q
def rNinB (K : PySem.W.Frag) : R2 := fun x y H Q => rNinA K x y H Q ∨ rInG K true x y H Q ∨ rNinDc x y H Q
theorem op_inB (hu : X.A.units + 64 < cLine) : OpR X (compareOp .In) (rInB X.K) := op_inA.or ((op_inG hu).or (op_inDc hu))
theorem op_ninB (hu : X.A.units + 64 < cLine) : OpR X (compareOp .NotIn) (rNinB X.K) := op_ninA.or ((op_ninG hu).or (op_ninDc hu))
def rIxDc : R2 := fun x y H Q => ∃ a v, x = .ref a ∧ DGet H a y (some v) ∧ Q v H
theorem ix_Dc (hu : X.A.units + 64 < cLine) : IxR X rIxDc := by
  intro value slice pins s σ H x y v u Q I rx ry h hs
  obtain ⟨a, r, rfl, g, q⟩ := h
  obtain rfl : v = Value.ref a := rx
  exact tail_any (dict_typeIs I g) PySem.F.slot_dict_getitem.lookup (d_getItem (by omega) I g ry fun w' s3 I3 rw' => ⟨r, H, I3, rw', q⟩) hs
def rIxB (K : PySem.W.Frag) : R2 := fun x y H Q => rIx K x y H Q ∨ rIxDc x y H Q
theorem ix_B (hu : X.A.units + 64 < cLine) : IxR X (rIxB X.K) := ix_seq.or (ix_Dc hu)
def rSetB : TSet := fun o i v H Q => rSetL o i v H Q ∨ rSetD o i v H Q
theorem set_B (hu : X.A.units + 64 < cLine) : PSet X rSetB := by
  intro pins s σ H o i v ov iv u Q I ro ri rv h
  rcases h with h | h
  · exact set_list pins s σ H o i v ov iv u Q I ro ri rv h
  · exact set_dict (by omega) pins s σ H o i v ov iv u Q I ro ri rv h
/-! conversions -/
def rListA (K : PySem.W.Frag) : List V → Hp → VK → Prop := fun xs H Q => ∃ p ys, xs = [.ref p] ∧ (SqL K H p ys ∨ SqT K H p ys) ∧ ∀ l, H l = none → Q (.ref l) (upd H l (.lst ys))
theorem call_listA : CallR X (.type "list") (rListA X.K) := call_list_of
def rTupA (K : PySem.W.Frag) : List V → Hp → VK → Prop := fun xs H Q => ∃ p ys, xs = [.ref p] ∧ ((SqL K H p ys ∧ ∀ l, H l = none → Q (.ref l) (upd H l (.tup ys))) ∨ (SqT K H p ys ∧ Q (.ref p) H))
theorem call_tupA : CallR X (.type "tuple") (rTupA X.K) := call_tuple_of
def rIntA : List V → Hp → VK → Prop := fun xs H Q => (∃ i, xs = [.int i] ∧ Q (.int i) H) ∨ ∃ k, xs = [.bl k] ∧ Q (.int (if k then 1 else 0)) H
theorem call_intA : CallR X (.type "int") rIntA := call_int1
def rStrA : List V → Hp → VK → Prop := fun xs H Q => (∃ i, xs = [.int i] ∧ i.natAbs.log2 < 1920 ∧ Q (.str (toString i)) H) ∨ ∃ a, xs = [.str a] ∧ Q (.str a) H
theorem call_strA : CallR X (.type "str") rStrA := call_str_int.or SkE.call_str_str
/-! methods -/
def rPopA : V → List V → Hp → VK → Prop := fun x vs H Q => rPop x vs H Q ∨ rPopAt x vs H Q
theorem mt_popA : MtR X "list.pop" rPopA := MtR.or mt_pop mt_popAt
def rInsert : V → List V → Hp → VK → Prop := fun x vs H Q => ∃ (l : Addr) (xs : List V) (i : Int) (y : V), x = .ref l ∧ vs = [.int i, y] ∧ H l = some (.lst xs) ∧ xs.length < sizeLine ∧ 0 ≤ i ∧ i < 2 ^ 63 ∧
    Q .non (upd H l (.lst (xs.take i.toNat ++ [y] ++ xs.drop i.toNat)))
theorem mt_insertA : MtR X "list.insert" rInsert := mt_insert
def rDGet : V → List V → Hp → VK → Prop := fun x vs H Q => ∃ a, x = .ref a ∧ ((∃ y o, vs = [y] ∧ DGet H a y o ∧ Q (o.getD .non) H) ∨ ∃ y z o, vs = [y, z] ∧ DGet H a y o ∧ Q (o.getD z) H)
theorem mt_dget (hu : X.A.units + 64 < cLine) : MtR X "dict.get" rDGet := by
  intro pins s σ H x xs v us Q I rx rxs h
  obtain ⟨a, rfl, h | h⟩ := h
  · obtain ⟨y, o, rfl, g, q⟩ := h
    cases rx
    obtain ⟨u, rfl, ru⟩ := Vals.one rxs
    exact d_get1 (by omega) I g ru fun w' s3 I3 rw' => ⟨_, H, I3, rw', q⟩
  · obtain ⟨y, z, o, rfl, g, q⟩ := h
    cases rx
    obtain ⟨u1, u2, rfl, r1, r2⟩ := Vals.two rxs
    exact d_get2 (by omega) I g r1 r2 fun w' s3 I3 rw' => ⟨_, H, I3, rw', q⟩
end
/-! steps -/
section
variable {K : PySem.W.Frag} {σ : L2.St} {H : Hp} {Q : VK} {x y v : V}
theorem s_bm {T : String} {r : V → List V → Hp → VK → Prop} {to : TE} {t : TA} (h : to σ H fun x H1 => tyV K T x H1 ∧ t σ H1 fun xs H2 => r x xs H2 Q) : tBM K T r to t σ H Q := h
theorem s_bm0 {T : String} {r : V → List V → Hp → VK → Prop} {to : TE} (h : to σ H fun x H1 => tyV K T x H1 ∧ r x [] H1 Q) : tBM0 K T r to σ H Q := h
theorem s_tyS {z : Str} {A : Prop} (h : A) : tyV K "str" (.str z) H ∧ A := ⟨rfl, h⟩
theorem s_inB {x y : V} (h : rInA K x y H Q) : rInB K x y H Q := .inl h
theorem s_ninB {x y : V} (h : rNinA K x y H Q) : rNinB K x y H Q := .inl h
theorem s_inG {p : Addr} {xs : List V} (g : V → Bool) (h : H p = some (.lst xs) ∨ H p = some (.tup xs)) (e : ∀ z ∈ xs, EqI K H 60 z x (g z)) (q : Q (.bl (xs.any g)) H) : rInB K x (.ref p) H Q :=
  .inr (.inl ⟨p, xs, g, rfl, h.elim (fun h => .inl (SqL.of h)) (fun h => .inr (SqT.of h)), e, q⟩)
theorem s_ninG {p : Addr} {xs : List V} (g : V → Bool) (h : H p = some (.lst xs) ∨ H p = some (.tup xs)) (e : ∀ z ∈ xs, EqI K H 60 z x (g z)) (q : Q (.bl (!xs.any g)) H) : rNinB K x (.ref p) H Q :=
  .inr (.inl ⟨p, xs, g, rfl, h.elim (fun h => .inl (SqL.of h)) (fun h => .inr (SqT.of h)), e, q⟩)
theorem s_inF {p : Addr} {xs : List V} (h : H p = some (.lst xs) ∨ H p = some (.tup xs)) (fx : flatV x = true) (fs : xs.all flatV = true) (q : Q (.bl (inV x xs)) H) : rInB K x (.ref p) H Q :=
  .inl (.inr (.inl ⟨p, xs, rfl, h.elim (fun h => .inl (SqL.of h)) (fun h => .inr (SqT.of h)), fx, fs, q⟩))
theorem s_ninF {p : Addr} {xs : List V} (h : H p = some (.lst xs) ∨ H p = some (.tup xs)) (fx : flatV x = true) (fs : xs.all flatV = true) (q : Q (.bl (!inV x xs)) H) : rNinB K x (.ref p) H Q :=
  .inl (.inr (.inl ⟨p, xs, rfl, h.elim (fun h => .inl (SqL.of h)) (fun h => .inr (SqT.of h)), fx, fs, q⟩))
theorem s_in1B {c : Nat} {z : Str} (q : Q (.bl (decide (c ∈ z.cps.toList))) H) : rInB K (.str ⟨#[c]⟩) (.str z) H Q := .inl (s_in1 q)
theorem s_nin1B {c : Nat} {z : Str} (q : Q (.bl (!decide (c ∈ z.cps.toList))) H) : rNinB K (.str ⟨#[c]⟩) (.str z) H Q := .inl (s_nin1 q)
theorem s_inD {a : Addr} {kvs : List (Key × V)} {k : Key} (h : H a = some (.dK kvs)) (q : Q (.bl (valV kvs k).isSome) H) : rInB K (kV k) (.ref a) H Q := .inr (.inr ⟨a, _, rfl, DGet.k h, q⟩)
theorem s_ixB {x y : V} (h : rIx K x y H Q) : rIxB K x y H Q := .inl h
theorem s_ixD {a : Addr} {kvs : List (Key × V)} {k : Key} (h : H a = some (.dK kvs)) (e : valV kvs k = some v) (q : Q v H) : rIxB K (.ref a) (kV k) H Q := .inr ⟨a, v, rfl, e ▸ DGet.k h, q⟩
theorem s_listA {p : Addr} {xs : List V} (h : H p = some (.lst xs) ∨ H p = some (.tup xs)) (q : ∀ l, H l = none → Q (.ref l) (upd H l (.lst xs))) : rListA K [.ref p] H Q :=
  ⟨p, xs, rfl, h.elim (fun h => .inl (SqL.of h)) (fun h => .inr (SqT.of h)), q⟩
theorem s_tupL {p : Addr} {xs : List V} (h : H p = some (.lst xs)) (q : ∀ l, H l = none → Q (.ref l) (upd H l (.tup xs))) : rTupA K [.ref p] H Q := ⟨p, xs, rfl, .inl ⟨SqL.of h, q⟩⟩
theorem s_tupT {p : Addr} {xs : List V} (h : H p = some (.tup xs)) (q : Q (.ref p) H) : rTupA K [.ref p] H Q := ⟨p, xs, rfl, .inr ⟨SqT.of h, q⟩⟩
theorem s_intI {i : Int} (q : Q (.int i) H) : rIntA [.int i] H Q := .inl ⟨i, rfl, q⟩
theorem s_intB {b : Bool} (q : Q (.int (if b then 1 else 0)) H) : rIntA [.bl b] H Q := .inr ⟨b, rfl, q⟩
theorem s_strI {i : Int} (h : i.natAbs.log2 < 1920) (q : Q (.str (toString i)) H) : rStrA [.int i] H Q := .inl ⟨i, rfl, h, q⟩
theorem s_strS {z : Str} (q : Q (.str z) H) : rStrA [.str z] H Q := .inr ⟨z, rfl, q⟩
theorem s_tyL {p : Addr} {xs : List V} {A : Prop} (h : H p = some (.lst xs)) (q : A) : tyV K "list" (.ref p) H ∧ A := ⟨.inl ⟨rfl, xs, SqL.of h⟩, q⟩
theorem s_tyD {p : Addr} {kvs : List (Key × V)} {A : Prop} (h : H p = some (.dK kvs)) (q : A) : tyV K "dict" (.ref p) H ∧ A := ⟨.inr (.inr (.inl ⟨rfl, .inl ⟨kvs, h⟩⟩)), q⟩
theorem s_append {l : Addr} {xs : List V} (h : H l = some (.lst xs)) (hz : xs.length < sizeLine) (q : Q .non (upd H l (.lst (xs ++ [y])))) : rAppend (.ref l) [y] H Q := ⟨l, xs, y, rfl, rfl, h, hz, q⟩
theorem s_insert {l : Addr} {xs : List V} {i : Int} (h : H l = some (.lst xs)) (hz : xs.length < sizeLine) (h0 : 0 ≤ i) (h1 : i < 2 ^ 63) (q : Q .non (upd H l (.lst (xs.take i.toNat ++ [y] ++ xs.drop i.toNat)))) : rInsert (.ref l) [.int i, y] H Q :=
  ⟨l, xs, i, y, rfl, rfl, h, hz, h0, h1, q⟩
theorem s_popAt {l : Addr} {xs : List V} {i : Int} (h : H l = some (.lst xs)) (h0 : 0 ≤ i) (h1 : i < xs.length) (hz : xs.length ≤ 1000000) (q : ∀ y, y ∈ xs → xs[i.toNat]? = some y → Q y (upd H l (.lst (xs.eraseIdx i.toNat)))) : rPopA (.ref l) [.int i] H Q := by
  have hj : i.toNat < xs.length := by omega
  refine .inr ⟨l, xs, i, i.toNat, xs[i.toNat], rfl, rfl, h, by omega, by omega, ?_, by simp [hj], q _ (List.getElem_mem hj) (by simp [hj])⟩
  unfold seqIndex?
  first
    | (simp; omega)
    | (rw [if_neg (by omega)]; simp; omega)
theorem s_dget2 {a : Addr} {kvs : List (Key × V)} {k : Key} {z : V} (h : H a = some (.dK kvs)) (q : Q ((valV kvs k).getD z) H) : rDGet (.ref a) [kV k, z] H Q := ⟨a, rfl, .inr ⟨_, z, _, rfl, DGet.k h, q⟩⟩
theorem s_setBL {p : Addr} {k : Int} {xs : List V} {j : Nat} {R : Hp → Prop} (h : H p = some (.lst xs)) (hj : ixN xs.length k = some j) (q : R (upd H p (.lst (xs.set j v)))) : rSetB (.ref p) (.int k) v H R := .inl (s_setL h hj q)
theorem s_setBD {p : Addr} {kvs : List (Key × V)} {k : Key} {R : Hp → Prop} (h : H p = some (.dK kvs)) (hl : kvs.length < sizeLine) (q : R (upd H p (.dK (putK kvs k v)))) : rSetB (.ref p) (kV k) v H R := .inr ⟨p, _, rfl, .inl ⟨kvs, k, h, rfl, hl, rfl⟩, q⟩
theorem s_gStar {n i : Nat} {gs : TGs} {a : Addr} {xs : List V} {R : L2.St → Hp → Prop} (h : H a = some (.tup xs) ∨ H a = some (.lst xs)) (hn : n ≤ xs.length + 1) (hz : xs.length ≤ 16384)
    (q : ∀ D, H D = none → gs (xs.take i ++ [.ref D] ++ (xs.drop i).drop (xs.length + 1 - n)) σ (upd H D (.lst ((xs.drop i).take (xs.length + 1 - n)))) R) : gStar K n i gs (.ref a) σ H R :=
  ⟨a, xs, rfl, h.elim (fun h => .inl (SqT.of h)) (fun h => .inr (SqL.of h)), hn, hz, q⟩
theorem s_orT {ta tb : TE} (h : ta σ H fun x H1 => ∃ k, TruV K x H1 k ∧ if k = true then Q x H1 else tb σ H1 Q) : tOrT K ta tb σ H Q := h
theorem tru_tup {p : Addr} {xs : List V} (h : H p = some (.tup xs)) : TruV K (.ref p) H (!xs.isEmpty) := .inr (.inl ⟨xs, SqT.of h, rfl⟩)
theorem tru_lst {p : Addr} {xs : List V} (h : H p = some (.lst xs)) : TruV K (.ref p) H (!xs.isEmpty) := .inl ⟨xs, SqL.of h, rfl⟩
end
end Z
namespace Z
open PySem PySem.Spec PyProof.Rows L2 Evl
section
variable {K : PySem.W.Frag} {H : Hp} {Q : VK}
theorem cutV_take (xs : List V) {m : Int} (h : 0 ≤ m) : cutV xs none (some m) = xs.take m.toNat := by
  have e1 : HT.sIx xs.length 0 none = 0 := rfl
  have e2 : HT.sIx xs.length xs.length (some m) = min m.toNat xs.length := by
    unfold HT.sIx
    show (if m < 0 then _ else _) = _
    rw [if_neg (by omega)]
  unfold cutV
  rw [e1, e2, List.drop_zero, Nat.sub_zero]
  rcases Nat.le_total m.toNat xs.length with q | q
  · rw [Nat.min_eq_left q]
  · rw [Nat.min_eq_right q, List.take_length, List.take_of_length_le q]
theorem cutV_drop (xs : List V) {m : Int} (h : 0 ≤ m) : cutV xs (some m) none = xs.drop m.toNat := by
  have e1 : HT.sIx xs.length xs.length none = xs.length := rfl
  have e2 : HT.sIx xs.length 0 (some m) = min m.toNat xs.length := by
    unfold HT.sIx
    show (if m < 0 then _ else _) = _
    rw [if_neg (by omega)]
  unfold cutV
  rw [e1, e2]
  rcases Nat.le_total m.toNat xs.length with q | q
  · rw [Nat.min_eq_left q, List.take_of_length_le (by rw [List.length_drop]; omega)]
  · rw [Nat.min_eq_right q, List.drop_length, List.drop_of_length_le q]
    simp
theorem s_slL {a : Addr} {xs : List V} {lo hi : Option Int} (h : H a = some (.lst xs)) (q : ∀ p, H p = none → Q (.ref p) (upd H p (.lst (cutV xs lo hi)))) : Z.rSlA K (.ref a) lo hi H Q := .inr (.inl ⟨a, xs, rfl, SqL.of h, q⟩)
theorem s_slT {a : Addr} {xs : List V} {lo hi : Option Int} (h : H a = some (.tup xs)) (q0 : HT.sIx xs.length 0 lo = 0 ∧ HT.sIx xs.length xs.length hi = xs.length → Q (.ref a) H)
    (q : ¬ (HT.sIx xs.length 0 lo = 0 ∧ HT.sIx xs.length xs.length hi = xs.length) → ∀ p, H p = none → Q (.ref p) (upd H p (.tup (cutV xs lo hi)))) : Z.rSlA K (.ref a) lo hi H Q := .inr (.inr ⟨a, xs, rfl, SqT.of h, q0, q⟩)
end
end Z
namespace Z
open PySem PySem.Spec PyProof.Rows L2 Evl
theorem s_par3 {i j l : Nat} {t : TA} {D : Ends} {σ : L2.St} {H : Hp} (h : t σ H fun vs H1 => ∃ u v w, vs = [u, v, w] ∧ D.nx (((σ.set i (some u)).set j (some v)).set l (some w)) H1) : tPar3 i j l t D σ H := h
end Z
namespace Z
open PySem PySem.Spec PyProof.Rows L2 Evl
/-! dicts of the module, keys texts -/
def rIxK (K : PySem.W.Frag) (d : Addr) : R2 := fun x y H Q => ∃ (z : Str) (u0 : Value) (v0 : V), x = .ref d ∧ y = .str z ∧ PySem.W.nsIn K d z = some (some u0) ∧ RelV v0 u0 ∧ Q v0 H
def rInK (K : PySem.W.Frag) (d : Addr) : R2 := fun x y H Q => ∃ (z : Str) (r : Option Value), x = .str z ∧ y = .ref d ∧ PySem.W.nsIn K d z = some r ∧ Q (.bl r.isSome) H
def rNinK (K : PySem.W.Frag) (d : Addr) : R2 := fun x y H Q => ∃ (z : Str) (r : Option Value), x = .str z ∧ y = .ref d ∧ PySem.W.nsIn K d z = some r ∧ Q (.bl (!r.isSome)) H
section
variable {X : Cx} {d : Addr}
theorem ix_K (D : ∃ es n, KDict X.K X.w d es n) : IxR X (rIxK X.K d) := by
  obtain ⟨es, n, D⟩ := D
  intro value slice pins s σ H x y v u Q I rx ry h hs
  obtain ⟨z, u0, v0, rfl, rfl, e, r, q⟩ := h
  have rr := rx
  cases rx
  exact tail_any (kd_type D I) PySem.F.slot_dict_getitem.lookup (op_item_kd D pins s σ H _ _ _ u Q I rr ry ⟨z, u0, v0, rfl, rfl, e, r, q⟩) hs
theorem op_inK (D : ∃ es n, KDict X.K X.w d es n) : OpR X (compareOp .In) (rInK X.K d) := by
  obtain ⟨es, n, D⟩ := D
  exact op_in_kd D
theorem op_ninK (D : ∃ es n, KDict X.K X.w d es n) : OpR X (compareOp .NotIn) (rNinK X.K d) := by
  obtain ⟨es, n, D⟩ := D
  exact op_notIn_kd D
end
end Z

/-! L6: methods and len of dicts that may be locked -/
namespace Z
open PySem PySem.Spec PyProof.Rows L2 Evl
def tyW (K : PySem.W.Frag) (T : String) (x : V) (H : Hp) : Prop := tyV K T x H ∨ ∃ p kvs, T = "dict" ∧ x = .ref p ∧ Rd H p (.dK kvs)
theorem tyW_is {X : Cx} {pins : List (Addr × Obj)} {σ : L2.St} {H : Hp} {s : Shared} {T : String} {x : V} {v : Value} (I : Inv X pins σ H s) (r : RelV x v) (ty : tyW X.K T x H) :
    s.TypeIs v T ∧ ∀ a, v = .ref a → ∃ ob, s.heap.get? a = some ob ∧ ob.dict = none := by
  rcases ty with ty | ⟨p, kvs, rfl, rfl, h⟩
  · exact tyV_is I r ty
  · cases r
    obtain ⟨_, _, vs, _, dd⟩ := dk_rd I.hok h
    refine ⟨dd.typeIs, fun a e => ?_⟩
    cases e
    obtain ⟨ob, _, _, h1, h2, _⟩ := dd
    exact ⟨ob, h1, h2.2.1⟩
def tBM0W (K : PySem.W.Frag) (T : String) (r : V → List V → Hp → VK → Prop) (to : TE) : TE := fun σ H Q => to σ H fun x H1 => tyW K T x H1 ∧ r x [] H1 Q
def tBMW (K : PySem.W.Frag) (T : String) (r : V → List V → Hp → VK → Prop) (to : TE) (t : TA) : TE := fun σ H Q => to σ H fun x H1 => tyW K T x H1 ∧ t σ H1 fun xs H2 => r x xs H2 Q
section
variable {X : Cx} {o e : Expr} {es : List Expr} {to : TE} {t : TA} {name : Str} {apos cpos : Pos} {T id : String} {r : V → List V → Hp → VK → Prop}
theorem pe_bm0W (pa : PlainAttrs T) (slot : Slot T name id) (hty : typeOf (.builtin id) = pure (.type "method_descriptor")) (hm : MtR X id r) (ho : PE X o to)
    (hbase : attributeBase o name X.env (eval o X.env) = eval o X.env := by rfl) (hline : (apos.endLine == cpos.line) = true := by rfl) : PE X (.Call (.Attribute o name apos) [] [] cpos) (tBM0W X.K T r to) := by
  refine ⟨fun pins s σ H Q I h => ?_⟩
  refine wpAny_Call_method0_late hbase hline (thn (ho.run pins s σ H _ I h) fun v s1 ⟨x, H1, I1, r1, ty, q1⟩ => ?_)
  obtain ⟨h1, h2⟩ := tyW_is I1 r1 ty
  exact ⟨T, id, pa, slot, hty, h1, h2, Calls.callWith_builtin rfl (PySem.evalArgs_none (hm pins s1 σ H1 x [] v [] Q I1 r1 .nil q1))⟩
theorem pe_bmW (pa : PlainAttrs T) (slot : Slot T name id) (hty : typeOf (.builtin id) = pure (.type "method_descriptor")) (hm : MtR X id r) (ho : PE X o to) (ha : PA X (e :: es) t)
    (hbase : attributeBase o name X.env (eval o X.env) = eval o X.env := by rfl)
    (hfew : ((backTo cpos (starEach (e :: es) X.env)).all (fun x => !x.1) && (backToKw cpos (keywordEach [] X.env)).all (fun x => x.1.isSome)
      && decide ((e :: es).length + ([] : List Keyword).length + (if ([] : List Keyword).isEmpty then 0 else 1) < 30)) = true := by rfl)
    (hline : (apos.endLine == cpos.line) = true := by rfl) (hs : starEach (e :: es) X.env = (false, eval e X.env) :: starEach es X.env := by rfl) (hplain : (backTo cpos (starEach es X.env)).any (·.1) = false := by rfl) :
    PE X (.Call (.Attribute o name apos) (e :: es) [] cpos) (tBMW X.K T r to t) := by
  refine ⟨fun pins s σ H Q I h => ?_⟩
  refine wpAny_Call_method_late hbase hfew hline rfl (thn (ho.run pins s σ H _ I h) fun v s1 ⟨x, H1, I1, r1, ty, q1⟩ => ?_)
  obtain ⟨h1, h2⟩ := tyW_is I1 r1 ty
  refine ⟨T, id, pa, slot, hty, h1, h2, ?_⟩
  have hA := ha.run cpos pins s1 σ H1 _ I1 q1
  rw [hs] at hA ⊢
  refine Calls.callWith_builtin (by show (false || (backTo cpos (starEach es X.env)).any (·.1)) = false; rw [hplain] <;> rfl) (Calls.evalArgs_plain ?_)
  exact thn hA fun us s2 ⟨vs, H2, I2, r2, q2⟩ => hm pins s2 σ H2 x vs v us Q I2 r1 r2 q2
def rLenB (K : PySem.W.Frag) : List V → Hp → VK → Prop := fun xs H Q => rLenA K xs H Q ∨ ∃ a kvs, xs = [V.ref a] ∧ Rd H a (.dK kvs) ∧ Q (.int kvs.length) H
theorem call_lenDR : CallR X (.builtin "len") (fun xs H Q => ∃ a kvs, xs = [V.ref a] ∧ Rd H a (.dK kvs) ∧ Q (.int kvs.length) H) := by
  intro pins s σ H xs us Q I r h
  obtain ⟨a, kvs, rfl, ha, q⟩ := h
  obtain ⟨u, rfl, ru⟩ := vals1 r
  cases ru
  exact d_len I ha fun t s' I' => ⟨.int kvs.length, H, I', ⟨t, rfl⟩, q⟩
theorem call_lenB : CallR X (.builtin "len") (rLenB X.K) := call_lenA.or call_lenDR
end
end Z

namespace Z
open PySem PySem.Spec PyProof.Rows L2 Evl
/-- what a for walks: a list, a tuple, a text, told behind the expression -/
def iSeq (K : PySem.W.Frag) (te : TE) : TI := fun σ H R => te σ H fun x H1 => (∃ a, x = .ref a ∧ (∃ xs, SqL K H1 a xs) ∧ R (Itl K a) H1) ∨ (∃ a, x = .ref a ∧ (∃ xs, SqT K H1 a xs) ∧ R (Itt K a) H1) ∨ ∃ z, x = .str z ∧ R (Its z) H1
theorem pi_seq {X : Cx} {tg l : Expr} {tl : TE} (hl : PE X l tl) : PI X tg l (iSeq X.K tl) := by
  refine ⟨fun pins s σ H R I h => ?_⟩
  refine thn (hl.run pins s σ H _ I h) fun v s1 ⟨x, H1, I1, r1, q1⟩ => ?_
  rcases q1 with ⟨a, e, ⟨xs, hq⟩, q⟩ | ⟨a, e, ⟨xs, hq⟩, q⟩ | ⟨z, e, q⟩
  · subst e
    cases r1
    obtain ⟨its, rv, p, hz⟩ := I1.list hq
    refine wpAny_pyIter_list p.isList ?_
    refine ⟨s1.heap.objs.size, [s1.heap.objs.size], _, _, H1, rfl, I1.kept (t' := s1.toks) fun b o e => Heap.get?_push_of_some _ e, turn_list a _, ⟨_, Heap.get?_push_size _ rfl, rfl, rfl⟩, fun b hb => ?_, q⟩
    have e : b = s1.heap.objs.size := by simpa using hb
    subst e
    exact I1.fpOk (Nat.le_refl _) (I1.hok.fresh (Nat.le_refl _))
  · subst e
    cases r1
    obtain ⟨its, rv, p, hz⟩ := I1.tuple hq
    refine wpAny_pyIter_tuple (show s1.heap.IsTuple a its.toArray from p) ?_
    refine ⟨s1.heap.objs.size, [s1.heap.objs.size], _, _, H1, rfl, I1.kept (t' := s1.toks) fun b o e => Heap.get?_push_of_some _ e, turn_tuple a _, ⟨_, Heap.get?_push_size _ rfl, rfl, rfl⟩, fun b hb => ?_, q⟩
    have e : b = s1.heap.objs.size := by simpa using hb
    subst e
    exact I1.fpOk (Nat.le_refl _) (I1.hok.fresh (Nat.le_refl _))
  · subst e
    obtain ⟨t, rfl⟩ := r1
    cases ha : z.cps.all (· < 128)
    · exact wpAny_pyIter_wide ha (pi_one (tk := s1.toks) I1 _ (turn_str _ z t "str_iterator" (.inr rfl)) ⟨_, Heap.get?_push_size _ rfl, rfl, rfl⟩ q)
    · exact wpAny_pyIter_ascii ha (pi_one (tk := s1.toks) I1 _ (turn_str _ z t "str_ascii_iterator" (.inl rfl)) ⟨_, Heap.get?_push_size _ rfl, rfl, rfl⟩ q)
end Z

/-! L7: list.count, list.index at any depth -/
namespace Z
open PySem PySem.Spec PyProof.Rows L2 Evl
theorem count_vOf (g : V → Bool) : ∀ {xs : List V} {us : List Value}, Vals xs us → us.countP (fun u => g (vOf u)) = xs.countP g
  | _, _, .nil => rfl
  | _, _, .cons r t => by rw [List.countP_cons, List.countP_cons, vOf_rel r, count_vOf g t]
theorem find_vOf (g : V → Bool) : ∀ {xs : List V} {us : List Value}, Vals xs us → us.findIdx? (fun u => g (vOf u)) = xs.findIdx? g
  | _, _, .nil => rfl
  | _, _, .cons r t => by rw [List.findIdx?_cons, List.findIdx?_cons, vOf_rel r, find_vOf g t]
section
variable {X : Cx}
def rCountG (K : PySem.W.Frag) : V → List V → Hp → VK → Prop := fun x xs H Q => ∃ (p : Addr) (ys : List V) (y : V) (g : V → Bool), x = .ref p ∧ xs = [y] ∧ SqL K H p ys ∧ (∀ z ∈ ys, EqI K H 60 z y (g z)) ∧ Q (.int (ys.countP g : Nat)) H
theorem mt_countG (hu : X.A.units + 64 < cLine) : MtR X "list.count" (rCountG X.K) := by
  intro pins s σ H x xs v us Q I rx rxs h
  obtain ⟨p, ys, y, g, rfl, rfl, hs, he, q⟩ := h
  cases rx
  obtain ⟨u, rfl, ru⟩ := rxs.one
  obtain ⟨its, rv, ⟨⟨cls, dd, data, sl⟩, n, ho, hc, hdn, hd⟩, hlen⟩ := I.list hs
  simp only at hc hd
  subst hc hd
  refine call_meets PySem.F.slot_list_count ⟨_, ho, rfl⟩ PySem.F.entry_list_count (PySem.F.args_list_count_2 _ _)
    (SeqAt.list_countAt p its.toArray n dd sl u (fun w => g (vOf w))) ⟨ho, fun w hw => mem_vOf (x := y) rv (fun z hz w rw' => EqI.run I (by show X.A.units + 1 + 60 < cLine; omega) (he z hz) rw' ru) w (by simpa using hw), ?_⟩
  refine ⟨.int (ys.countP g : Nat), H, I.tok _, ⟨s.toks, ?_⟩, q⟩
  show Value.int ((its.toArray.toList.countP _ : Nat) : Int) s.toks = Value.int ((ys.countP g : Nat) : Int) s.toks
  rw [← count_vOf g rv]
def rIndexG (K : PySem.W.Frag) : V → List V → Hp → VK → Prop := fun x xs H Q => ∃ (p : Addr) (ys : List V) (y : V) (g : V → Bool) (j : Nat), x = .ref p ∧ xs = [y] ∧ SqL K H p ys ∧ (∀ z ∈ ys, EqI K H 60 z y (g z)) ∧ ys.findIdx? g = some j ∧ Q (.int (j : Nat)) H
theorem mt_indexG (hu : X.A.units + 64 < cLine) : MtR X "list.index" (rIndexG X.K) := by
  intro pins s σ H x xs v us Q I rx rxs h
  obtain ⟨p, ys, y, g, j, rfl, rfl, hs, he, hj, q⟩ := h
  cases rx
  obtain ⟨u, rfl, ru⟩ := rxs.one
  obtain ⟨its, rv, ⟨⟨cls, dd, data, sl⟩, n, ho, hc, hdn, hd⟩, hlen⟩ := I.list hs
  simp only at hc hd
  subst hc hd
  rw [← find_vOf g rv] at hj
  have hj := hj
  rw [List.findIdx?_eq_some_iff_getElem] at hj
  obtain ⟨hjl, h1, h2⟩ := hj
  have hsl := sizeLine_eq
  have hvl := rv.length
  refine call_meets PySem.F.slot_list_index ⟨_, ho, rfl⟩ PySem.F.entry_list_index (PySem.F.args_list_index_2 _ _)
    (SeqAt.list_indexAt p its.toArray n dd sl u (fun w => g (vOf w)) j (by simpa using hjl) (by omega) (by simpa using h1) (fun m hm hmj => by
      have := h2 m hmj
      simpa using this)) ⟨ho, fun w hw => mem_vOf (x := y) rv (fun z hz w rw' => EqI.run I (by show X.A.units + 1 + 60 < cLine; omega) (he z hz) rw' ru) w (by simpa using hw), ?_⟩
  exact ⟨.int (j : Nat), H, I.tok _, ⟨_, rfl⟩, q⟩
end
end Z

/-! T1: data without addresses. Da: a datum as a tree; a thing that is changed is a cell, its content stands in a memory. Rp tells which value a datum stands for. -/
namespace Z
open PySem PySem.Spec PyProof.Rows L2 Evl
inductive Da where
  | non | bl (b : Bool) | int (i : Int) | str (s : Str) | ty (n : String) | gl (x : Str)
  | tup (ds : List Da) | lst (ds : List Da) | dct (kds : List (Key × Da)) | obj (c : Str) (fds : List (Str × Da))
  | kl (ds : List Da) | kt (ds : List Da)
  | cell (n : Nat) | exv (a dd : Addr) (c : Str) (fds : List (Str × Da))
abbrev Mem := List Da
abbrev Sl := List (Option Da)
/-- a dict's entries, the dict locked or not -/
def coreD : HO → Option (List (Key × V))
  | .dK kvs => some kvs
  | .frz _ (.dK kvs) => some kvs
  | _ => none
mutual
inductive Rp (K : PySem.W.Frag) (H : Hp) (φ χ : List Addr) : V → Da → Prop
  | non : Rp K H φ χ .non .non
  | bl (b : Bool) : Rp K H φ χ (.bl b) (.bl b)
  | int (i : Int) : Rp K H φ χ (.int i) (.int i)
  | str {s : Str} : s.length ≤ sizeLine → Rp K H φ χ (.str s) (.str s)
  | ty (n : String) : Rp K H φ χ (.ty n) (.ty n)
  | gl (x : Str) : Rp K H φ χ (.ref (He.ga K x)) (.gl x)
  | tup {a : Addr} {vs : List V} {ds : List Da} : H a = some (.tup vs) → a ∉ φ → a ∉ χ → RpL K H φ χ vs ds → Rp K H φ χ (.ref a) (.tup ds)
  | lst {a : Addr} {vs : List V} {ds : List Da} : H a = some (.lst vs) → a ∉ φ → a ∉ χ → RpL K H φ χ vs ds → Rp K H φ χ (.ref a) (.lst ds)
  | dct {a : Addr} {o : HO} {kvs : List (Key × V)} {kds : List (Key × Da)} : H a = some o → coreD o = some kvs → a ∉ φ → a ∉ χ → RpK K H φ χ kvs kds → Rp K H φ χ (.ref a) (.dct kds)
  | obj {a dx : Addr} {c : Str} {fs : List (Str × V)} {fds : List (Str × Da)} : H a = some (.ins (He.ga K c) dx fs) → a ∉ φ → a ∉ χ → RpF K H φ χ fs fds → Rp K H φ χ (.ref a) (.obj c fds)
  | klR {a : Addr} {o : HO} {vs : List V} {ds : List Da} : H a = some o → (o = .lst vs ∨ ∃ ob, o = .frz ob (.lst vs)) → a ∉ φ → a ∉ χ → RpL K H φ χ vs ds → Rp K H φ χ (.ref a) (.kl ds)
  | klK {a : Addr} {vs : List V} {ds : List Da} : (∀ H', SqL K H' a vs) → RpL K H φ χ vs ds → Rp K H φ χ (.ref a) (.kl ds)
  | ktK {a : Addr} {vs : List V} {ds : List Da} : (∀ H', SqT K H' a vs) → RpL K H φ χ vs ds → Rp K H φ χ (.ref a) (.kt ds)
  | cell {n : Nat} {a : Addr} : φ[n]? = some a → Rp K H φ χ (.ref a) (.cell n)
  | exv {a dd : Addr} {c : Str} {vfs : List (Str × V)} {fds : List (Str × Da)} : H dd = some (.xd vfs) → dd ∉ φ → dd ∉ χ → RpF K H φ χ vfs fds → Rp K H φ χ (.ref a) (.exv a dd c fds)
inductive RpL (K : PySem.W.Frag) (H : Hp) (φ χ : List Addr) : List V → List Da → Prop
  | nil : RpL K H φ χ [] []
  | cons {v : V} {d : Da} {vs : List V} {ds : List Da} : Rp K H φ χ v d → RpL K H φ χ vs ds → RpL K H φ χ (v :: vs) (d :: ds)
inductive RpK (K : PySem.W.Frag) (H : Hp) (φ χ : List Addr) : List (Key × V) → List (Key × Da) → Prop
  | nil : RpK K H φ χ [] []
  | cons {k : Key} {v : V} {d : Da} {vs : List (Key × V)} {ds : List (Key × Da)} : Rp K H φ χ v d → RpK K H φ χ vs ds → RpK K H φ χ ((k, v) :: vs) ((k, d) :: ds)
inductive RpF (K : PySem.W.Frag) (H : Hp) (φ χ : List Addr) : List (Str × V) → List (Str × Da) → Prop
  | nil : RpF K H φ χ [] []
  | cons {k : Str} {v : V} {d : Da} {vs : List (Str × V)} {ds : List (Str × Da)} : Rp K H φ χ v d → RpF K H φ χ vs ds → RpF K H φ χ ((k, v) :: vs) ((k, d) :: ds)
end
/-- from one heap to a later one: what is no cell stays, new cells stand where nothing was -/
structure Adv (H : Hp) (φ : List Addr) (H' : Hp) (φ' : List Addr) : Prop where
  keep : ∀ a o, H a = some o → a ∉ φ → H' a = some o
  pre : ∃ ψ, φ' = φ ++ ψ ∧ ∀ a ∈ ψ, H a = none
  dom : ∀ a, H a ≠ none → H' a ≠ none
theorem nmc {α : Type} {a b : α} {l : List α} (h : a ≠ b ∧ a ∉ l) : a ∉ b :: l := fun m => (List.mem_cons.1 m).elim h.1 h.2
theorem upd_ni {H : Hp} {D a : Addr} {o : HO} {χ : List Addr} (e : D ∈ χ) (m : a ∉ χ) : upd H D o a = H a := upd_ne fun q => m (by rw [q]; exact e)
theorem Adv.refl {H : Hp} {φ : List Addr} : Adv H φ H φ := ⟨fun _ _ h _ => h, ⟨[], by simp, fun _ h => by cases h⟩, fun _ h => h⟩
theorem Adv.nin {H H' : Hp} {φ φ' : List Addr} (A : Adv H φ H' φ') {a : Addr} {o : HO} (h : H a = some o) (n : a ∉ φ) : a ∉ φ' := by
  obtain ⟨ψ, rfl, q⟩ := A.pre
  intro m
  rcases List.mem_append.1 m with m | m
  · exact n m
  · rw [q a m] at h
    cases h
theorem Adv.trans {H H1 H2 : Hp} {φ φ1 φ2 : List Addr} (A : Adv H φ H1 φ1) (B : Adv H1 φ1 H2 φ2) : Adv H φ H2 φ2 where
  keep := fun a o h n => B.keep a o (A.keep a o h n) (A.nin h n)
  pre := by
    obtain ⟨ψ, rfl, q⟩ := A.pre
    obtain ⟨ψ', rfl, q'⟩ := B.pre
    refine ⟨ψ ++ ψ', by simp, fun a m => ?_⟩
    rcases List.mem_append.1 m with m | m
    · exact q a m
    · cases e : H a with
      | none => rfl
      | some o => exact absurd (q' a m) (A.dom a (by rw [e]; simp))
  dom := fun a h => B.dom a (A.dom a h)
theorem Adv.at_ {H H' : Hp} {φ φ' : List Addr} (A : Adv H φ H' φ') {n : Nat} {a : Addr} (h : φ[n]? = some a) : φ'[n]? = some a := by
  obtain ⟨ψ, rfl, _⟩ := A.pre
  rw [List.getElem?_append_left (List.getElem?_eq_some_iff.1 h).1]
  exact h
theorem Adv.le {H H' : Hp} {φ φ' : List Addr} (A : Adv H φ H' φ') : φ.length ≤ φ'.length := by
  obtain ⟨ψ, rfl, _⟩ := A.pre
  simp
/-- a new object -/
theorem Adv.new {H : Hp} {φ : List Addr} {p : Addr} {o : HO} (h : H p = none) : Adv H φ (upd H p o) φ where
  keep := fun a u e _ => Ex.new h a u e
  pre := ⟨[], by simp, fun _ h => by cases h⟩
  dom := fun a e => by
    by_cases q : a = p
    · rw [q, upd_same]; simp
    · rw [upd_ne q]; exact e
/-- a new cell -/
theorem Adv.newC {H : Hp} {φ : List Addr} {p : Addr} {o : HO} (h : H p = none) : Adv H φ (upd H p o) (φ ++ [p]) where
  keep := (Adv.new h).keep
  pre := ⟨[p], rfl, fun a m => by rw [List.mem_singleton.1 m]; exact h⟩
  dom := (Adv.new (φ := φ) h).dom
/-- a cell changes -/
theorem Adv.mut {H : Hp} {φ : List Addr} {p : Addr} {o : HO} (h : p ∈ φ) : Adv H φ (upd H p o) φ where
  keep := fun a u e n => by
    rw [upd_ne (fun q => n (by rw [q]; exact h))]
    exact e
  pre := ⟨[], by simp, fun _ h => by cases h⟩
  dom := fun a e => by
    by_cases q : a = p
    · rw [q, upd_same]; simp
    · rw [upd_ne q]; exact e
/-- later cells are forgotten -/
theorem Adv.cut {H H' : Hp} {φ φ' : List Addr} (A : Adv H φ H' φ') {n : Nat} (h : φ.length ≤ n) : Adv H φ H' (φ'.take n) where
  keep := A.keep
  pre := by
    obtain ⟨ψ, rfl, q⟩ := A.pre
    refine ⟨ψ.take (n - φ.length), ?_, fun a m => q a (List.mem_of_mem_take m)⟩
    rw [List.take_append, List.take_of_length_le h]
  dom := A.dom
section
variable {K : PySem.W.Frag} {χ : List Addr}
mutual
theorem Rp.adv {H H' : Hp} {φ φ' : List Addr} (A : Adv H φ H' φ') : ∀ {v : V} {d : Da}, Rp K H φ χ v d → Rp K H' φ' χ v d
  | _, _, .non => .non
  | _, _, .bl b => .bl b
  | _, _, .int i => .int i
  | _, _, .str h => .str h
  | _, _, .ty n => .ty n
  | _, _, .gl x => .gl x
  | _, _, .tup h n m r => .tup (A.keep _ _ h n) (A.nin h n) m (RpL.adv A r)
  | _, _, .lst h n m r => .lst (A.keep _ _ h n) (A.nin h n) m (RpL.adv A r)
  | _, _, .dct h c n m r => .dct (A.keep _ _ h n) c (A.nin h n) m (RpK.adv A r)
  | _, _, .obj h n m r => .obj (A.keep _ _ h n) (A.nin h n) m (RpF.adv A r)
  | _, _, .klR h e n m r => .klR (A.keep _ _ h n) e (A.nin h n) m (RpL.adv A r)
  | _, _, .klK h r => .klK h (RpL.adv A r)
  | _, _, .ktK h r => .ktK h (RpL.adv A r)
  | _, _, .cell h => .cell (A.at_ h)
  | _, _, .exv h n m r => .exv (A.keep _ _ h n) (A.nin h n) m (RpF.adv A r)
theorem RpL.adv {H H' : Hp} {φ φ' : List Addr} (A : Adv H φ H' φ') : ∀ {v : List V} {d : List Da}, RpL K H φ χ v d → RpL K H' φ' χ v d
  | _, _, .nil => .nil
  | _, _, .cons h r => .cons (Rp.adv A h) (RpL.adv A r)
theorem RpK.adv {H H' : Hp} {φ φ' : List Addr} (A : Adv H φ H' φ') : ∀ {v : List (Key × V)} {d : List (Key × Da)}, RpK K H φ χ v d → RpK K H' φ' χ v d
  | _, _, .nil => .nil
  | _, _, .cons h r => .cons (Rp.adv A h) (RpK.adv A r)
theorem RpF.adv {H H' : Hp} {φ φ' : List Addr} (A : Adv H φ H' φ') : ∀ {v : List (Str × V)} {d : List (Str × Da)}, RpF K H φ χ v d → RpF K H' φ' χ v d
  | _, _, .nil => .nil
  | _, _, .cons h r => .cons (Rp.adv A h) (RpF.adv A r)
end
mutual
/-- addresses where nothing is may be hidden -/
theorem Rp.wide {H : Hp} {φ χ1 : List Addr} (e : ∀ a ∈ χ1, a ∈ χ ∨ H a = none) : ∀ {v : V} {d : Da}, Rp K H φ χ v d → Rp K H φ χ1 v d
  | _, _, .non => .non
  | _, _, .bl b => .bl b
  | _, _, .int i => .int i
  | _, _, .str h => .str h
  | _, _, .ty n => .ty n
  | _, _, .gl x => .gl x
  | _, _, .tup h n m r => .tup h n (fun q => (e _ q).elim m fun z => ne_of_none h z rfl) (RpL.wide e r)
  | _, _, .lst h n m r => .lst h n (fun q => (e _ q).elim m fun z => ne_of_none h z rfl) (RpL.wide e r)
  | _, _, .dct h c n m r => .dct h c n (fun q => (e _ q).elim m fun z => ne_of_none h z rfl) (RpK.wide e r)
  | _, _, .obj h n m r => .obj h n (fun q => (e _ q).elim m fun z => ne_of_none h z rfl) (RpF.wide e r)
  | _, _, .klR h q n m r => .klR h q n (fun q => (e _ q).elim m fun z => ne_of_none h z rfl) (RpL.wide e r)
  | _, _, .klK h r => .klK h (RpL.wide e r)
  | _, _, .ktK h r => .ktK h (RpL.wide e r)
  | _, _, .cell h => .cell h
  | _, _, .exv h n m r => .exv h n (fun q => (e _ q).elim m fun z => ne_of_none h z rfl) (RpF.wide e r)
theorem RpL.wide {H : Hp} {φ χ1 : List Addr} (e : ∀ a ∈ χ1, a ∈ χ ∨ H a = none) : ∀ {v : List V} {d : List Da}, RpL K H φ χ v d → RpL K H φ χ1 v d
  | _, _, .nil => .nil
  | _, _, .cons h r => .cons (Rp.wide e h) (RpL.wide e r)
theorem RpK.wide {H : Hp} {φ χ1 : List Addr} (e : ∀ a ∈ χ1, a ∈ χ ∨ H a = none) : ∀ {v : List (Key × V)} {d : List (Key × Da)}, RpK K H φ χ v d → RpK K H φ χ1 v d
  | _, _, .nil => .nil
  | _, _, .cons h r => .cons (Rp.wide e h) (RpK.wide e r)
theorem RpF.wide {H : Hp} {φ χ1 : List Addr} (e : ∀ a ∈ χ1, a ∈ χ ∨ H a = none) : ∀ {v : List (Str × V)} {d : List (Str × Da)}, RpF K H φ χ v d → RpF K H φ χ1 v d
  | _, _, .nil => .nil
  | _, _, .cons h r => .cons (Rp.wide e h) (RpF.wide e r)
end
theorem hidden {H : Hp} {D : Addr} (e : H D = none) : ∀ a ∈ D :: χ, a ∈ χ ∨ H a = none := fun a m => (List.mem_cons.1 m).elim (fun z => .inr (by rw [z]; exact e)) .inl
theorem Rp.hide {H : Hp} {φ : List Addr} {D : Addr} (e : H D = none) {v : V} {d : Da} (h : Rp K H φ χ v d) : Rp K H φ (D :: χ) v d := h.wide (hidden e)
theorem RpL.hide {H : Hp} {φ : List Addr} {D : Addr} (e : H D = none) {v : List V} {d : List Da} (h : RpL K H φ χ v d) : RpL K H φ (D :: χ) v d := h.wide (hidden e)
theorem RpK.hide {H : Hp} {φ : List Addr} {D : Addr} (e : H D = none) {v : List (Key × V)} {d : List (Key × Da)} (h : RpK K H φ χ v d) : RpK K H φ (D :: χ) v d := h.wide (hidden e)
theorem RpF.hide {H : Hp} {φ : List Addr} {D : Addr} (e : H D = none) {v : List (Str × V)} {d : List (Str × Da)} (h : RpF K H φ χ v d) : RpF K H φ (D :: χ) v d := h.wide (hidden e)
mutual
theorem Rp.bare {H : Hp} {φ : List Addr} {D : Addr} : ∀ {v : V} {d : Da}, Rp K H φ (D :: χ) v d → Rp K H φ χ v d
  | _, _, .non => .non
  | _, _, .bl b => .bl b
  | _, _, .int i => .int i
  | _, _, .str h => .str h
  | _, _, .ty n => .ty n
  | _, _, .gl x => .gl x
  | _, _, .tup h n m r => .tup h n (fun q => m (List.mem_cons_of_mem _ q)) (RpL.bare r)
  | _, _, .lst h n m r => .lst h n (fun q => m (List.mem_cons_of_mem _ q)) (RpL.bare r)
  | _, _, .dct h c n m r => .dct h c n (fun q => m (List.mem_cons_of_mem _ q)) (RpK.bare r)
  | _, _, .obj h n m r => .obj h n (fun q => m (List.mem_cons_of_mem _ q)) (RpF.bare r)
  | _, _, .klR h q n m r => .klR h q n (fun q => m (List.mem_cons_of_mem _ q)) (RpL.bare r)
  | _, _, .klK h r => .klK h (RpL.bare r)
  | _, _, .ktK h r => .ktK h (RpL.bare r)
  | _, _, .cell h => .cell h
  | _, _, .exv h n m r => .exv h n (fun q => m (List.mem_cons_of_mem _ q)) (RpF.bare r)
theorem RpL.bare {H : Hp} {φ : List Addr} {D : Addr} : ∀ {v : List V} {d : List Da}, RpL K H φ (D :: χ) v d → RpL K H φ χ v d
  | _, _, .nil => .nil
  | _, _, .cons h r => .cons (Rp.bare h) (RpL.bare r)
theorem RpK.bare {H : Hp} {φ : List Addr} {D : Addr} : ∀ {v : List (Key × V)} {d : List (Key × Da)}, RpK K H φ (D :: χ) v d → RpK K H φ χ v d
  | _, _, .nil => .nil
  | _, _, .cons h r => .cons (Rp.bare h) (RpK.bare r)
theorem RpF.bare {H : Hp} {φ : List Addr} {D : Addr} : ∀ {v : List (Str × V)} {d : List (Str × Da)}, RpF K H φ (D :: χ) v d → RpF K H φ χ v d
  | _, _, .nil => .nil
  | _, _, .cons h r => .cons (Rp.bare h) (RpF.bare r)
end
mutual
/-- a change at a hidden address -/
theorem Rp.at_ {H : Hp} {φ : List Addr} {D : Addr} {o : HO} (e : D ∈ χ) : ∀ {v : V} {d : Da}, Rp K H φ χ v d → Rp K (upd H D o) φ χ v d
  | _, _, .non => .non
  | _, _, .bl b => .bl b
  | _, _, .int i => .int i
  | _, _, .str h => .str h
  | _, _, .ty n => .ty n
  | _, _, .gl x => .gl x
  | _, _, .tup h n m r => .tup (by rw [upd_ni e m]; exact h) n m (RpL.at_ e r)
  | _, _, .lst h n m r => .lst (by rw [upd_ni e m]; exact h) n m (RpL.at_ e r)
  | _, _, .dct h c n m r => .dct (by rw [upd_ni e m]; exact h) c n m (RpK.at_ e r)
  | _, _, .obj h n m r => .obj (by rw [upd_ni e m]; exact h) n m (RpF.at_ e r)
  | _, _, .klR h q n m r => .klR (by rw [upd_ni e m]; exact h) q n m (RpL.at_ e r)
  | _, _, .klK h r => .klK h (RpL.at_ e r)
  | _, _, .ktK h r => .ktK h (RpL.at_ e r)
  | _, _, .cell h => .cell h
  | _, _, .exv h n m r => .exv (by rw [upd_ni e m]; exact h) n m (RpF.at_ e r)
theorem RpL.at_ {H : Hp} {φ : List Addr} {D : Addr} {o : HO} (e : D ∈ χ) : ∀ {v : List V} {d : List Da}, RpL K H φ χ v d → RpL K (upd H D o) φ χ v d
  | _, _, .nil => .nil
  | _, _, .cons h r => .cons (Rp.at_ e h) (RpL.at_ e r)
theorem RpK.at_ {H : Hp} {φ : List Addr} {D : Addr} {o : HO} (e : D ∈ χ) : ∀ {v : List (Key × V)} {d : List (Key × Da)}, RpK K H φ χ v d → RpK K (upd H D o) φ χ v d
  | _, _, .nil => .nil
  | _, _, .cons h r => .cons (Rp.at_ e h) (RpK.at_ e r)
theorem RpF.at_ {H : Hp} {φ : List Addr} {D : Addr} {o : HO} (e : D ∈ χ) : ∀ {v : List (Str × V)} {d : List (Str × Da)}, RpF K H φ χ v d → RpF K (upd H D o) φ χ v d
  | _, _, .nil => .nil
  | _, _, .cons h r => .cons (Rp.at_ e h) (RpF.at_ e r)
end
end
/-! ### cells below n alone -/
mutual
def cloD (n : Nat) : Da → Bool
  | .tup ds => cloL n ds
  | .lst ds => cloL n ds
  | .kl ds => cloL n ds
  | .kt ds => cloL n ds
  | .dct kds => cloK n kds
  | .obj _ fds => cloF n fds
  | .exv _ _ _ fds => cloF n fds
  | .cell m => decide (m < n)
  | .non => true
  | .bl _ => true
  | .int _ => true
  | .str _ => true
  | .ty _ => true
  | .gl _ => true
def cloL (n : Nat) : List Da → Bool
  | [] => true
  | d :: ds => cloD n d && cloL n ds
def cloK (n : Nat) : List (Key × Da) → Bool
  | [] => true
  | (_, d) :: ds => cloD n d && cloK n ds
def cloF (n : Nat) : List (Str × Da) → Bool
  | [] => true
  | (_, d) :: ds => cloD n d && cloF n ds
end
section
variable {K : PySem.W.Frag} {χ : List Addr} {H : Hp}
theorem take_at {α : Type} {l : List α} {n i : Nat} {a : α} (h : l[i]? = some a) (lt : i < n) : (l.take n)[i]? = some a := by
  rw [List.getElem?_take]
  simp [lt, h]
theorem nin_take {α : Type} {l : List α} {n : Nat} {a : α} (h : a ∉ l) : a ∉ l.take n := fun m => h (List.mem_of_mem_take m)
mutual
theorem Rp.cut {φ : List Addr} {n : Nat} : ∀ {v : V} {d : Da}, Rp K H φ χ v d → cloD n d = true → Rp K H (φ.take n) χ v d
  | _, _, .non, _ => .non
  | _, _, .bl b, _ => .bl b
  | _, _, .int i, _ => .int i
  | _, _, .str h, _ => .str h
  | _, _, .ty n, _ => .ty n
  | _, _, .gl x, _ => .gl x
  | _, _, .tup h a m r, c => .tup h (nin_take a) m (RpL.cut r (by unfold cloD at c; exact c))
  | _, _, .lst h a m r, c => .lst h (nin_take a) m (RpL.cut r (by unfold cloD at c; exact c))
  | _, _, .dct h q a m r, c => .dct h q (nin_take a) m (RpK.cut r (by unfold cloD at c; exact c))
  | _, _, .obj h a m r, c => .obj h (nin_take a) m (RpF.cut r (by unfold cloD at c; exact c))
  | _, _, .klR h q a m r, c => .klR h q (nin_take a) m (RpL.cut r (by unfold cloD at c; exact c))
  | _, _, .klK h r, c => .klK h (RpL.cut r (by unfold cloD at c; exact c))
  | _, _, .ktK h r, c => .ktK h (RpL.cut r (by unfold cloD at c; exact c))
  | _, _, .cell h, c => .cell (take_at h (by unfold cloD at c; exact of_decide_eq_true c))
  | _, _, .exv h a m r, c => .exv h (nin_take a) m (RpF.cut r (by unfold cloD at c; exact c))
theorem RpL.cut {φ : List Addr} {n : Nat} : ∀ {v : List V} {d : List Da}, RpL K H φ χ v d → cloL n d = true → RpL K H (φ.take n) χ v d
  | _, _, .nil, _ => .nil
  | _, _, .cons h r, c => by
    unfold cloL at c
    rw [Bool.and_eq_true] at c
    exact .cons (Rp.cut h c.1) (RpL.cut r c.2)
theorem RpK.cut {φ : List Addr} {n : Nat} : ∀ {v : List (Key × V)} {d : List (Key × Da)}, RpK K H φ χ v d → cloK n d = true → RpK K H (φ.take n) χ v d
  | _, _, .nil, _ => .nil
  | _, _, .cons h r, c => by
    unfold cloK at c
    rw [Bool.and_eq_true] at c
    exact .cons (Rp.cut h c.1) (RpK.cut r c.2)
theorem RpF.cut {φ : List Addr} {n : Nat} : ∀ {v : List (Str × V)} {d : List (Str × Da)}, RpF K H φ χ v d → cloF n d = true → RpF K H (φ.take n) χ v d
  | _, _, .nil, _ => .nil
  | _, _, .cons h r, c => by
    unfold cloF at c
    rw [Bool.and_eq_true] at c
    exact .cons (Rp.cut h c.1) (RpF.cut r c.2)
end
mutual
theorem Rp.clo {φ : List Addr} {n : Nat} (l : φ.length ≤ n) : ∀ {v : V} {d : Da}, Rp K H φ χ v d → cloD n d = true
  | _, _, .non => rfl
  | _, _, .bl b => rfl
  | _, _, .int i => rfl
  | _, _, .str h => rfl
  | _, _, .ty n => rfl
  | _, _, .gl x => rfl
  | _, _, .tup h a m r => by unfold cloD; exact RpL.clo l r
  | _, _, .lst h a m r => by unfold cloD; exact RpL.clo l r
  | _, _, .dct h q a m r => by unfold cloD; exact RpK.clo l r
  | _, _, .obj h a m r => by unfold cloD; exact RpF.clo l r
  | _, _, .klR h q a m r => by unfold cloD; exact RpL.clo l r
  | _, _, .klK h r => by unfold cloD; exact RpL.clo l r
  | _, _, .ktK h r => by unfold cloD; exact RpL.clo l r
  | _, _, .cell h => by
    unfold cloD
    exact decide_eq_true (Nat.lt_of_lt_of_le (List.getElem?_eq_some_iff.1 h).1 l)
  | _, _, .exv h a m r => by unfold cloD; exact RpF.clo l r
theorem RpL.clo {φ : List Addr} {n : Nat} (l : φ.length ≤ n) : ∀ {v : List V} {d : List Da}, RpL K H φ χ v d → cloL n d = true
  | _, _, .nil => rfl
  | _, _, .cons h r => by unfold cloL; rw [Rp.clo l h, RpL.clo l r]; rfl
theorem RpK.clo {φ : List Addr} {n : Nat} (l : φ.length ≤ n) : ∀ {v : List (Key × V)} {d : List (Key × Da)}, RpK K H φ χ v d → cloK n d = true
  | _, _, .nil => rfl
  | _, _, .cons h r => by unfold cloK; rw [Rp.clo l h, RpK.clo l r]; rfl
theorem RpF.clo {φ : List Addr} {n : Nat} (l : φ.length ≤ n) : ∀ {v : List (Str × V)} {d : List (Str × Da)}, RpF K H φ χ v d → cloF n d = true
  | _, _, .nil => rfl
  | _, _, .cons h r => by unfold cloF; rw [Rp.clo l h, RpF.clo l r]; rfl
end
/-! ### lists of data -/
theorem RpL.len {φ : List Addr} : ∀ {vs : List V} {ds : List Da}, RpL K H φ χ vs ds → vs.length = ds.length
  | _, _, .nil => rfl
  | _, _, .cons _ r => by rw [List.length_cons, List.length_cons, r.len]
theorem RpL.app {φ : List Addr} : ∀ {vs : List V} {ds : List Da} {ws : List V} {es : List Da}, RpL K H φ χ vs ds → RpL K H φ χ ws es → RpL K H φ χ (vs ++ ws) (ds ++ es)
  | _, _, _, _, .nil, r => r
  | _, _, _, _, .cons h l, r => .cons h (l.app r)
theorem RpL.get {φ : List Addr} : ∀ {vs : List V} {ds : List Da} {i : Nat} {d : Da}, RpL K H φ χ vs ds → ds[i]? = some d → ∃ v, vs[i]? = some v ∧ Rp K H φ χ v d
  | _, _, _, _, .nil, e => by simp at e
  | _, _, 0, _, .cons h _, e => by
    simp only [List.getElem?_cons_zero, Option.some.injEq] at e
    subst e
    exact ⟨_, rfl, h⟩
  | _, _, i + 1, _, .cons _ r, e => by
    obtain ⟨v, h1, h2⟩ := r.get (i := i) (by simpa using e)
    exact ⟨v, by simpa using h1, h2⟩
theorem RpL.get' {φ : List Addr} : ∀ {vs : List V} {ds : List Da} {i : Nat} {v : V}, RpL K H φ χ vs ds → vs[i]? = some v → ∃ d, ds[i]? = some d ∧ Rp K H φ χ v d
  | _, _, _, _, .nil, e => by simp at e
  | _, _, 0, _, .cons h _, e => by
    simp only [List.getElem?_cons_zero, Option.some.injEq] at e
    subst e
    exact ⟨_, rfl, h⟩
  | _, _, i + 1, _, .cons _ r, e => by
    obtain ⟨v, h1, h2⟩ := r.get' (i := i) (by simpa using e)
    exact ⟨v, by simpa using h1, h2⟩
theorem RpL.take {φ : List Addr} : ∀ {vs : List V} {ds : List Da} (n : Nat), RpL K H φ χ vs ds → RpL K H φ χ (vs.take n) (ds.take n)
  | _, _, 0, _ => .nil
  | _, _, _ + 1, .nil => .nil
  | _, _, n + 1, .cons h r => .cons h (r.take n)
theorem RpL.drop {φ : List Addr} : ∀ {vs : List V} {ds : List Da} (n : Nat), RpL K H φ χ vs ds → RpL K H φ χ (vs.drop n) (ds.drop n)
  | _, _, 0, r => r
  | _, _, _ + 1, .nil => .nil
  | _, _, n + 1, .cons _ r => r.drop n
theorem RpL.set {φ : List Addr} {v : V} {d : Da} (h : Rp K H φ χ v d) : ∀ {vs : List V} {ds : List Da} (i : Nat), RpL K H φ χ vs ds → RpL K H φ χ (vs.set i v) (ds.set i d)
  | _, _, _, .nil => .nil
  | _, _, 0, .cons _ r => .cons h r
  | _, _, i + 1, .cons q r => .cons q (RpL.set h i r)
theorem RpL.erase {φ : List Addr} : ∀ {vs : List V} {ds : List Da} (i : Nat), RpL K H φ χ vs ds → RpL K H φ χ (vs.eraseIdx i) (ds.eraseIdx i)
  | _, _, _, .nil => .nil
  | _, _, 0, .cons _ r => r
  | _, _, i + 1, .cons q r => .cons q (RpL.erase i r)
theorem RpL.mem {φ : List Addr} : ∀ {vs : List V} {ds : List Da}, RpL K H φ χ vs ds → ∀ v ∈ vs, ∃ d ∈ ds, Rp K H φ χ v d
  | _, _, .nil => fun v hv => by cases hv
  | _, _, .cons h r => fun v hv => by
    rcases List.mem_cons.mp hv with rfl | hv
    · exact ⟨_, List.mem_cons_self .., h⟩
    · obtain ⟨t, ht, q⟩ := r.mem v hv
      exact ⟨t, List.mem_cons_of_mem _ ht, q⟩
theorem RpK.len {φ : List Addr} : ∀ {vs : List (Key × V)} {ds : List (Key × Da)}, RpK K H φ χ vs ds → vs.length = ds.length
  | _, _, .nil => rfl
  | _, _, .cons _ r => by rw [List.length_cons, List.length_cons, r.len]
end
/-! ### the memory: what the cells hold -/
def CellAt (K : PySem.W.Frag) (H : Hp) (φ χ : List Addr) (a : Addr) : Da → Prop
  | .lst ds => ∃ vs, H a = some (.lst vs) ∧ RpL K H φ χ vs ds
  | .dct kds => ∃ kvs, H a = some (.dK kvs) ∧ RpK K H φ χ kvs kds
  | .obj c fds => ∃ dx fs, H a = some (.ins (He.ga K c) dx fs) ∧ RpF K H φ χ fs fds
  | .gl _ => H a ≠ none
  | _ => False
structure Mm (K : PySem.W.Frag) (H : Hp) (φ χ : List Addr) (M : Mem) : Prop where
  nd : φ.Nodup
  len : φ.length = M.length
  dis : ∀ a ∈ φ, a ∉ χ
  hid : ∀ a ∈ χ, H a ≠ none
  at_ : ∀ (n : Nat) (a : Addr) (d : Da), φ[n]? = some a → M[n]? = some d → CellAt K H φ χ a d
/-- the slots -/
structure Rs (K : PySem.W.Frag) (H : Hp) (φ χ : List Addr) (σ : L2.St) (ρ : Sl) : Prop where
  len : σ.length = ρ.length
  at_ : ∀ (i : Nat) (d : Da), ρ[i]? = some (some d) → ∃ v, σ[i]? = some (some v) ∧ Rp K H φ χ v d
section
variable {K : PySem.W.Frag} {χ φ : List Addr} {H : Hp} {M : Mem}
theorem upd_some {H : Hp} {p a : Addr} {o : HO} (e : H a ≠ none) : upd H p o a ≠ none := by
  by_cases q : a = p
  · rw [q, upd_same]; simp
  · rw [upd_ne q]; exact e
theorem CellAt.in_ {a : Addr} {d : Da} (h : CellAt K H φ χ a d) : H a ≠ none := by
  cases d with
  | lst ds => obtain ⟨_, e, _⟩ := h; rw [e]; simp
  | dct ds => obtain ⟨_, e, _⟩ := h; rw [e]; simp
  | obj c ds => obtain ⟨_, _, e, _⟩ := h; rw [e]; simp
  | gl x => exact h
  | _ => exact h.elim
theorem Mm.has (m : Mm K H φ χ M) {n : Nat} {a : Addr} (h : φ[n]? = some a) : ∃ d, M[n]? = some d ∧ CellAt K H φ χ a d := by
  have l := (List.getElem?_eq_some_iff.1 h).1
  have l2 : n < M.length := by rw [← m.len]; exact l
  exact ⟨M[n], by simp [l2], m.at_ n a _ h (by simp [l2])⟩
theorem Mm.has' (m : Mm K H φ χ M) {n : Nat} {d : Da} (h : M[n]? = some d) : ∃ a, φ[n]? = some a ∧ CellAt K H φ χ a d := by
  have l := (List.getElem?_eq_some_iff.1 h).1
  have l2 : n < φ.length := by rw [m.len]; exact l
  exact ⟨φ[n], by simp [l2], m.at_ n _ d (by simp [l2]) h⟩
theorem Mm.dom (m : Mm K H φ χ M) {a : Addr} (h : a ∈ φ) : H a ≠ none := by
  obtain ⟨n, l, e⟩ := List.getElem_of_mem h
  obtain ⟨d, _, c⟩ := m.has (n := n) (a := a) (by rw [List.getElem?_eq_getElem l, e])
  exact c.in_
theorem CellAt.adv {H' : Hp} {φ' : List Addr} {a : Addr} {d : Da} (A : Adv H φ H' φ') (e : H' a = H a) (h : CellAt K H φ χ a d) : CellAt K H' φ' χ a d := by
  cases d with
  | lst ds => obtain ⟨vs, q, r⟩ := h; exact ⟨vs, e.trans q, r.adv A⟩
  | dct ds => obtain ⟨vs, q, r⟩ := h; exact ⟨vs, e.trans q, r.adv A⟩
  | obj c ds => obtain ⟨dx, vs, q, r⟩ := h; exact ⟨dx, vs, e.trans q, r.adv A⟩
  | gl x => show H' a ≠ none; rw [e]; exact h
  | _ => exact h.elim
theorem Mm.new {p : Addr} {o : HO} (m : Mm K H φ χ M) (h : H p = none) : Mm K (upd H p o) φ χ M where
  nd := m.nd
  len := m.len
  dis := m.dis
  hid := fun a ha => upd_some (m.hid a ha)
  at_ := fun n a d e1 e2 => (m.at_ n a d e1 e2).adv (Adv.new h) (upd_ne fun q => m.dom (List.mem_of_getElem? e1) (by rw [q]; exact h))
theorem Mm.newC {p : Addr} {o : HO} {d : Da} (m : Mm K H φ χ M) (h : H p = none) (c : CellAt K (upd H p o) (φ ++ [p]) χ p d) : Mm K (upd H p o) (φ ++ [p]) χ (M ++ [d]) where
  nd := by
    rw [List.nodup_append]
    refine ⟨m.nd, by simp, fun a ha b hb q => ?_⟩
    rw [List.mem_singleton.1 hb] at q
    exact m.dom ha (by rw [q]; exact h)
  len := by rw [List.length_append, List.length_append, m.len]; rfl
  dis := fun a ha => by
    rcases List.mem_append.1 ha with ha | ha
    · exact m.dis a ha
    · rw [List.mem_singleton.1 ha]; exact fun q => m.hid p q h
  hid := fun a ha => upd_some (m.hid a ha)
  at_ := fun n a e e1 e2 => by
    by_cases l : n < φ.length
    · rw [List.getElem?_append_left l] at e1
      rw [List.getElem?_append_left (by rw [← m.len]; exact l)] at e2
      exact (m.at_ n a e e1 e2).adv (Adv.newC h) (upd_ne fun q => m.dom (List.mem_of_getElem? e1) (by rw [q]; exact h))
    · have l2 : φ.length ≤ n := Nat.le_of_not_lt l
      rw [List.getElem?_append_right l2] at e1
      rw [List.getElem?_append_right (by rw [← m.len]; exact l2)] at e2
      have z : n - φ.length = 0 := by
        have := (List.getElem?_eq_some_iff.1 e1).1
        simp at this
        omega
      rw [z] at e1
      rw [show n - M.length = 0 by rw [← m.len]; exact z] at e2
      simp at e1 e2
      rw [← e1, ← e2]
      exact c
theorem Mm.mut {n : Nat} {a : Addr} {o : HO} {d : Da} (m : Mm K H φ χ M) (h : φ[n]? = some a) (c : CellAt K (upd H a o) φ χ a d) : Mm K (upd H a o) φ χ (M.set n d) where
  nd := m.nd
  len := by rw [List.length_set]; exact m.len
  dis := m.dis
  hid := fun a ha => upd_some (m.hid a ha)
  at_ := fun k b e e1 e2 => by
    by_cases q : k = n
    · rw [q] at e1 e2
      have l : n < M.length := by rw [← m.len]; exact (List.getElem?_eq_some_iff.1 h).1
      rw [List.getElem?_set_self l] at e2
      cases e2
      rw [h] at e1
      cases e1
      exact c
    · rw [List.getElem?_set_ne (Ne.symm q)] at e2
      refine (m.at_ k b e e1 e2).adv (Adv.mut (List.mem_of_getElem? h)) (upd_ne fun z => q ?_)
      subst z
      have l1 := List.getElem?_eq_some_iff.1 e1
      exact (List.getElem?_inj l1.1 m.nd).1 (e1.trans h.symm)
theorem Mm.hideN {D : Addr} {o : HO} (m : Mm K H φ χ M) (h : H D = none) : Mm K (upd H D o) φ (D :: χ) M where
  nd := m.nd
  len := m.len
  dis := fun a ha => nmc ⟨fun q => m.dom ha (by rw [q]; exact h), m.dis a ha⟩
  hid := fun a ha => by
    rcases List.mem_cons.1 ha with rfl | ha
    · rw [upd_same]; simp
    · exact upd_some (m.hid a ha)
  at_ := fun n a d e1 e2 => by
    have c := m.at_ n a d e1 e2
    have ne : a ≠ D := fun q => m.dom (List.mem_of_getElem? e1) (by rw [q]; exact h)
    have hD : D ∈ D :: χ := List.mem_cons_self ..
    cases d with
    | lst ds => obtain ⟨vs, q, r⟩ := c; exact ⟨vs, by rw [upd_ne ne]; exact q, (r.hide h).at_ hD⟩
    | dct ds => obtain ⟨vs, q, r⟩ := c; exact ⟨vs, by rw [upd_ne ne]; exact q, (r.hide h).at_ hD⟩
    | obj c ds => obtain ⟨dx, vs, q, r⟩ := c; exact ⟨dx, vs, by rw [upd_ne ne]; exact q, (r.hide h).at_ hD⟩
    | gl x => show upd H D o a ≠ none; rw [upd_ne ne]; exact c
    | _ => exact c.elim
theorem Mm.bare {D : Addr} (m : Mm K H φ (D :: χ) M) : Mm K H φ χ M where
  nd := m.nd
  len := m.len
  dis := fun a ha => fun q => m.dis a ha (List.mem_cons_of_mem _ q)
  hid := fun a ha => m.hid a (List.mem_cons_of_mem _ ha)
  at_ := fun n a d e1 e2 => by
    have c := m.at_ n a d e1 e2
    cases d with
    | lst ds => obtain ⟨vs, q, r⟩ := c; exact ⟨vs, q, r.bare⟩
    | dct ds => obtain ⟨vs, q, r⟩ := c; exact ⟨vs, q, r.bare⟩
    | obj c ds => obtain ⟨dx, vs, q, r⟩ := c; exact ⟨dx, vs, q, r.bare⟩
    | gl x => exact c
    | _ => exact c.elim
theorem Mm.updH {D : Addr} {o : HO} (m : Mm K H φ χ M) (h : D ∈ χ) : Mm K (upd H D o) φ χ M where
  nd := m.nd
  len := m.len
  dis := m.dis
  hid := fun a ha => upd_some (m.hid a ha)
  at_ := fun n a d e1 e2 => by
    have c := m.at_ n a d e1 e2
    have ne : a ≠ D := fun q => m.dis a (List.mem_of_getElem? e1) (by rw [q]; exact h)
    cases d with
    | lst ds => obtain ⟨vs, q, r⟩ := c; exact ⟨vs, by rw [upd_ne ne]; exact q, r.at_ h⟩
    | dct ds => obtain ⟨vs, q, r⟩ := c; exact ⟨vs, by rw [upd_ne ne]; exact q, r.at_ h⟩
    | obj c ds => obtain ⟨dx, vs, q, r⟩ := c; exact ⟨dx, vs, by rw [upd_ne ne]; exact q, r.at_ h⟩
    | gl x => show upd H D o a ≠ none; rw [upd_ne ne]; exact c
    | _ => exact c.elim
theorem Mm.cut {n : Nat} (m : Mm K H φ χ M) (c : cloL n (M.take n) = true) : Mm K H (φ.take n) χ (M.take n) where
  nd := m.nd.sublist (List.take_sublist _ _)
  len := by rw [List.length_take, List.length_take, m.len]
  dis := fun a ha => m.dis a (List.mem_of_mem_take ha)
  hid := m.hid
  at_ := fun k a d e1 e2 => by
    have all : ∀ {l : List Da} {k : Nat} {d : Da}, cloL n l = true → l[k]? = some d → cloD n d = true := by
      intro l
      induction l with
      | nil => intro k d _ e; simp at e
      | cons x xs ih =>
        intro k d c e
        unfold cloL at c
        rw [Bool.and_eq_true] at c
        cases k with
        | zero => simp at e; rw [← e]; exact c.1
        | succ k => exact ih c.2 (by simpa using e)
    have cd := all c e2
    have e1' : φ[k]? = some a := by
      rw [List.getElem?_take] at e1
      split at e1
      · exact e1
      · cases e1
    have e2' : M[k]? = some d := by
      rw [List.getElem?_take] at e2
      split at e2
      · exact e2
      · cases e2
    have q := m.at_ k a d e1' e2'
    cases d with
    | lst ds => obtain ⟨vs, q, r⟩ := q; exact ⟨vs, q, r.cut (by unfold cloD at cd; exact cd)⟩
    | dct ds => obtain ⟨vs, q, r⟩ := q; exact ⟨vs, q, r.cut (by unfold cloD at cd; exact cd)⟩
    | obj c ds => obtain ⟨dx, vs, q, r⟩ := q; exact ⟨dx, vs, q, r.cut (by unfold cloD at cd; exact cd)⟩
    | gl x => exact q
    | _ => exact q.elim
theorem Mm.clo (m : Mm K H φ χ M) : cloL M.length M = true := by
  have all : ∀ (l : List Da), (∀ d ∈ l, cloD M.length d = true) → cloL M.length l = true := by
    intro l
    induction l with
    | nil => intro _; rfl
    | cons x xs ih =>
      intro h
      unfold cloL
      rw [h x (List.mem_cons_self ..), ih fun d hd => h d (List.mem_cons_of_mem _ hd)]
      rfl
  refine all M fun d hd => ?_
  obtain ⟨n, l, e⟩ := List.getElem_of_mem hd
  obtain ⟨a, _, c⟩ := m.has' (n := n) (d := d) (by rw [List.getElem?_eq_getElem l, e])
  have le : φ.length ≤ M.length := Nat.le_of_eq m.len
  cases d with
  | lst ds => obtain ⟨vs, _, r⟩ := c; unfold cloD; exact r.clo le
  | dct ds => obtain ⟨vs, _, r⟩ := c; unfold cloD; exact r.clo le
  | obj c ds => obtain ⟨dx, vs, _, r⟩ := c; unfold cloD; exact r.clo le
  | gl x => rfl
  | _ => exact c.elim
variable {σ : L2.St} {ρ : Sl}
theorem Rs.adv {H' : Hp} {φ' : List Addr} (A : Adv H φ H' φ') (r : Rs K H φ χ σ ρ) : Rs K H' φ' χ σ ρ := ⟨r.len, fun i d e => by
  obtain ⟨v, h, q⟩ := r.at_ i d e
  exact ⟨v, h, q.adv A⟩⟩
theorem Rs.set {i : Nat} {v : V} {d : Da} (r : Rs K H φ χ σ ρ) (h : Rp K H φ χ v d) : Rs K H φ χ (σ.set i (some v)) (ρ.set i (some d)) := ⟨by rw [List.length_set, List.length_set]; exact r.len, fun k e q => by
  by_cases z : k = i
  · subst z
    have l : k < ρ.length := by
      have := (List.getElem?_eq_some_iff.1 q).1
      rwa [List.length_set] at this
    rw [List.getElem?_set_self l] at q
    cases q
    exact ⟨v, List.getElem?_set_self (by rw [r.len]; exact l), h⟩
  · rw [List.getElem?_set_ne (Ne.symm z)] at q
    rw [List.getElem?_set_ne (Ne.symm z)]
    exact r.at_ k e q⟩
theorem Rs.gone {i : Nat} (r : Rs K H φ χ σ ρ) : Rs K H φ χ (σ.set i none) (ρ.set i none) := ⟨by rw [List.length_set, List.length_set]; exact r.len, fun k e q => by
  by_cases z : k = i
  · subst z
    have l : k < ρ.length := by
      have := (List.getElem?_eq_some_iff.1 q).1
      rwa [List.length_set] at this
    rw [List.getElem?_set_self l] at q
    cases q
  · rw [List.getElem?_set_ne (Ne.symm z)] at q
    rw [List.getElem?_set_ne (Ne.symm z)]
    exact r.at_ k e q⟩
theorem Rs.hideN {D : Addr} {o : HO} (r : Rs K H φ χ σ ρ) (h : H D = none) : Rs K (upd H D o) φ (D :: χ) σ ρ := ⟨r.len, fun i d e => by
  obtain ⟨v, q, p⟩ := r.at_ i d e
  exact ⟨v, q, (p.hide h).at_ (List.mem_cons_self ..)⟩⟩
theorem Rs.bare {D : Addr} (r : Rs K H φ (D :: χ) σ ρ) : Rs K H φ χ σ ρ := ⟨r.len, fun i d e => by
  obtain ⟨v, q, p⟩ := r.at_ i d e
  exact ⟨v, q, p.bare⟩⟩
theorem Rs.updH {D : Addr} {o : HO} (r : Rs K H φ χ σ ρ) (h : D ∈ χ) : Rs K (upd H D o) φ χ σ ρ := ⟨r.len, fun i d e => by
  obtain ⟨v, q, p⟩ := r.at_ i d e
  exact ⟨v, q, p.at_ h⟩⟩
/-- slots whose data have cells below n alone; the others are forgotten -/
def slClo (n : Nat) (ρ ρ' : Sl) : Prop := ρ'.length = ρ.length ∧ ∀ (i : Nat) (d : Da), ρ'[i]? = some (some d) → ρ[i]? = some (some d) ∧ cloD n d = true
theorem Rs.cut {n : Nat} {ρ' : Sl} (r : Rs K H φ χ σ ρ) (c : slClo n ρ ρ') : Rs K H (φ.take n) χ σ ρ' := ⟨by rw [c.1]; exact r.len, fun i d e => by
  obtain ⟨h, q⟩ := c.2 i d e
  obtain ⟨v, h2, p⟩ := r.at_ i d h
  exact ⟨v, h2, p.cut q⟩⟩
end
end Z

/-! T2: readings over data. For each construct the data's reading (n.., m..) and a theorem (O_.., E_..) that it carries the machine's. -/
namespace Z
open PySem PySem.Spec PyProof.Rows L2 Evl
abbrev TK := Da → Mem → Prop
abbrev WD := Str → List (Str × Da) → Sl → Mem → Prop
abbrev ME := Sl → Mem → TK → Prop
abbrev MA := Sl → Mem → (List Da → Mem → Prop) → Prop
abbrev MT := Sl → Mem → (Bool → Mem → Prop) → Prop
abbrev MO := Da → Da → Mem → TK → Prop
structure En where
  nx : Sl → Mem → Prop
  rt : TK
  bk : Sl → Mem → Prop := fun _ _ => False
  ct : Sl → Mem → Prop := fun _ _ => False
abbrev MS := En → Sl → Mem → Prop
abbrev MG := Da → Sl → Mem → (Sl → Mem → Prop) → Prop
abbrev MGs := List Da → Sl → Mem → (Sl → Mem → Prop) → Prop
def look (M : Mem) : Da → Da
  | .cell n => M.getD n (.gl "")
  | .kl ds => .lst ds
  | .kt ds => .tup ds
  | d => d
def lookE (M : Mem) : Da → Da
  | .cell n => M.getD n (.gl "")
  | .kl _ => .gl ""
  | .kt _ => .gl ""
  | d => d
/-! ### the ends carried -/
def FE (K : PySem.W.Frag) (χ : List Addr) (H : Hp) (φ : List Addr) (Q' : TK) (Q : VK) : Prop := ∀ v d H' φ' M', Adv H φ H' φ' → Mm K H' φ' χ M' → Rp K H' φ' χ v d → Q' d M' → Q v H'
def FA (K : PySem.W.Frag) (χ : List Addr) (H : Hp) (φ : List Addr) (Q' : List Da → Mem → Prop) (Q : List V → Hp → Prop) : Prop := ∀ v d H' φ' M', Adv H φ H' φ' → Mm K H' φ' χ M' → RpL K H' φ' χ v d → Q' d M' → Q v H'
def FT (K : PySem.W.Frag) (χ : List Addr) (H : Hp) (φ : List Addr) (Q' : Bool → Mem → Prop) (Q : Bool → Hp → Prop) : Prop := ∀ b H' φ' M', Adv H φ H' φ' → Mm K H' φ' χ M' → Q' b M' → Q b H'
def FN (K : PySem.W.Frag) (χ : List Addr) (H : Hp) (φ : List Addr) (Q' : Sl → Mem → Prop) (Q : L2.St → Hp → Prop) : Prop := ∀ σ' H' φ' ρ' M', Adv H φ H' φ' → Rs K H' φ' χ σ' ρ' → Mm K H' φ' χ M' → Q' ρ' M' → Q σ' H'
def FW (K : PySem.W.Frag) (χ : List Addr) (H : Hp) (φ : List Addr) (W' : WD) (W : WX) : Prop := ∀ c fs vfs dd σ' H' φ' ρ' M', Adv H φ H' φ' → Rs K H' φ' χ σ' ρ' → Mm K H' φ' χ M' → H' dd = some (.xd vfs) → dd ∉ φ' → dd ∉ χ → RpF K H' φ' χ vfs fs →
  W' c fs ρ' M' → W (.ref (He.ga K c)) (some dd) σ' H'
section
variable {K : PySem.W.Frag} {χ : List Addr} {H H1 : Hp} {φ φ1 : List Addr}
theorem FE.adv {Q' : TK} {Q : VK} (f : FE K χ H φ Q' Q) (A : Adv H φ H1 φ1) : FE K χ H1 φ1 Q' Q := fun v d H' φ' M' B => f v d H' φ' M' (A.trans B)
theorem FA.adv {Q' : List Da → Mem → Prop} {Q : List V → Hp → Prop} (f : FA K χ H φ Q' Q) (A : Adv H φ H1 φ1) : FA K χ H1 φ1 Q' Q := fun v d H' φ' M' B => f v d H' φ' M' (A.trans B)
theorem FT.adv {Q' : Bool → Mem → Prop} {Q : Bool → Hp → Prop} (f : FT K χ H φ Q' Q) (A : Adv H φ H1 φ1) : FT K χ H1 φ1 Q' Q := fun b H' φ' M' B => f b H' φ' M' (A.trans B)
theorem FN.adv {Q' : Sl → Mem → Prop} {Q : L2.St → Hp → Prop} (f : FN K χ H φ Q' Q) (A : Adv H φ H1 φ1) : FN K χ H1 φ1 Q' Q := fun σ' H' φ' ρ' M' B => f σ' H' φ' ρ' M' (A.trans B)
theorem FW.adv {W' : WD} {W : WX} (f : FW K χ H φ W' W) (A : Adv H φ H1 φ1) : FW K χ H1 φ1 W' W := fun c fs vfs dd σ' H' φ' ρ' M' B => f c fs vfs dd σ' H' φ' ρ' M' (A.trans B)
end
/-! ### what carries -/
structure SE (K : PySem.W.Frag) (te : WX → TE) (me : WD → ME) : Prop where
  run : ∀ {χ W W' σ H φ ρ M Q Q'}, Rs K H φ χ σ ρ → Mm K H φ χ M → FW K χ H φ W' W → FE K χ H φ Q' Q → me W' ρ M Q' → te W σ H Q
structure SA (K : PySem.W.Frag) (te : WX → TA) (me : WD → MA) : Prop where
  run : ∀ {χ W W' σ H φ ρ M Q Q'}, Rs K H φ χ σ ρ → Mm K H φ χ M → FW K χ H φ W' W → FA K χ H φ Q' Q → me W' ρ M Q' → te W σ H Q
structure ST (K : PySem.W.Frag) (te : WX → TT) (me : WD → MT) : Prop where
  run : ∀ {χ W W' σ H φ ρ M Q Q'}, Rs K H φ χ σ ρ → Mm K H φ χ M → FW K χ H φ W' W → FT K χ H φ Q' Q → me W' ρ M Q' → te W σ H Q
structure SS (K : PySem.W.Frag) (ts : WX → TS) (ms : WD → MS) : Prop where
  run : ∀ {χ W W' σ H φ ρ M D D'}, Rs K H φ χ σ ρ → Mm K H φ χ M → FW K χ H φ W' W → FN K χ H φ D'.nx D.nx → FE K χ H φ D'.rt D.rt → FN K χ H φ D'.bk D.bk → FN K χ H φ D'.ct D.ct → ms W' D' ρ M → ts W D σ H
structure SG (K : PySem.W.Frag) (g : WX → TG) (mg : WD → MG) : Prop where
  run : ∀ {χ W W' σ H φ ρ M v d Q Q'}, Rs K H φ χ σ ρ → Mm K H φ χ M → FW K χ H φ W' W → Rp K H φ χ v d → FN K χ H φ Q' Q → mg W' d ρ M Q' → g W v σ H Q
structure SGs (K : PySem.W.Frag) (g : WX → TGs) (mg : WD → MGs) : Prop where
  run : ∀ {χ W W' σ H φ ρ M v d Q Q'}, Rs K H φ χ σ ρ → Mm K H φ χ M → FW K χ H φ W' W → RpL K H φ χ v d → FN K χ H φ Q' Q → mg W' d ρ M Q' → g W v σ H Q
/-- operators -/
def SO (K : PySem.W.Frag) (r : R2) (n : MO) : Prop := ∀ {χ H φ M x y dx dy Q Q'}, Mm K H φ χ M → Rp K H φ χ x dx → Rp K H φ χ y dy → FE K χ H φ Q' Q → n dx dy M Q' → r x y H Q
/-- calls of builtins -/
def SC (K : PySem.W.Frag) (r : List V → Hp → VK → Prop) (n : List Da → Mem → TK → Prop) : Prop := ∀ {χ H φ M x dx Q Q'}, Mm K H φ χ M → RpL K H φ χ x dx → FE K χ H φ Q' Q → n dx M Q' → r x H Q
/-- methods -/
def SM (K : PySem.W.Frag) (T : String) (r : V → List V → Hp → VK → Prop) (n : Da → List Da → Mem → TK → Prop) (ok : Da → Mem → Prop) : Prop :=
  (∀ {χ H φ M x dx}, Mm K H φ χ M → Rp K H φ χ x dx → ok dx M → tyV K T x H) ∧ ∀ {χ H φ M x dx xs dxs Q Q'}, Mm K H φ χ M → Rp K H φ χ x dx → RpL K H φ χ xs dxs → FE K χ H φ Q' Q → n dx dxs M Q' → r x xs H Q
section
variable {K : PySem.W.Frag} {χ φ : List Addr} {H : Hp} {M : Mem} {v : V} {d : Da}
theorem Mm.look (m : Mm K H φ χ M) {n : Nat} {a : Addr} (h : φ[n]? = some a) : ∃ d, M.getD n (.gl "") = d ∧ M[n]? = some d ∧ CellAt K H φ χ a d := by
  obtain ⟨d, e, c⟩ := m.has h
  exact ⟨d, by rw [List.getD_eq_getElem?_getD, e]; rfl, e, c⟩
theorem vL (m : Mm K H φ χ M) (h : Rp K H φ χ v d) {ds : List Da} (e : look M d = .lst ds) : ∃ a vs, v = .ref a ∧ SqL K H a vs ∧ RpL K H φ χ vs ds := by
  cases h with
  | lst h n m r => cases e; exact ⟨_, _, rfl, SqL.of h, r⟩
  | klR h q n m r =>
    cases e
    rcases q with rfl | ⟨ob, rfl⟩
    · exact ⟨_, _, rfl, SqL.of h, r⟩
    · exact ⟨_, _, rfl, .inl (.inr ⟨ob, h⟩), r⟩
  | klK h r => cases e; exact ⟨_, _, rfl, h H, r⟩
  | cell h =>
    obtain ⟨d, e1, _, c⟩ := m.look h
    have e2 : M.getD _ (.gl "") = Da.lst ds := e
    rw [e1] at e2
    subst e2
    obtain ⟨vs, q, r⟩ := c
    exact ⟨_, vs, rfl, SqL.of q, r⟩
  | _ => cases e
theorem vT (m : Mm K H φ χ M) (h : Rp K H φ χ v d) {ds : List Da} (e : look M d = .tup ds) : ∃ a vs, v = .ref a ∧ SqT K H a vs ∧ RpL K H φ χ vs ds := by
  cases h with
  | tup h n m r => cases e; exact ⟨_, _, rfl, SqT.of h, r⟩
  | ktK h r => cases e; exact ⟨_, _, rfl, h H, r⟩
  | cell h =>
    obtain ⟨d, e1, _, c⟩ := m.look h
    have e2 : M.getD _ (.gl "") = Da.tup ds := e
    rw [e1] at e2
    subst e2
    exact c.elim
  | _ => cases e
theorem vLE (m : Mm K H φ χ M) (h : Rp K H φ χ v d) {ds : List Da} (e : lookE M d = .lst ds) : ∃ a vs, v = .ref a ∧ H a = some (.lst vs) ∧ RpL K H φ χ vs ds := by
  cases h with
  | lst h n m r => cases e; exact ⟨_, _, rfl, h, r⟩
  | cell h =>
    obtain ⟨d, e1, _, c⟩ := m.look h
    have e2 : M.getD _ (.gl "") = Da.lst ds := e
    rw [e1] at e2
    subst e2
    obtain ⟨vs, q, r⟩ := c
    exact ⟨_, vs, rfl, q, r⟩
  | _ => cases e
theorem vTE (m : Mm K H φ χ M) (h : Rp K H φ χ v d) {ds : List Da} (e : lookE M d = .tup ds) : ∃ a vs, v = .ref a ∧ H a = some (.tup vs) ∧ RpL K H φ χ vs ds := by
  cases h with
  | tup h n m r => cases e; exact ⟨_, _, rfl, h, r⟩
  | cell h =>
    obtain ⟨d, e1, _, c⟩ := m.look h
    have e2 : M.getD _ (.gl "") = Da.tup ds := e
    rw [e1] at e2
    subst e2
    exact c.elim
  | _ => cases e
theorem rd_of {a : Addr} {o : HO} {kvs : List (Key × V)} (h : H a = some o) (c : coreD o = some kvs) : Rd H a (.dK kvs) := by
  cases o with
  | dK k => cases c; exact .inl h
  | frz ob u =>
    cases u with
    | dK k => cases c; exact .inr ⟨ob, h⟩
    | _ => cases c
  | _ => cases c
theorem vD (m : Mm K H φ χ M) (h : Rp K H φ χ v d) {ds : List (Key × Da)} (e : look M d = .dct ds) : ∃ a kvs, v = .ref a ∧ Rd H a (.dK kvs) ∧ RpK K H φ χ kvs ds := by
  cases h with
  | dct h c n m r => cases e; exact ⟨_, _, rfl, rd_of h c, r⟩
  | cell h =>
    obtain ⟨d, e1, _, c⟩ := m.look h
    have e2 : M.getD _ (.gl "") = Da.dct ds := e
    rw [e1] at e2
    subst e2
    obtain ⟨vs, q, r⟩ := c
    exact ⟨_, vs, rfl, .inl q, r⟩
  | _ => cases e
theorem vInt (h : Rp K H φ χ v (.int i)) : v = .int i := by cases h; rfl
theorem vBl (h : Rp K H φ χ v (.bl i)) : v = .bl i := by cases h; rfl
theorem vStr (h : Rp K H φ χ v (.str i)) : v = .str i ∧ i.length ≤ sizeLine := by cases h; exact ⟨rfl, by assumption⟩
theorem vNon (h : Rp K H φ χ v .non) : v = .non := by cases h; rfl
theorem FE.pure {Q' : TK} {Q : VK} (f : FE K χ H φ Q' Q) (m : Mm K H φ χ M) (r : Rp K H φ χ v d) (q : Q' d M) : Q v H := f v d H φ M Adv.refl m r q
theorem RpL.newObj {p : Addr} {o : HO} {vs : List V} {ds : List Da} (h : H p = none) (r : RpL K H φ χ vs ds) : RpL K (upd H p o) φ χ vs ds := r.adv (Adv.new h)
theorem Mm.nin (m : Mm K H φ χ M) {p : Addr} (h : H p = none) : p ∉ φ := fun q => m.dom q h
theorem FE.lst {Q' : TK} {Q : VK} (f : FE K χ H φ Q' Q) (m : Mm K H φ χ M) {vs : List V} {ds : List Da} (r : RpL K H φ χ vs ds) {p : Addr} (h : H p = none) (q : Q' (.lst ds) M) : Q (.ref p) (upd H p (.lst vs)) :=
  f _ _ _ _ M (Adv.new h) (m.new h) (.lst upd_same (m.nin h) (fun c => m.hid p c h) (r.newObj h)) q
theorem FE.tup {Q' : TK} {Q : VK} (f : FE K χ H φ Q' Q) (m : Mm K H φ χ M) {vs : List V} {ds : List Da} (r : RpL K H φ χ vs ds) {p : Addr} (h : H p = none) (q : Q' (.tup ds) M) : Q (.ref p) (upd H p (.tup vs)) :=
  f _ _ _ _ M (Adv.new h) (m.new h) (.tup upd_same (m.nin h) (fun c => m.hid p c h) (r.newObj h)) q
end
end Z

/-! T3: == of data, operators, calls of builtins, methods -/
namespace Z
open PySem PySem.Spec PyProof.Rows L2 Evl
mutual
def eqD : Da → Da → Bool
  | .non, .non => true
  | .bl a, .bl b => decide (a = b)
  | .bl a, .int j => (if a then 1 else 0) == j
  | .int i, .bl b => i == (if b then 1 else 0)
  | .int i, .int j => decide (i = j)
  | .str a, .str b => decide (a = b)
  | .tup a, .tup b => eqL a b
  | .lst a, .lst b => eqL a b
  | _, _ => false
def eqL : List Da → List Da → Bool
  | [], [] => true
  | x :: xs, y :: ys => eqD x y && eqL xs ys
  | _, _ => false
end
/-! plain: None, truths, ints, texts, tuples and lists of such -/
mutual
def plD : Da → Bool
  | .non => true
  | .bl _ => true
  | .int _ => true
  | .str _ => true
  | .tup ds => plL ds
  | .lst ds => plL ds
  | _ => false
def plL : List Da → Bool
  | [] => true
  | d :: ds => plD d && plL ds
end
mutual
def dpD : Da → Nat
  | .tup ds => dpL ds + 1
  | .lst ds => dpL ds + 1
  | _ => 0
def dpL : List Da → Nat
  | [] => 0
  | d :: ds => max (dpD d) (dpL ds)
end
section
variable {K : PySem.W.Frag} {χ φ : List Addr} {H : Hp}
mutual
theorem Rp.det : ∀ {x y : Da} {v : V}, plD x = true → plD y = true → Rp K H φ χ v x → Rp K H φ χ v y → x = y
  | .non, y, v, _, py, hx, hy => by cases hx; cases hy <;> first | rfl | cases py
  | .bl b, y, v, _, py, hx, hy => by cases hx; cases hy <;> first | rfl | cases py
  | .int b, y, v, _, py, hx, hy => by cases hx; cases hy <;> first | rfl | cases py
  | .str b, y, v, _, py, hx, hy => by cases hx; cases hy <;> first | rfl | cases py
  | .tup ds, y, v, px, py, hx, hy => by
    cases hx with
    | tup h1 n1 m1 r1 =>
      cases hy with
      | tup h2 n2 m2 r2 =>
        rw [h1] at h2
        cases h2
        unfold plD at px py
        rw [RpL.det px py r1 r2]
      | lst h2 n2 m2 r2 => rw [h1] at h2; cases h2
      | _ => cases py
  | .lst ds, y, v, px, py, hx, hy => by
    cases hx with
    | lst h1 n1 m1 r1 =>
      cases hy with
      | lst h2 n2 m2 r2 =>
        rw [h1] at h2
        cases h2
        unfold plD at px py
        rw [RpL.det px py r1 r2]
      | tup h2 n2 m2 r2 => rw [h1] at h2; cases h2
      | _ => cases py
  | .ty _, _, _, px, _, _, _ => by cases px
  | .gl _, _, _, px, _, _, _ => by cases px
  | .dct _, _, _, px, _, _, _ => by cases px
  | .obj _ _, _, _, px, _, _, _ => by cases px
  | .kl _, _, _, px, _, _, _ => by cases px
  | .kt _, _, _, px, _, _, _ => by cases px
  | .cell _, _, _, px, _, _, _ => by cases px
  | .exv _ _ _ _, _, _, px, _, _, _ => by cases px
theorem RpL.det : ∀ {xs ys : List Da} {vs : List V}, plL xs = true → plL ys = true → RpL K H φ χ vs xs → RpL K H φ χ vs ys → xs = ys
  | [], ys, vs, _, _, hx, hy => by cases hx; cases hy; rfl
  | x :: xs, ys, vs, px, py, hx, hy => by
    cases hx with
    | cons h1 r1 =>
      cases hy with
      | cons h2 r2 =>
        unfold plL at px py
        rw [Bool.and_eq_true] at px py
        rw [Rp.det px.1 py.1 h1 h2, RpL.det px.2 py.2 r1 r2]
end
mutual
theorem eqD_refl : ∀ {x : Da}, plD x = true → eqD x x = true
  | .non, _ => rfl
  | .bl b, _ => by simp [eqD]
  | .int b, _ => by simp [eqD]
  | .str b, _ => by simp [eqD]
  | .tup ds, p => by unfold plD at p; unfold eqD; exact eqL_refl p
  | .lst ds, p => by unfold plD at p; unfold eqD; exact eqL_refl p
  | .ty _, p => by cases p
  | .gl _, p => by cases p
  | .dct _, p => by cases p
  | .obj _ _, p => by cases p
  | .kl _, p => by cases p
  | .kt _, p => by cases p
  | .cell _, p => by cases p
  | .exv _ _ _ _, p => by cases p
theorem eqL_refl : ∀ {xs : List Da}, plL xs = true → eqL xs xs = true
  | [], _ => rfl
  | x :: xs, p => by
    unfold plL at p
    rw [Bool.and_eq_true] at p
    unfold eqL
    rw [eqD_refl p.1, eqL_refl p.2]
    rfl
end
theorem eqL_len : ∀ {xs ys : List Da}, xs.length ≠ ys.length → eqL xs ys = false
  | [], [], h => absurd rfl h
  | [], _ :: _, _ => rfl
  | _ :: _, [], _ => rfl
  | x :: xs, y :: ys, h => by
    unfold eqL
    rw [eqL_len (xs := xs) (ys := ys) (fun e => h (by rw [List.length_cons, List.length_cons, e])), Bool.and_false]
def eqZs : List Da → List Da → List Bool
  | x :: xs, y :: ys => eqD x y :: eqZs xs ys
  | _, _ => []
theorem eqZs_all : ∀ {xs ys : List Da}, ((eqZs xs ys).all id && decide (xs.length = ys.length)) = eqL xs ys
  | [], [] => rfl
  | [], _ :: _ => rfl
  | _ :: _, [] => rfl
  | x :: xs, y :: ys => by
    unfold eqZs eqL
    rw [← eqZs_all (xs := xs) (ys := ys), List.all_cons, List.length_cons, List.length_cons]
    rw [Bool.and_assoc]
    congr 2
    simp
theorem eqZs_run {E : V → V → Bool → Prop} : ∀ {xs ys : List Da} {vs ws : List V}, RpL K H φ χ vs xs → RpL K H φ χ ws ys → (∀ x ∈ xs, ∀ y ∈ ys, ∀ v w, Rp K H φ χ v x → Rp K H φ χ w y → E v w (eqD x y)) → EqZ E vs ws (eqZs xs ys)
  | [], [], _, _, hx, hy, _ => by cases hx; cases hy; exact .nil
  | [], _ :: _, _, _, hx, hy, _ => by cases hx; cases hy; exact .nilL
  | _ :: _, [], _, _, hx, hy, _ => by cases hx; cases hy; exact .nilR
  | x :: xs, y :: ys, _, _, .cons h1 r1, .cons h2 r2, h => .cons (h x (List.mem_cons_self ..) y (List.mem_cons_self ..) _ _ h1 h2) (eqZs_run r1 r2 fun a ha b hb => h a (List.mem_cons_of_mem _ ha) b (List.mem_cons_of_mem _ hb))
theorem plL_mem : ∀ {xs : List Da}, plL xs = true → ∀ x ∈ xs, plD x = true
  | [], _, _, h => by cases h
  | x :: xs, p, y, h => by
    unfold plL at p
    rw [Bool.and_eq_true] at p
    rcases List.mem_cons.1 h with rfl | h
    · exact p.1
    · exact plL_mem p.2 y h
theorem dpL_mem : ∀ {xs : List Da} {x : Da}, x ∈ xs → dpD x ≤ dpL xs
  | [], _, h => by cases h
  | y :: ys, x, h => by
    unfold dpL
    rcases List.mem_cons.1 h with rfl | h
    · exact Nat.le_max_left ..
    · exact Nat.le_trans (dpL_mem h) (Nat.le_max_right ..)
theorem scR {E : V → V → Bool → Prop} {v w : V} {b : Bool} (h : scB v w = true) (e : decide (v = w) = b) : EqR K H E v w b := by
  rw [← e]
  exact .sc h
theorem eqR_of : ∀ (n : Nat) {x y : Da} {v w : V}, plD x = true → plD y = true → dpD x ≤ n → dpD y ≤ n → Rp K H φ χ v x → Rp K H φ χ w y → EqR K H (EqI K H n) v w (eqD x y) := by
  intro n
  induction n with
  | zero =>
    intro x y v w px py dx dy hx hy
    have bi : ∀ (a b : Bool), decide (V.bl a = V.bl b) = decide (a = b) := fun a b => by simp
    cases hx <;> first | (exfalso; unfold dpD at dx; omega) | (cases px; done) | skip
    all_goals cases hy <;> first | (exfalso; unfold dpD at dy; omega) | (cases py; done) | skip
    all_goals unfold eqD
    all_goals first
      | exact .bi _ _
      | exact .ib _ _
      | exact scR rfl (by simp)
  | succ n ih =>
    have item : ∀ {x y : Da} {v w : V}, plD x = true → plD y = true → dpD x ≤ n → dpD y ≤ n → Rp K H φ χ v x → Rp K H φ χ w y → EqI K H (n + 1) v w (eqD x y) := by
      intro x y v w px py dx dy hx hy
      by_cases same : ∃ a, v = .ref a ∧ w = .ref a
      · obtain ⟨a, rfl, rfl⟩ := same
        have e := Rp.det px py hx hy
        subst e
        exact .inl ⟨a, rfl, rfl, eqD_refl px⟩
      · exact .inr ⟨ih px py dx dy hx hy, fun a e1 e2 => same ⟨a, e1, e2⟩⟩
    have items : ∀ {xs ys : List Da} {vs ws : List V}, plL xs = true → plL ys = true → dpL xs ≤ n → dpL ys ≤ n → RpL K H φ χ vs xs → RpL K H φ χ ws ys → EqZ (EqI K H (n + 1)) vs ws (eqZs xs ys) := by
      intro xs ys vs ws px py dx dy hx hy
      exact eqZs_run hx hy fun x h1 y h2 v w h3 h4 => item (plL_mem px x h1) (plL_mem py y h2) (Nat.le_trans (dpL_mem h1) dx) (Nat.le_trans (dpL_mem h2) dy) h3 h4
    intro x y v w px py dx dy hx hy
    cases hx <;> first | (cases px; done) | skip
    all_goals cases hy <;> first | (cases py; done) | skip
    all_goals unfold eqD
    all_goals first
      | exact .bi _ _
      | exact .ib _ _
      | exact scR rfl (by simp)
      | skip
    all_goals first
      | exact .ts (SqT.of (by assumption)) rfl
      | exact .st (SqT.of (by assumption)) rfl
      | exact .ls (SqL.of (by assumption)) rfl
      | exact .sl (SqL.of (by assumption)) rfl
      | exact .lt (SqL.of (by assumption)) (SqT.of (by assumption))
      | exact .tl (SqT.of (by assumption)) (SqL.of (by assumption))
      | skip
    · rename_i a vs ds h1 n1 m1 r1 b ws es h2 n2 m2 r2
      unfold plD at px py
      unfold dpD at dx dy
      rw [← eqZs_all, ← r1.len, ← r2.len]
      exact .tup (SqT.of h1) (SqT.of h2) (items px py (by omega) (by omega) r1 r2)
    · rename_i a vs ds h1 n1 m1 r1 b ws es h2 n2 m2 r2
      unfold plD at px py
      unfold dpD at dx dy
      by_cases l : vs.length = ws.length
      · have q := EqR.lst (K := K) (H := H) (SqL.of h1) (SqL.of h2) l (items px py (by omega) (by omega) r1 r2)
        rw [← eqZs_all, decide_eq_true (by rw [← r1.len, ← r2.len]; exact l), Bool.and_true]
        exact q
      · rw [eqL_len (by rw [← r1.len, ← r2.len]; exact l)]
        exact .ll (SqL.of h1) (SqL.of h2) l
theorem eqI_of {n : Nat} {x y : Da} {v w : V} (px : plD x = true) (py : plD y = true) (dx : dpD x ≤ n) (dy : dpD y ≤ n) (hx : Rp K H φ χ v x) (hy : Rp K H φ χ w y) : EqI K H (n + 1) v w (eqD x y) := by
  by_cases same : ∃ a, v = .ref a ∧ w = .ref a
  · obtain ⟨a, rfl, rfl⟩ := same
    have e := Rp.det px py hx hy
    subst e
    exact .inl ⟨a, rfl, rfl, eqD_refl px⟩
  · exact .inr ⟨eqR_of n px py dx dy hx hy, fun a e1 e2 => same ⟨a, e1, e2⟩⟩
end
end Z

/-! T4: operators, builtins, methods -/
namespace Z
open PySem PySem.Spec PyProof.Rows L2 Evl
section
variable {K : PySem.W.Frag} {χ φ : List Addr} {H : Hp} {M : Mem} {v : V} {d : Da}
mutual
theorem Rp.weak : ∀ {v : V} {d : Da}, plD d = true → Rp K H φ χ v d → Rp K H [] [] v d
  | _, .non, _, h => by cases h; exact .non
  | _, .bl b, _, h => by cases h; exact .bl b
  | _, .int b, _, h => by cases h; exact .int b
  | _, .str b, _, h => by cases h with | str h => exact .str h
  | _, .tup ds, p, h => by
    cases h with
    | tup h n m r => unfold plD at p; exact .tup h (by simp) (by simp) (RpL.weak p r)
  | _, .lst ds, p, h => by
    cases h with
    | lst h n m r => unfold plD at p; exact .lst h (by simp) (by simp) (RpL.weak p r)
  | _, .ty _, p, _ => by cases p
  | _, .gl _, p, _ => by cases p
  | _, .dct _, p, _ => by cases p
  | _, .obj _ _, p, _ => by cases p
  | _, .kl _, p, _ => by cases p
  | _, .kt _, p, _ => by cases p
  | _, .cell _, p, _ => by cases p
  | _, .exv _ _ _ _, p, _ => by cases p
theorem RpL.weak : ∀ {v : List V} {d : List Da}, plL d = true → RpL K H φ χ v d → RpL K H [] [] v d
  | _, [], _, h => by cases h; exact .nil
  | _, d :: ds, p, h => by
    cases h with
    | cons h r =>
      unfold plL at p
      rw [Bool.and_eq_true] at p
      exact .cons (Rp.weak p.1 h) (RpL.weak p.2 r)
end
theorem weakE (m : Mm K H φ χ M) (h : Rp K H φ χ v d) (p : plD (lookE M d) = true) : Rp K H [] [] v (lookE M d) := by
  cases h with
  | cell h =>
    obtain ⟨d, e1, _, c⟩ := m.look h
    have e2 : lookE M (.cell _) = d := e1
    rw [e2] at p ⊢
    cases d with
    | lst ds =>
      obtain ⟨vs, q, r⟩ := c
      unfold plD at p
      exact .lst q (by simp) (by simp) (RpL.weak p r)
    | dct _ => cases p
    | obj _ _ => cases p
    | gl _ => cases p
    | _ => exact c.elim
  | klR h q n m r => cases p
  | klK h r => cases p
  | ktK h r => cases p
  | non => exact .non
  | bl b => exact .bl b
  | int i => exact .int i
  | str h => exact .str h
  | tup h n m r => exact Rp.weak p (.tup h n m r)
  | lst h n m r => exact Rp.weak p (.lst h n m r)
  | _ => cases p

/-- plain and not too deep -/
def pd (d : Da) : Prop := plD d = true ∧ dpD d ≤ 59
def pdL (ds : List Da) : Prop := plL ds = true ∧ dpL ds ≤ 59
def nEq : MO := fun x y M Q => pd (lookE M x) ∧ pd (lookE M y) ∧ Q (.bl (eqD (lookE M x) (lookE M y))) M
def nNe : MO := fun x y M Q => pd (lookE M x) ∧ pd (lookE M y) ∧ Q (.bl (!eqD (lookE M x) (lookE M y))) M
theorem O_eq : SO K (rEqA K) nEq := by
  intro χ H φ M x y dx dy Q Q' m hx hy f ⟨p1, p2, q⟩
  exact .inr (.inl ⟨_, eqR_of 60 p1.1 p2.1 (by have := p1.2; omega) (by have := p2.2; omega) (weakE m hx p1.1) (weakE m hy p2.1), f.pure m (.bl _) q⟩)
theorem O_ne : SO K (rNeA K) nNe := by
  intro χ H φ M x y dx dy Q Q' m hx hy f ⟨p1, p2, q⟩
  exact .inr (.inl ⟨_, eqR_of 60 p1.1 p2.1 (by have := p1.2; omega) (by have := p2.2; omega) (weakE m hx p1.1) (weakE m hy p2.1), f.pure m (.bl _) q⟩)
theorem strApp (a b : Str) : (a ++ b).length = a.length + b.length := by
  show (a.cps ++ b.cps).size = _
  rw [Array.size_append]
  rfl
def nAdd : MO := fun x y M Q => match x, y with
  | .int i, .int j => Q (.int (i + j)) M
  | .str a, .str b => a.length + b.length ≤ sizeLine ∧ Q (.str (a ++ b)) M
  | x, y => match lookE M x, lookE M y with
    | .lst a, .lst b => a.length + b.length ≤ sizeLine ∧ Q (.lst (a ++ b)) M
    | .tup a, .tup b => a.length + b.length ≤ sizeLine ∧ a ≠ [] ∧ b ≠ [] ∧ Q (.tup (a ++ b)) M
    | _, _ => False
theorem O_add : SO K (rAddA K) nAdd := by
  intro χ H φ M x y dx dy Q Q' m hx hy f h
  unfold nAdd at h
  split at h
  · obtain rfl := vInt hx
    obtain rfl := vInt hy
    exact .inl ⟨_, _, rfl, rfl, f.pure m (.int _) h⟩
  · obtain ⟨rfl, _⟩ := vStr hx
    obtain ⟨rfl, _⟩ := vStr hy
    exact .inr (.inl ⟨_, _, rfl, rfl, h.1, f.pure m (.str (by rw [strApp]; exact h.1)) h.2⟩)
  · split at h
    · rename_i a b e1 e2
      obtain ⟨p, vs, rfl, h1, r1⟩ := vLE m hx e1
      obtain ⟨q, ws, rfl, h2, r2⟩ := vLE m hy e2
      refine .inr (.inr (.inl ⟨p, q, vs, ws, rfl, rfl, h1, h2, by rw [r1.len, r2.len]; exact h.1, fun n hn => f.lst m (r1.app r2) hn h.2⟩))
    · rename_i a b e1 e2
      obtain ⟨p, vs, rfl, h1, r1⟩ := vTE m hx e1
      obtain ⟨q, ws, rfl, h2, r2⟩ := vTE m hy e2
      refine .inr (.inr (.inr ⟨p, q, vs, ws, rfl, rfl, SqT.of h1, SqT.of h2, by rw [r1.len, r2.len]; exact h.1, fun e => ?_, fun _ e => ?_, fun _ _ n hn => f.tup m (r1.app r2) hn h.2.2.2⟩))
      · subst e
        cases r1
        exact absurd rfl h.2.1
      · subst e
        cases r2
        exact absurd rfl h.2.2.1
    · exact h.elim
def nSub : MO := fun x y M Q => match x, y with
  | .int i, .int j => Q (.int (i - j)) M
  | _, _ => False
theorem O_sub : SO K rSubA nSub := by
  intro χ H φ M x y dx dy Q Q' m hx hy f h
  unfold nSub at h
  split at h
  · obtain rfl := vInt hx
    obtain rfl := vInt hy
    exact ⟨_, _, rfl, rfl, f.pure m (.int _) h⟩
  · exact h.elim
def nMul : MO := fun x y M Q => match x, y with
  | .int i, .int j => CMulW i j ∧ Q (.int (i * j)) M
  | .str z, .int n => MulOk z n ∧ (Txt.mul z n).length ≤ sizeLine ∧ Q (.str (Txt.mul z n)) M
  | .lst es, .int n => -(2 ^ 63) ≤ n ∧ n < 2 ^ 63 ∧ es.length * n.toNat ≤ 1000000 ∧ Q (.lst (List.replicate n.toNat es).flatten) M
  | _, _ => False
theorem RpL.rep {vs : List V} {ds : List Da} (r : RpL K H φ χ vs ds) : ∀ n : Nat, RpL K H φ χ (List.replicate n vs).flatten (List.replicate n ds).flatten
  | 0 => .nil
  | n + 1 => by
    rw [List.replicate_succ, List.replicate_succ, List.flatten_cons, List.flatten_cons]
    exact r.app (r.rep n)
theorem O_mul : SO K rMulA nMul := by
  intro χ H φ M x y dx dy Q Q' m hx hy f h
  unfold nMul at h
  split at h
  · obtain rfl := vInt hx
    obtain rfl := vInt hy
    exact .inl ⟨_, _, rfl, rfl, h.1, f.pure m (.int _) h.2⟩
  · obtain ⟨rfl, _⟩ := vStr hx
    obtain rfl := vInt hy
    exact .inr (.inl ⟨_, _, rfl, rfl, h.1, f.pure m (.str h.2.1) h.2.2⟩)
  · obtain rfl := vInt hy
    cases hx with
    | lst h1 h2 h3 r =>
      exact .inr (.inr ⟨_, _, _, rfl, rfl, h1, h.1, h.2.1, by rw [r.len, sizeLine_eq]; omega, fun p hp => f.lst m (r.rep _) hp h.2.2.2⟩)
  · exact h.elim
def nDiv : MO := fun x y M Q => match x, y with
  | .int i, .int j => CDivW i j ∧ Q (.int (i / j)) M
  | _, _ => False
theorem O_div : SO K rDivA nDiv := by
  intro χ H φ M x y dx dy Q Q' m hx hy f h
  unfold nDiv at h
  split at h
  · obtain rfl := vInt hx
    obtain rfl := vInt hy
    exact ⟨_, _, rfl, rfl, h.1, f.pure m (.int _) h.2⟩
  · exact h.elim
def nMod : MO := fun x y M Q => match x, y with
  | .int i, .int j => 0 < j ∧ Q (.int (i % j)) M
  | _, _ => False
theorem O_mod : SO K rModA nMod := by
  intro χ H φ M x y dx dy Q Q' m hx hy f h
  unfold nMod at h
  split at h
  · obtain rfl := vInt hx
    obtain rfl := vInt hy
    exact ⟨_, _, rfl, rfl, h.1, f.pure m (.int _) h.2⟩
  · exact h.elim
def nPow : MO := fun x y M Q => match x, y with
  | .int i, .int j => CPow i j ∧ Q (.int (i ^ j.toNat)) M
  | _, _ => False
theorem O_pow : SO K rPowA nPow := by
  intro χ H φ M x y dx dy Q Q' m hx hy f h
  unfold nPow at h
  split at h
  · obtain rfl := vInt hx
    obtain rfl := vInt hy
    exact ⟨_, _, rfl, rfl, h.1, f.pure m (.int _) h.2⟩
  · exact h.elim
def ltS (i j : Str) : Bool := decide (i.cps.toList < j.cps.toList)
def nLt : MO := fun x y M Q => match x, y with
  | .int i, .int j => Q (.bl (decide (i < j))) M
  | .str i, .str j => Q (.bl (ltS i j)) M
  | _, _ => False
def nLe : MO := fun x y M Q => match x, y with
  | .int i, .int j => Q (.bl (decide (i ≤ j))) M
  | .str i, .str j => Q (.bl (!ltS j i)) M
  | _, _ => False
def nGt : MO := fun x y M Q => match x, y with
  | .int i, .int j => Q (.bl (decide (j < i))) M
  | .str i, .str j => Q (.bl (ltS j i)) M
  | _, _ => False
def nGe : MO := fun x y M Q => match x, y with
  | .int i, .int j => Q (.bl (decide (j ≤ i))) M
  | .str i, .str j => Q (.bl (!ltS i j)) M
  | _, _ => False
theorem O_lt : SO K rLtA nLt := by
  intro χ H φ M x y dx dy Q Q' m hx hy f h
  unfold nLt at h
  split at h
  · obtain rfl := vInt hx
    obtain rfl := vInt hy
    exact .inl ⟨_, _, rfl, rfl, f.pure m (.bl _) h⟩
  · obtain ⟨rfl, _⟩ := vStr hx
    obtain ⟨rfl, _⟩ := vStr hy
    exact .inr ⟨_, _, rfl, rfl, f.pure m (.bl _) h⟩
  · exact h.elim
theorem O_le : SO K rLeA nLe := by
  intro χ H φ M x y dx dy Q Q' m hx hy f h
  unfold nLe at h
  split at h
  · obtain rfl := vInt hx
    obtain rfl := vInt hy
    exact .inl ⟨_, _, rfl, rfl, f.pure m (.bl _) h⟩
  · obtain ⟨rfl, _⟩ := vStr hx
    obtain ⟨rfl, _⟩ := vStr hy
    exact .inr ⟨_, _, rfl, rfl, f.pure m (.bl _) h⟩
  · exact h.elim
theorem O_gt : SO K rGtA nGt := by
  intro χ H φ M x y dx dy Q Q' m hx hy f h
  unfold nGt at h
  split at h
  · obtain rfl := vInt hx
    obtain rfl := vInt hy
    exact .inl ⟨_, _, rfl, rfl, f.pure m (.bl _) h⟩
  · obtain ⟨rfl, _⟩ := vStr hx
    obtain ⟨rfl, _⟩ := vStr hy
    exact .inr ⟨_, _, rfl, rfl, f.pure m (.bl _) h⟩
  · exact h.elim
theorem O_ge : SO K rGeA nGe := by
  intro χ H φ M x y dx dy Q Q' m hx hy f h
  unfold nGe at h
  split at h
  · obtain rfl := vInt hx
    obtain rfl := vInt hy
    exact .inl ⟨_, _, rfl, rfl, f.pure m (.bl _) h⟩
  · obtain ⟨rfl, _⟩ := vStr hx
    obtain ⟨rfl, _⟩ := vStr hy
    exact .inr ⟨_, _, rfl, rfl, f.pure m (.bl _) h⟩
  · exact h.elim
def nonD : Da → Bool
  | .non => true
  | _ => false
theorem Rp.nonD (h : Rp K H φ χ v d) : decide (v = .non) = nonD d := by
  cases h <;> rfl
def nIs : MO := fun x y M Q => match y with
  | .non => Q (.bl (nonD x)) M
  | .bl b => match x with
    | .bl a => Q (.bl (decide (a = b))) M
    | _ => False
  | _ => False
def nIsnt : MO := fun x y M Q => match y with
  | .non => Q (.bl (!nonD x)) M
  | .bl b => match x with
    | .bl a => Q (.bl (!decide (a = b))) M
    | _ => False
  | _ => False
theorem O_is : SO K rIsA nIs := by
  intro χ H φ M x y dx dy Q Q' m hx hy f h
  unfold nIs at h
  split at h
  · obtain rfl := vNon hy
    exact .inl ⟨rfl, by rw [hx.nonD]; exact f.pure m (.bl _) h⟩
  · split at h
    · obtain rfl := vBl hx
      obtain rfl := vBl hy
      exact .inr (.inl ⟨_, _, rfl, rfl, f.pure m (.bl _) h⟩)
    · exact h.elim
  · exact h.elim
theorem O_isnt : SO K rNotA nIsnt := by
  intro χ H φ M x y dx dy Q Q' m hx hy f h
  unfold nIsnt at h
  split at h
  · obtain rfl := vNon hy
    exact .inl ⟨rfl, by rw [hx.nonD]; exact f.pure m (.bl _) h⟩
  · split at h
    · obtain rfl := vBl hx
      obtain rfl := vBl hy
      exact .inr (.inl ⟨_, _, rfl, rfl, f.pure m (.bl _) h⟩)
    · exact h.elim
  · exact h.elim
/-! dicts -/
def keyD : Da → Option Key
  | .int i => some (.inl i)
  | .str s => some (.inr s)
  | _ => none
def valD {κ : Type} [DecidableEq κ] (kds : List (κ × Da)) (k : κ) : Option Da := (kds.find? fun kv => decide (kv.1 = k)).map (·.2)
def putD (kds : List (Key × Da)) (k : Key) (d : Da) : List (Key × Da) := if (kds.any fun kv => decide (kv.1 = k)) = true then kds.map (fun kv => if kv.1 = k then (kv.1, d) else kv) else kds ++ [(k, d)]
theorem keyD_of {k : Key} (h : Rp K H φ χ v d) (e : keyD d = some k) : v = kV k := by
  cases h <;> cases e <;> rfl
theorem RpK.val {k : Key} : ∀ {kvs : List (Key × V)} {kds : List (Key × Da)}, RpK K H φ χ kvs kds → (valV kvs k = none ∧ valD kds k = none) ∨ ∃ v d, valV kvs k = some v ∧ valD kds k = some d ∧ Rp K H φ χ v d
  | _, _, .nil => .inl ⟨rfl, rfl⟩
  | _, _, .cons (k := j) (v := v) (d := d) h r => by
    by_cases e : j = k
    · exact .inr ⟨v, d, by simp [valV, e], by simp [valD, e], h⟩
    · have := r.val (k := k)
      simpa [valV, valD, e] using this
theorem RpK.any {k : Key} : ∀ {kvs : List (Key × V)} {kds : List (Key × Da)}, RpK K H φ χ kvs kds → (kvs.any fun kv => decide (kv.1 = k)) = (kds.any fun kv => decide (kv.1 = k))
  | _, _, .nil => rfl
  | _, _, .cons _ r => by rw [List.any_cons, List.any_cons, r.any]
theorem RpK.snoc {k : Key} (h : Rp K H φ χ v d) : ∀ {kvs : List (Key × V)} {kds : List (Key × Da)}, RpK K H φ χ kvs kds → RpK K H φ χ (kvs ++ [(k, v)]) (kds ++ [(k, d)])
  | _, _, .nil => .cons h .nil
  | _, _, .cons q r => .cons q (RpK.snoc h r)
theorem RpK.map {k : Key} (h : Rp K H φ χ v d) : ∀ {kvs : List (Key × V)} {kds : List (Key × Da)}, RpK K H φ χ kvs kds → RpK K H φ χ (kvs.map (fun kv => if kv.1 = k then (kv.1, v) else kv)) (kds.map (fun kv => if kv.1 = k then (kv.1, d) else kv))
  | _, _, .nil => .nil
  | _, _, .cons (k := j) q r => by
    by_cases e : j = k
    · simp only [List.map_cons, e, if_true]
      exact .cons h (RpK.map h r)
    · simp only [List.map_cons, e, if_false]
      exact .cons q (RpK.map h r)
theorem RpK.put {k : Key} {kvs : List (Key × V)} {kds : List (Key × Da)} (r : RpK K H φ χ kvs kds) (h : Rp K H φ χ v d) : RpK K H φ χ (putK kvs k v) (putD kds k d) := by
  unfold putK putD
  rw [r.any (k := k)]
  split
  · exact r.map h
  · exact r.snoc h
/-! membership -/
def inS (a z : Str) : Bool := match a.cps.toList with
  | [c] => decide (c ∈ z.cps.toList)
  | _ => !(Builtin.Str.occurrences z a 0 z.length 1).isEmpty
def anyEq (x : Da) (ds : List Da) : Bool := ds.any fun z => eqD z x
def nInR (x y : Da) (M : Mem) (R : Bool → Prop) : Prop := match look M y with
  | .lst ds => pdL ds ∧ pd (lookE M x) ∧ R (anyEq (lookE M x) ds)
  | .tup ds => pdL ds ∧ pd (lookE M x) ∧ R (anyEq (lookE M x) ds)
  | .dct kds => ∃ k, keyD x = some k ∧ R (valD kds k).isSome
  | .str z => match x with
    | .str a => R (inS a z)
    | _ => False
  | _ => False
def nIn : MO := fun x y M Q => nInR x y M fun b => Q (.bl b) M
def nNin : MO := fun x y M Q => nInR x y M fun b => Q (.bl (!b)) M
theorem anyEq_of {x : V} {dx : Da} (hx : Rp K H [] [] x dx) (px : pd dx) : ∀ {vs : List V} {ds : List Da}, pdL ds → RpL K H φ χ vs ds → ∃ g : V → Bool, (∀ z ∈ vs, EqI K H 60 z x (g z)) ∧ vs.any g = anyEq dx ds := by
  have item : ∀ {z : V} {d : Da}, plD d = true → dpD d ≤ 59 → Rp K H φ χ z d → EqI K H 60 z x (eqD d dx) := fun p1 p2 r => eqI_of p1 px.1 p2 px.2 (Rp.weak p1 r) hx
  intro vs ds p r
  -- one answer an address
  have one : ∀ {z : V} {d e : Da}, plD d = true → plD e = true → Rp K H φ χ z d → Rp K H φ χ z e → d = e := fun p1 p2 r1 r2 => Rp.det p1 p2 r1 r2
  classical
  refine ⟨fun z => if h : ∃ d ∈ ds, Rp K H φ χ z d then eqD h.choose dx else false, fun z hz => ?_, ?_⟩
  · obtain ⟨d, hd, rd⟩ := r.mem z hz
    have h : ∃ d ∈ ds, Rp K H φ χ z d := ⟨d, hd, rd⟩
    show EqI K H 60 z x (if h : ∃ d ∈ ds, Rp K H φ χ z d then eqD h.choose dx else false)
    rw [dif_pos h]
    exact item (plL_mem p.1 _ h.choose_spec.1) (Nat.le_trans (dpL_mem h.choose_spec.1) p.2) h.choose_spec.2
  · have go : ∀ {us : List V} {es : List Da}, (∀ e ∈ es, e ∈ ds) → RpL K H φ χ us es → (us.any fun z => if h : ∃ d ∈ ds, Rp K H φ χ z d then eqD h.choose dx else false) = anyEq dx es := by
      intro us es hs r
      induction us generalizing es with
      | nil => cases r; rfl
      | cons u us ih =>
        cases r with
        | cons h1 r1 =>
          rename_i d es
          unfold anyEq
          rw [List.any_cons, List.any_cons]
          have h : ∃ d ∈ ds, Rp K H φ χ u d := ⟨d, hs d (List.mem_cons_self ..), h1⟩
          rw [dif_pos h, one (plL_mem p.1 _ h.choose_spec.1) (plL_mem p.1 _ (hs d (List.mem_cons_self ..))) h.choose_spec.2 h1]
          congr 1
          exact ih (fun e he => hs e (List.mem_cons_of_mem _ he)) r1
    exact go (fun e he => he) r
theorem vS (m : Mm K H φ χ M) (h : Rp K H φ χ v d) {z : Str} (e : look M d = .str z) : v = .str z ∧ z.length ≤ sizeLine := by
  cases h with
  | str h => cases e; exact ⟨rfl, h⟩
  | cell h =>
    obtain ⟨d, e1, _, c⟩ := m.look h
    have e2 : M.getD _ (.gl "") = Da.str z := e
    rw [e1] at e2
    subst e2
    exact c.elim
  | _ => cases e
theorem nInR_run {x y : V} {dx dy : Da} {R : Bool → Prop} (m : Mm K H φ χ M) (hx : Rp K H φ χ x dx) (hy : Rp K H φ χ y dy) (h : nInR dx dy M R) :
    ∃ b, R b ∧ ((∃ (p : Addr) (xs : List V) (g : V → Bool), y = .ref p ∧ (SqL K H p xs ∨ SqT K H p xs) ∧ (∀ z ∈ xs, EqI K H 60 z x (g z)) ∧ b = xs.any g) ∨ (∃ a o, y = .ref a ∧ DGet H a x o ∧ b = o.isSome) ∨
      (∃ (c : Nat) (z : Str), x = .str ⟨#[c]⟩ ∧ y = .str z ∧ b = decide (c ∈ z.cps.toList)) ∨ ∃ i j, x = .str i ∧ y = .str j ∧ b = !(Builtin.Str.occurrences j i 0 j.length 1).isEmpty) := by
  unfold nInR at h
  split at h
  · rename_i ds e
    obtain ⟨p1, p2, q⟩ := h
    obtain ⟨a, vs, rfl, hs, r⟩ := vL m hy e
    obtain ⟨g, g1, g2⟩ := anyEq_of (weakE m hx p2.1) p2 p1 r
    exact ⟨_, q, .inl ⟨a, vs, g, rfl, .inl hs, g1, g2.symm⟩⟩
  · rename_i ds e
    obtain ⟨p1, p2, q⟩ := h
    obtain ⟨a, vs, rfl, hs, r⟩ := vT m hy e
    obtain ⟨g, g1, g2⟩ := anyEq_of (weakE m hx p2.1) p2 p1 r
    exact ⟨_, q, .inl ⟨a, vs, g, rfl, .inr hs, g1, g2.symm⟩⟩
  · rename_i kds e
    obtain ⟨k, hk, q⟩ := h
    obtain ⟨a, kvs, rfl, hs, r⟩ := vD m hy e
    refine ⟨_, q, .inr (.inl ⟨a, valV kvs k, rfl, .inl ⟨kvs, k, hs, keyD_of hx hk, rfl⟩, ?_⟩)⟩
    rcases r.val (k := k) with ⟨e1, e2⟩ | ⟨v, d, e1, e2, _⟩
    · rw [e1, e2]; rfl
    · rw [e1, e2]; rfl
  · rename_i z e
    obtain ⟨rfl, _⟩ := vS m hy e
    split at h
    · rename_i a
      obtain ⟨rfl, _⟩ := vStr hx
      refine ⟨_, h, .inr (.inr ?_)⟩
      unfold inS
      split
      · rename_i c hc
        refine .inl ⟨c, z, ?_, rfl, rfl⟩
        congr 1
        cases a with
        | mk cps => simp at hc ⊢; cases cps; simp_all
      · exact .inr ⟨a, z, rfl, rfl, rfl⟩
    · exact h.elim
  · exact h.elim
theorem O_in : SO K (rInB K) nIn := by
  intro χ H φ M x y dx dy Q Q' m hx hy f h
  obtain ⟨b, q, h⟩ := nInR_run m hx hy h
  have qq := f.pure m (.bl _) q
  rcases h with ⟨p, xs, g, rfl, hs, he, rfl⟩ | ⟨a, o, rfl, g, rfl⟩ | ⟨c, z, rfl, rfl, rfl⟩ | ⟨i, j, rfl, rfl, rfl⟩
  · exact .inr (.inl ⟨p, xs, g, rfl, hs, he, qq⟩)
  · exact .inr (.inr ⟨a, o, rfl, g, qq⟩)
  · exact .inl (.inl ⟨c, z, rfl, rfl, qq⟩)
  · exact .inl (.inr (.inr ⟨i, j, rfl, rfl, qq⟩))
theorem O_nin : SO K (rNinB K) nNin := by
  intro χ H φ M x y dx dy Q Q' m hx hy f h
  obtain ⟨b, q, h⟩ := nInR_run m hx hy h
  have qq := f.pure m (.bl _) q
  rcases h with ⟨p, xs, g, rfl, hs, he, rfl⟩ | ⟨a, o, rfl, g, rfl⟩ | ⟨c, z, rfl, rfl, rfl⟩ | ⟨i, j, rfl, rfl, rfl⟩
  · exact .inr (.inl ⟨p, xs, g, rfl, hs, he, qq⟩)
  · exact .inr (.inr ⟨a, o, rfl, g, qq⟩)
  · exact .inl (.inl ⟨c, z, rfl, rfl, qq⟩)
  · exact .inl (.inr (.inr ⟨i, j, rfl, rfl, qq⟩))
/-! items -/
theorem RpL.atI {vs : List V} {ds : List Da} {i : Int} (r : RpL K H φ χ vs ds) (e : atI ds i = some d) : ∃ v, L2.atI vs i = some v ∧ Rp K H φ χ v d := by
  unfold L2.atI at e ⊢
  rw [r.len]
  cases q : ixN ds.length i with
  | none => rw [q] at e; cases e
  | some j =>
    rw [q] at e
    obtain ⟨v, h1, h2⟩ := r.get (i := j) (d := d) e
    exact ⟨v, h1, h2⟩
def chS (c : Nat) : Da := .str ⟨#[c]⟩
def nIx : MO := fun x y M Q => match look M x with
  | .lst ds => match y with
    | .int i => match atI ds i with
      | some d => Q d M
      | none => False
    | _ => False
  | .tup ds => match y with
    | .int i => match atI ds i with
      | some d => Q d M
      | none => False
    | _ => False
  | .str z => match y with
    | .int i => match atI z.cps.toList i with
      | some c => Q (chS c) M
      | none => False
    | _ => False
  | .dct kds => ∃ k d, keyD y = some k ∧ valD kds k = some d ∧ Q d M
  | _ => False
theorem one_le : (1 : Nat) ≤ sizeLine := by rw [sizeLine_eq]; decide
theorem Rp.ch (c : Nat) : Rp K H φ χ (.str ⟨#[c]⟩) (chS c) := .str one_le
theorem O_ix : SO K (rIxB K) nIx := by
  intro χ H φ M x y dx dy Q Q' m hx hy f h
  unfold nIx at h
  split at h
  · rename_i ds e
    split at h
    · rename_i i
      split at h
      · rename_i d ed
        obtain ⟨a, vs, rfl, hs, r⟩ := vL m hx e
        obtain rfl := vInt hy
        obtain ⟨v, e1, r1⟩ := r.atI ed
        exact .inl (.inl ⟨a, vs, i, v, rfl, rfl, hs, e1, f.pure m r1 h⟩)
      · exact h.elim
    · exact h.elim
  · rename_i ds e
    split at h
    · rename_i i
      split at h
      · rename_i d ed
        obtain ⟨a, vs, rfl, hs, r⟩ := vT m hx e
        obtain rfl := vInt hy
        obtain ⟨v, e1, r1⟩ := r.atI ed
        exact .inl (.inr (.inl ⟨a, vs, i, v, rfl, rfl, hs, e1, f.pure m r1 h⟩))
      · exact h.elim
    · exact h.elim
  · rename_i z e
    split at h
    · rename_i i
      split at h
      · rename_i c ec
        obtain ⟨rfl, hz⟩ := vS m hx e
        obtain rfl := vInt hy
        exact .inl (.inr (.inr ⟨z, i, c, rfl, rfl, hz, ec, f.pure m (.ch c) h⟩))
      · exact h.elim
    · exact h.elim
  · rename_i kds e
    obtain ⟨k, d, hk, hd, q⟩ := h
    obtain ⟨a, kvs, rfl, hs, r⟩ := vD m hx e
    rcases r.val (k := k) with ⟨e1, e2⟩ | ⟨v, d', e1, e2, rd⟩
    · rw [e2] at hd; cases hd
    · rw [e2] at hd
      cases hd
      exact .inr ⟨a, v, rfl, .inl ⟨kvs, k, hs, keyD_of hy hk, e1.symm⟩, f.pure m rd q⟩
  · exact h.elim
/-! slices -/
def cutL {α : Type} (xs : List α) (lo hi : Option Int) : List α := (xs.drop (HT.sIx xs.length 0 lo)).take (HT.sIx xs.length xs.length hi - HT.sIx xs.length 0 lo)
theorem cutS_le (z : Str) (lo hi : Option Int) : (cutS z lo hi).length ≤ z.length := by
  unfold cutS
  show List.length _ ≤ _
  rw [List.length_take, List.length_drop]
  show _ ≤ z.cps.size
  have : z.cps.toList.length = z.cps.size := Array.length_toList
  omega
abbrev MO3 := Da → Option Int → Option Int → Mem → TK → Prop
def nSl : MO3 := fun x lo hi M Q => match look M x with
  | .str z => Q (.str (cutS z lo hi)) M
  | .lst ds => Q (.lst (cutL ds lo hi)) M
  | .tup ds => match x with
    | .tup _ => Q (.tup (cutL ds lo hi)) M
    | _ => False
  | _ => False
def SO3 (K : PySem.W.Frag) (r : V → Option Int → Option Int → Hp → VK → Prop) (n : MO3) : Prop := ∀ {χ H φ M x dx lo hi Q Q'}, Mm K H φ χ M → Rp K H φ χ x dx → FE K χ H φ Q' Q → n dx lo hi M Q' → r x lo hi H Q
theorem O_sl : SO3 K (Z.rSlA K) nSl := by
  intro χ H φ M x dx lo hi Q Q' m hx f h
  unfold nSl at h
  split at h
  · rename_i z e
    obtain ⟨rfl, hz⟩ := vS m hx e
    exact .inl ⟨z, rfl, hz, f.pure m (.str (Nat.le_trans (cutS_le z lo hi) hz)) h⟩
  · rename_i ds e
    obtain ⟨a, vs, rfl, hs, r⟩ := vL m hx e
    refine .inr (.inl ⟨a, vs, rfl, hs, fun p hp => ?_⟩)
    have r2 : RpL K H φ χ (cutV vs lo hi) (cutL ds lo hi) := by
      unfold cutV cutL
      rw [r.len]
      exact (r.drop _).take _
    exact f.lst m r2 hp h
  · rename_i ds e
    split at h
    · rename_i ds'
      cases e
      obtain ⟨a, vs, rfl, hs, r⟩ := vT m hx rfl
      have r2 : RpL K H φ χ (cutV vs lo hi) (cutL ds lo hi) := by
        unfold cutV cutL
        rw [r.len]
        exact (r.drop _).take _
      refine .inr (.inr ⟨a, vs, rfl, hs, fun z => ?_, fun _ p hp => f.tup m r2 hp h⟩)
      have e : cutL ds lo hi = ds := by
        unfold cutL
        rw [← r.len, z.1, z.2, List.drop_zero, Nat.sub_zero, r.len, List.take_length]
      rw [e] at h
      exact f.pure m hx h
    · exact h.elim
  · exact h.elim
end
end Z

/-! T5: calls of builtins, methods, dicts of the module -/
namespace Z
open PySem PySem.Spec PyProof.Rows L2 Evl
section
variable {K : PySem.W.Frag} {χ φ : List Addr} {H : Hp} {M : Mem} {v : V} {d : Da}
theorem RpL.one {vs : List V} (r : RpL K H φ χ vs [d]) : ∃ v, vs = [v] ∧ Rp K H φ χ v d := by
  cases r with
  | cons h r => cases r; exact ⟨_, rfl, h⟩
theorem RpL.two {vs : List V} {e : Da} (r : RpL K H φ χ vs [d, e]) : ∃ v w, vs = [v, w] ∧ Rp K H φ χ v d ∧ Rp K H φ χ w e := by
  cases r with
  | cons h r =>
    obtain ⟨w, rfl, q⟩ := r.one
    exact ⟨_, w, rfl, h, q⟩
def tyDa (M : Mem) : Da → Option String
  | .non => some "NoneType"
  | .bl _ => some "bool"
  | .int _ => some "int"
  | .str _ => some "str"
  | .tup _ => some "tuple"
  | .kt _ => some "tuple"
  | .lst _ => some "list"
  | .dct _ => some "dict"
  | .cell n => match M.getD n (.gl "") with
    | .lst _ => some "list"
    | .dct _ => some "dict"
    | _ => none
  | _ => none
def tyB (T : String) (a : String) : Bool := a == T || (a == "bool" && T == "int")
def tyTs : List String := ["int", "bool", "str", "tuple", "list", "dict"]
def tyNs : List String := ["NoneType", "bool", "int", "str", "tuple", "list", "dict"]
theorem kit_all : (tyTs.all fun T => tyNs.all fun a => decide (kitB a T = some (tyB T a))) = true := by decide +kernel
theorem tyDa_in {a : String} (e : tyDa M d = some a) : a ∈ tyNs := by
  unfold tyDa at e
  split at e
  all_goals first
    | (cases e; simp [tyNs]; done)
    | (split at e <;> first | (cases e; simp [tyNs]; done) | (cases e; done))
    | (cases e; done)
theorem kit_of {T a : String} (hT : T ∈ tyTs) (e : tyDa M d = some a) : kitB a T = some (tyB T a) :=
  of_decide_eq_true (List.all_eq_true.mp (List.all_eq_true.mp kit_all T hT) a (tyDa_in e))
theorem tyDa_X (m : Mm K H φ χ M) (h : Rp K H φ χ v d) {a : String} (e : tyDa M d = some a) : TyX K H v (.type a) := by
  cases h with
  | non => cases e; exact .base .non
  | bl b => cases e; exact .base (.bl b)
  | int i => cases e; exact .base (.int i)
  | str h => cases e; exact .base (.str _)
  | tup h n m r => cases e; exact .base (.tup h)
  | lst h n m r => cases e; exact .base (.lst h)
  | dct h c n m r =>
    cases e
    rename_i o kvs kds
    cases o with
    | dK k => exact .base (.dK h)
    | frz ob u =>
      cases u with
      | dK k => exact .fDict h
      | _ => cases c
    | _ => cases c
  | ktK h r =>
    cases e
    rcases h fun _ => none with h | ⟨o, its, n, hk, hc, _⟩
    · rcases h with h | ⟨ob, h⟩ <;> cases h
    · exact .kTuple hk hc
  | cell h =>
    obtain ⟨d, e1, _, c⟩ := m.look h
    have e2 : (match M.getD _ (.gl "") with | .lst _ => some "list" | .dct _ => some "dict" | _ => none) = some a := e
    rw [e1] at e2
    cases d with
    | lst ds => cases e2; obtain ⟨vs, q, _⟩ := c; exact .base (.lst q)
    | dct ds => cases e2; obtain ⟨vs, q, _⟩ := c; exact .base (.dK q)
    | _ => cases e2
  | _ => cases e
def nIsi : List Da → Mem → TK → Prop := fun ds M Q => match ds with
  | [x, .ty T] => T ∈ tyTs ∧ match tyDa M x with
    | some a => Q (.bl (tyB T a)) M
    | none => False
  | _ => False
theorem C_isi : SC K (rIsi K) nIsi := by
  intro χ H φ M x dx Q Q' m hx f h
  unfold nIsi at h
  split at h
  · rename_i d T
    obtain ⟨v, w, rfl, h1, h2⟩ := hx.two
    cases h2
    obtain ⟨hT, h⟩ := h
    split at h
    · rename_i a e
      exact ⟨v, .ty T, _, _, _, rfl, .ty T, tyDa_X m h1 e, kit_ty (kit_of hT e), f.pure m (.bl _) h⟩
    · exact h.elim
  · exact h.elim
def nLen : List Da → Mem → TK → Prop := fun ds M Q => match ds with
  | [x] => match look M x with
    | .lst ds => Q (.int ds.length) M
    | .tup ds => Q (.int ds.length) M
    | .dct kds => Q (.int kds.length) M
    | .str z => Q (.int z.length) M
    | _ => False
  | _ => False
theorem C_len : SC K (rLenB K) nLen := by
  intro χ H φ M x dx Q Q' m hx f h
  unfold nLen at h
  split at h
  · obtain ⟨v, rfl, h1⟩ := hx.one
    split at h
    · rename_i ds e
      obtain ⟨a, vs, rfl, hs, r⟩ := vL m h1 e
      exact .inl (.inl ⟨_, vs.length, rfl, .inl ⟨vs, hs, rfl⟩, by rw [r.len]; exact f.pure m (.int _) h⟩)
    · rename_i ds e
      obtain ⟨a, vs, rfl, hs, r⟩ := vT m h1 e
      exact .inl (.inl ⟨_, vs.length, rfl, .inr ⟨vs, hs, rfl⟩, by rw [r.len]; exact f.pure m (.int _) h⟩)
    · rename_i ds e
      obtain ⟨a, kvs, rfl, hs, r⟩ := vD m h1 e
      exact .inr ⟨a, kvs, rfl, hs, by rw [r.len]; exact f.pure m (.int _) h⟩
    · rename_i z e
      obtain ⟨rfl, hz⟩ := vS m h1 e
      exact .inl (.inl ⟨_, z.length, rfl, ⟨hz, rfl⟩, f.pure m (.int _) h⟩)
    · exact h.elim
  · exact h.elim
theorem RpL.ints : ∀ {ns : List Int} {vs : List V}, RpL K H φ χ vs (ns.map Da.int) → vs = ns.map V.int
  | [], _, .nil => rfl
  | n :: ns, _, .cons h r => by
    cases h
    rw [RpL.ints r]
    rfl
theorem RpL.bls : ∀ {ns : List Bool} {vs : List V}, RpL K H φ χ vs (ns.map Da.bl) → vs = ns.map V.bl
  | [], _, .nil => rfl
  | n :: ns, _, .cons h r => by
    cases h
    rw [RpL.bls r]
    rfl
theorem RpL.strs : ∀ {ns : List Str} {vs : List V}, RpL K H φ χ vs (ns.map Da.str) → vs = ns.map V.str
  | [], _, .nil => rfl
  | n :: ns, _, .cons h r => by
    cases h
    rw [RpL.strs r]
    rfl
def nMax : List Da → Mem → TK → Prop := fun ds M Q => match ds with
  | [.int i, .int j] => Q (.int (if j > i then j else i)) M
  | [x] => ∃ ns : List Int, look M x = .lst (ns.map Da.int) ∧ 0 < ns.length ∧ ∀ m, m ∈ ns → (∀ y, y ∈ ns → y ≤ m) → Q (.int m) M
  | _ => False
def nMin : List Da → Mem → TK → Prop := fun ds M Q => match ds with
  | [.int i, .int j] => Q (.int (if j < i then j else i)) M
  | [x] => ∃ ns : List Int, look M x = .lst (ns.map Da.int) ∧ 0 < ns.length ∧ ∀ m, m ∈ ns → (∀ y, y ∈ ns → m ≤ y) → Q (.int m) M
  | _ => False
theorem C_max : SC K (rMaxA K) nMax := by
  intro χ H φ M x dx Q Q' m hx f h
  unfold nMax at h
  split at h
  · obtain ⟨v, w, rfl, h1, h2⟩ := hx.two
    cases h1
    cases h2
    exact .inl ⟨_, _, rfl, f.pure m (.int _) h⟩
  · obtain ⟨v, rfl, h1⟩ := hx.one
    obtain ⟨ns, e, hp, q⟩ := h
    obtain ⟨a, vs, rfl, hs, r⟩ := vL m h1 e
    rw [r.ints] at hs
    exact .inr ⟨a, ns, rfl, hs, hp, fun k hk hm => f.pure m (.int _) (q k hk hm)⟩
  · exact h.elim
theorem C_min : SC K (rMinA K) nMin := by
  intro χ H φ M x dx Q Q' m hx f h
  unfold nMin at h
  split at h
  · obtain ⟨v, w, rfl, h1, h2⟩ := hx.two
    cases h1
    cases h2
    exact .inl ⟨_, _, rfl, f.pure m (.int _) h⟩
  · obtain ⟨v, rfl, h1⟩ := hx.one
    obtain ⟨ns, e, hp, q⟩ := h
    obtain ⟨a, vs, rfl, hs, r⟩ := vL m h1 e
    rw [r.ints] at hs
    exact .inr ⟨a, ns, rfl, hs, hp, fun k hk hm => f.pure m (.int _) (q k hk hm)⟩
  · exact h.elim
def blsD : List Da → Option (List Bool)
  | [] => some []
  | .bl b :: ds => (blsD ds).map (b :: ·)
  | _ => none
theorem blsD_of : ∀ {ds : List Da} {bs : List Bool}, blsD ds = some bs → ds = bs.map Da.bl
  | [], bs, e => by cases e; rfl
  | d :: ds, bs, e => by
    cases d with
    | bl b =>
      unfold blsD at e
      cases q : blsD ds with
      | none => rw [q] at e; cases e
      | some cs =>
        rw [q] at e
        cases e
        rw [blsD_of q]
        rfl
    | _ => cases e
theorem blsD_map (bs : List Bool) : blsD (bs.map Da.bl) = some bs := by
  induction bs with
  | nil => rfl
  | cons b bs ih => show (blsD (bs.map Da.bl)).map (b :: ·) = _; rw [ih]; rfl
def nAll : List Da → Mem → TK → Prop := fun ds M Q => match ds with
  | [x] => match look M x with
    | .lst ds => match blsD ds with
      | some bs => Q (.bl (bs.all id)) M
      | none => False
    | _ => False
  | _ => False
def nAny : List Da → Mem → TK → Prop := fun ds M Q => match ds with
  | [x] => match look M x with
    | .lst ds => match blsD ds with
      | some bs => Q (.bl (bs.any id)) M
      | none => False
    | _ => False
  | _ => False
theorem C_all : SC K (rAll K) nAll := by
  intro χ H φ M x dx Q Q' m hx f h
  unfold nAll at h
  split at h
  · obtain ⟨v, rfl, h1⟩ := hx.one
    split at h
    · rename_i ds e
      split at h
      · rename_i bs eb
        obtain ⟨a, vs, rfl, hs, r⟩ := vL m h1 e
        rw [blsD_of eb] at r
        rw [r.bls] at hs
        exact ⟨a, bs, rfl, hs, f.pure m (.bl _) h⟩
      · exact h.elim
    · exact h.elim
  · exact h.elim
theorem C_any : SC K (rAny K) nAny := by
  intro χ H φ M x dx Q Q' m hx f h
  unfold nAny at h
  split at h
  · obtain ⟨v, rfl, h1⟩ := hx.one
    split at h
    · rename_i ds e
      split at h
      · rename_i bs eb
        obtain ⟨a, vs, rfl, hs, r⟩ := vL m h1 e
        rw [blsD_of eb] at r
        rw [r.bls] at hs
        exact ⟨a, bs, rfl, hs, f.pure m (.bl _) h⟩
      · exact h.elim
    · exact h.elim
  · exact h.elim
def seqD (M : Mem) (x : Da) : Option (List Da) := match look M x with
  | .lst ds => some ds
  | .tup ds => some ds
  | _ => none
theorem seqD_of (m : Mm K H φ χ M) (h : Rp K H φ χ v d) {ds : List Da} (e : seqD M d = some ds) : ∃ a vs, v = .ref a ∧ (SqL K H a vs ∨ SqT K H a vs) ∧ RpL K H φ χ vs ds := by
  unfold seqD at e
  split at e
  · rename_i es q
    cases e
    obtain ⟨a, vs, rfl, hs, r⟩ := vL m h q
    exact ⟨a, vs, rfl, .inl hs, r⟩
  · rename_i es q
    cases e
    obtain ⟨a, vs, rfl, hs, r⟩ := vT m h q
    exact ⟨a, vs, rfl, .inr hs, r⟩
  · cases e
def nList : List Da → Mem → TK → Prop := fun ds M Q => match ds with
  | [x] => match seqD M x with
    | some ds => Q (.lst ds) M
    | none => False
  | _ => False
theorem C_list : SC K (rListA K) nList := by
  intro χ H φ M x dx Q Q' m hx f h
  unfold nList at h
  split at h
  · obtain ⟨v, rfl, h1⟩ := hx.one
    split at h
    · rename_i ds e
      obtain ⟨a, vs, rfl, hs, r⟩ := seqD_of m h1 e
      exact ⟨a, vs, rfl, hs, fun l hl => f.lst m r hl h⟩
    · exact h.elim
  · exact h.elim
def nTupC : List Da → Mem → TK → Prop := fun ds M Q => match ds with
  | [x] => match look M x with
    | .lst ds => Q (.tup ds) M
    | .tup _ => Q x M
    | _ => False
  | _ => False
theorem C_tup : SC K (rTupA K) nTupC := by
  intro χ H φ M x dx Q Q' m hx f h
  unfold nTupC at h
  split at h
  · obtain ⟨v, rfl, h1⟩ := hx.one
    split at h
    · rename_i ds e
      obtain ⟨a, vs, rfl, hs, r⟩ := vL m h1 e
      exact ⟨a, vs, rfl, .inl ⟨hs, fun l hl => f.tup m r hl h⟩⟩
    · rename_i ds e
      obtain ⟨a, vs, rfl, hs, r⟩ := vT m h1 e
      exact ⟨a, vs, rfl, .inr ⟨hs, f.pure m h1 h⟩⟩
    · exact h.elim
  · exact h.elim
def nInt : List Da → Mem → TK → Prop := fun ds M Q => match ds with
  | [.int i] => Q (.int i) M
  | [.bl k] => Q (.int (if k then 1 else 0)) M
  | _ => False
theorem C_int : SC K rIntA nInt := by
  intro χ H φ M x dx Q Q' m hx f h
  unfold nInt at h
  split at h
  · obtain ⟨v, rfl, h1⟩ := hx.one
    obtain rfl := vInt h1
    exact .inl ⟨_, rfl, f.pure m (.int _) h⟩
  · obtain ⟨v, rfl, h1⟩ := hx.one
    obtain rfl := vBl h1
    exact .inr ⟨_, rfl, f.pure m (.int _) h⟩
  · exact h.elim
def nStr : List Da → Mem → TK → Prop := fun ds M Q => match ds with
  | [.int i] => i.natAbs.log2 < 1920 ∧ (toString i : Str).length ≤ sizeLine ∧ Q (.str (toString i)) M
  | [.str k] => Q (.str k) M
  | _ => False
theorem C_str : SC K rStrA nStr := by
  intro χ H φ M x dx Q Q' m hx f h
  unfold nStr at h
  split at h
  · obtain ⟨v, rfl, h1⟩ := hx.one
    obtain rfl := vInt h1
    exact .inl ⟨_, rfl, h.1, f.pure m (.str h.2.1) h.2.2⟩
  · obtain ⟨v, rfl, h1⟩ := hx.one
    obtain ⟨rfl, hz⟩ := vStr h1
    exact .inr ⟨_, rfl, f.pure m (.str hz) h⟩
  · exact h.elim
/-! methods -/
def strsD : List Da → Option (List Str)
  | [] => some []
  | .str b :: ds => (strsD ds).map (b :: ·)
  | _ => none
theorem strsD_of : ∀ {ds : List Da} {bs : List Str}, strsD ds = some bs → ds = bs.map Da.str
  | [], bs, e => by cases e; rfl
  | d :: ds, bs, e => by
    cases d with
    | str b =>
      unfold strsD at e
      cases q : strsD ds with
      | none => rw [q] at e; cases e
      | some cs =>
        rw [q] at e
        cases e
        rw [strsD_of q]
        rfl
    | _ => cases e
theorem strsD_map (bs : List Str) : strsD (bs.map Da.str) = some bs := by
  induction bs with
  | nil => rfl
  | cons b bs ih => show (strsD (bs.map Da.str)).map (b :: ·) = _; rw [ih]; rfl
def okS : Da → Mem → Prop := fun d _ => ∃ z, d = .str z
def okLs : Da → Mem → Prop := fun d M => ∃ ds, look M d = .lst ds
def okDc : Da → Mem → Prop := fun d M => ∃ ds, look M d = .dct ds
theorem okS_run (h : Rp K H φ χ v d) (o : okS d M) : tyW K "str" v H := by
  obtain ⟨z, rfl⟩ := o
  obtain ⟨rfl, _⟩ := vStr h
  exact .inl rfl
theorem okL_run (m : Mm K H φ χ M) (h : Rp K H φ χ v d) (o : okLs d M) : tyW K "list" v H := by
  obtain ⟨ds, e⟩ := o
  obtain ⟨a, vs, rfl, hs, _⟩ := vL m h e
  exact .inl (.inl ⟨rfl, vs, hs⟩)
theorem okD_run (m : Mm K H φ χ M) (h : Rp K H φ χ v d) (o : okDc d M) : tyW K "dict" v H := by
  obtain ⟨ds, e⟩ := o
  obtain ⟨a, vs, rfl, hs, _⟩ := vD m h e
  exact .inr ⟨a, vs, rfl, rfl, hs⟩
/-- a method's rule over data -/
def SMr (K : PySem.W.Frag) (r : V → List V → Hp → VK → Prop) (n : Da → List Da → Mem → TK → Prop) : Prop :=
  ∀ {χ H φ M x dx xs dxs Q Q'}, Mm K H φ χ M → Rp K H φ χ x dx → RpL K H φ χ xs dxs → FE K χ H φ Q' Q → n dx dxs M Q' → r x xs H Q
def nJoin : Da → List Da → Mem → TK → Prop := fun x ds M Q => match x, ds with
  | .str a, [y] => match (seqD M y).bind strsD with
    | some ys => (ys.map (·.length)).sum + ys.length * a.length ≤ 16777216 ∧ (Txt.join a ys).length ≤ sizeLine ∧ Q (.str (Txt.join a ys)) M
    | none => False
  | _, _ => False
theorem M_join : SMr K (rJoinA K) nJoin := by
  intro χ H φ M x dx xs dxs Q Q' m hx hxs f h
  unfold nJoin at h
  split at h
  · obtain ⟨w, rfl, h1⟩ := hxs.one
    obtain ⟨rfl, _⟩ := vStr hx
    split at h
    · rename_i ys e
      obtain ⟨ds, e1, e2⟩ := Option.bind_eq_some_iff.1 e
      obtain ⟨a, vs, rfl, hs, r⟩ := seqD_of m h1 e1
      rw [strsD_of e2] at r
      rw [r.strs] at hs
      exact ⟨_, a, ys, rfl, rfl, hs, h.1, f.pure m (.str h.2.1) h.2.2⟩
    · exact h.elim
  · exact h.elim
def cellL (M : Mem) (x : Da) : Option (Nat × List Da) := match x with
  | .cell n => match M[n]? with
    | some (.lst ds) => some (n, ds)
    | _ => none
  | _ => none
theorem cellL_of (m : Mm K H φ χ M) (h : Rp K H φ χ v d) {n : Nat} {ds : List Da} (e : cellL M d = some (n, ds)) : ∃ a vs, v = .ref a ∧ φ[n]? = some a ∧ H a = some (.lst vs) ∧ RpL K H φ χ vs ds := by
  unfold cellL at e
  split at e
  · rename_i k
    split at e
    · rename_i es q
      cases e
      cases h with
      | cell h =>
        obtain ⟨vs, e1, r⟩ := m.at_ _ _ _ h q
        exact ⟨_, vs, rfl, h, e1, r⟩
    · cases e
  · cases e
theorem FE.mutL {Q' : TK} {Q : VK} (f : FE K χ H φ Q' Q) (m : Mm K H φ χ M) {n : Nat} {a : Addr} {vs : List V} {ds : List Da} (h : φ[n]? = some a) (r : RpL K H φ χ vs ds) {w : V} {e : Da} (hw : Rp K H φ χ w e) (q : Q' e (M.set n (.lst ds))) : Q w (upd H a (.lst vs)) :=
  f _ _ _ _ _ (Adv.mut (List.mem_of_getElem? h)) (m.mut (d := .lst ds) h ⟨vs, upd_same, r.adv (Adv.mut (List.mem_of_getElem? h))⟩) (hw.adv (Adv.mut (List.mem_of_getElem? h))) q
def nAppend : Da → List Da → Mem → TK → Prop := fun x ds M Q => match cellL M x, ds with
  | some (n, es), [y] => es.length < sizeLine ∧ Q .non (M.set n (.lst (es ++ [y])))
  | _, _ => False
theorem M_append : SMr K rAppend nAppend := by
  intro χ H φ M x dx xs dxs Q Q' m hx hxs f h
  unfold nAppend at h
  split at h
  · rename_i n es y e
    obtain ⟨w, rfl, h1⟩ := hxs.one
    obtain ⟨a, vs, rfl, ha, hl, r⟩ := cellL_of m hx e
    exact ⟨a, vs, w, rfl, rfl, hl, by rw [r.len]; exact h.1, f.mutL m ha (r.app (.cons h1 .nil)) .non h.2⟩
  · exact h.elim
def nExtend : Da → List Da → Mem → TK → Prop := fun x ds M Q => match cellL M x, ds with
  | some (n, es), [y] => match lookE M y with
    | .lst zs => es.length + zs.length ≤ sizeLine ∧ Q .non (M.set n (.lst (es ++ zs)))
    | _ => False
  | _, _ => False
theorem M_extend : SMr K rExtend nExtend := by
  intro χ H φ M x dx xs dxs Q Q' m hx hxs f h
  unfold nExtend at h
  split at h
  · rename_i n es y e
    obtain ⟨w, rfl, h1⟩ := hxs.one
    obtain ⟨a, vs, rfl, ha, hl, r⟩ := cellL_of m hx e
    split at h
    · rename_i zs e2
      obtain ⟨b, ws, rfl, hb, r2⟩ := vLE m h1 e2
      exact ⟨a, b, vs, ws, rfl, rfl, hl, hb, by rw [r.len, r2.len]; exact h.1, f.mutL m ha (r.app r2) .non h.2⟩
    · exact h.elim
  · exact h.elim
def nInsert : Da → List Da → Mem → TK → Prop := fun x ds M Q => match cellL M x, ds with
  | some (n, es), [.int i, y] => es.length < sizeLine ∧ 0 ≤ i ∧ i < 2 ^ 63 ∧ Q .non (M.set n (.lst (es.take i.toNat ++ [y] ++ es.drop i.toNat)))
  | _, _ => False
theorem M_insert : SMr K rInsert nInsert := by
  intro χ H φ M x dx xs dxs Q Q' m hx hxs f h
  unfold nInsert at h
  split at h
  · rename_i n es i y e
    obtain ⟨u, w, rfl, h1, h2⟩ := hxs.two
    obtain rfl := vInt h1
    obtain ⟨a, vs, rfl, ha, hl, r⟩ := cellL_of m hx e
    obtain ⟨p1, p2, p3, q⟩ := h
    exact ⟨a, vs, i, w, rfl, rfl, hl, by rw [r.len]; exact p1, p2, p3, f.mutL m ha (((r.take _).app (.cons h2 .nil)).app (r.drop _)) .non q⟩
  · exact h.elim
def nPop : Da → List Da → Mem → TK → Prop := fun x ds M Q => match cellL M x, ds with
  | some (n, es), [] => match es[es.length - 1]? with
    | some y => Q y (M.set n (.lst es.dropLast))
    | none => False
  | some (n, es), [.int i] => -(2 ^ 63) ≤ i ∧ i < 2 ^ 63 ∧ ∃ k y, seqIndex? i es.length = some k ∧ es[k]? = some y ∧ Q y (M.set n (.lst (es.eraseIdx k)))
  | _, _ => False
theorem RpL.dropLast {vs : List V} {ds : List Da} (r : RpL K H φ χ vs ds) : RpL K H φ χ vs.dropLast ds.dropLast := by
  rw [List.dropLast_eq_take, List.dropLast_eq_take, r.len]
  exact r.take _
theorem M_pop : SMr K rPopA nPop := by
  intro χ H φ M x dx xs dxs Q Q' m hx hxs f h
  unfold nPop at h
  split at h
  · rename_i n es e
    cases hxs
    obtain ⟨a, vs, rfl, ha, hl, r⟩ := cellL_of m hx e
    split at h
    · rename_i y ey
      obtain ⟨w, e1, r1⟩ := r.get ey
      exact .inl ⟨a, vs, w, rfl, rfl, hl, by rw [r.len]; exact e1, f.mutL m ha r.dropLast r1 h⟩
    · exact h.elim
  · rename_i n es i e
    obtain ⟨u, rfl, h1⟩ := hxs.one
    obtain rfl := vInt h1
    obtain ⟨a, vs, rfl, ha, hl, r⟩ := cellL_of m hx e
    obtain ⟨p1, p2, k, y, p3, p4, q⟩ := h
    obtain ⟨w, e1, r1⟩ := r.get p4
    exact .inr ⟨a, vs, i, k, w, rfl, rfl, hl, p1, p2, by rw [r.len]; exact p3, e1, f.mutL m ha (r.erase k) r1 q⟩
  · exact h.elim
def nGet : Da → List Da → Mem → TK → Prop := fun x ds M Q => match look M x, ds with
  | .dct kds, [y] => ∃ k, keyD y = some k ∧ Q ((valD kds k).getD .non) M
  | .dct kds, [y, z] => ∃ k, keyD y = some k ∧ Q ((valD kds k).getD z) M
  | _, _ => False
theorem M_get : SMr K rDGet nGet := by
  intro χ H φ M x dx xs dxs Q Q' m hx hxs f h
  unfold nGet at h
  split at h
  · rename_i kds y e
    obtain ⟨w, rfl, h1⟩ := hxs.one
    obtain ⟨a, kvs, rfl, hs, r⟩ := vD m hx e
    obtain ⟨k, hk, q⟩ := h
    rcases r.val (k := k) with ⟨e1, e2⟩ | ⟨v, d', e1, e2, rd⟩
    · rw [e2] at q
      exact ⟨a, rfl, .inl ⟨w, none, rfl, .inl ⟨kvs, k, hs, keyD_of h1 hk, e1.symm⟩, f.pure m .non q⟩⟩
    · rw [e2] at q
      exact ⟨a, rfl, .inl ⟨w, some v, rfl, .inl ⟨kvs, k, hs, keyD_of h1 hk, e1.symm⟩, f.pure m rd q⟩⟩
  · rename_i kds y z e
    obtain ⟨w, u, rfl, h1, h2⟩ := hxs.two
    obtain ⟨a, kvs, rfl, hs, r⟩ := vD m hx e
    obtain ⟨k, hk, q⟩ := h
    rcases r.val (k := k) with ⟨e1, e2⟩ | ⟨v, d', e1, e2, rd⟩
    · rw [e2] at q
      exact ⟨a, rfl, .inr ⟨w, u, none, rfl, .inl ⟨kvs, k, hs, keyD_of h1 hk, e1.symm⟩, f.pure m h2 q⟩⟩
    · rw [e2] at q
      exact ⟨a, rfl, .inr ⟨w, u, some v, rfl, .inl ⟨kvs, k, hs, keyD_of h1 hk, e1.symm⟩, f.pure m rd q⟩⟩
  · exact h.elim
/-! dicts of the module: keys texts, values tuples of scalars -/
structure KTab (K : PySem.W.Frag) (d : Addr) (tab : List (Str × List Da)) : Prop where
  no : ∀ z : Str, z ∉ tab.map (·.1) → PySem.W.nsIn K d z = some none
  yes : ∀ z ds, (z, ds) ∈ tab → ∃ a, PySem.W.nsIn K d z = some (some (.ref a)) ∧ ∃ vs, (∀ H, SqT K H a vs) ∧ ∀ H φ χ, RpL K H φ χ vs ds
def tabD (tab : List (Str × List Da)) (z : Str) : Option (List Da) := (tab.find? fun p => decide (p.1 = z)).map (·.2)
theorem tabD_none : ∀ {tab : List (Str × List Da)} {z : Str}, tabD tab z = none → z ∉ tab.map (·.1)
  | [], z, _ => by simp
  | p :: tab, z, h => by
    unfold tabD at h
    rw [List.find?_cons] at h
    by_cases e : p.1 = z
    · simp [e] at h
    · simp only [decide_eq_false e] at h
      rw [List.map_cons]
      exact nmc ⟨fun q => e q.symm, tabD_none h⟩
theorem tabD_some : ∀ {tab : List (Str × List Da)} {z : Str} {ds : List Da}, tabD tab z = some ds → (z, ds) ∈ tab
  | [], z, ds, h => by cases h
  | p :: tab, z, ds, h => by
    unfold tabD at h
    rw [List.find?_cons] at h
    by_cases e : p.1 = z
    · simp [e] at h
      rw [← e, ← h]
      exact List.mem_cons_self ..
    · simp only [decide_eq_false e] at h
      exact List.mem_cons_of_mem _ (tabD_some h)
def nInK (tab : List (Str × List Da)) : MO := fun x _ M Q => match x with
  | .str z => Q (.bl (tabD tab z).isSome) M
  | _ => False
def nNinK (tab : List (Str × List Da)) : MO := fun x _ M Q => match x with
  | .str z => Q (.bl (!(tabD tab z).isSome)) M
  | _ => False
def nIxK (tab : List (Str × List Da)) : MO := fun _ y M Q => match y with
  | .str z => match tabD tab z with
    | some ds => Q (.kt ds) M
    | none => False
  | _ => False
/-- operators whose one side is a dict of the module -/
def SOr (K : PySem.W.Frag) (a : Addr) (r : R2) (n : MO) : Prop := ∀ {χ H φ M x dx dy Q Q'}, Mm K H φ χ M → Rp K H φ χ x dx → FE K χ H φ Q' Q → n dx dy M Q' → r x (.ref a) H Q
def SOl (K : PySem.W.Frag) (a : Addr) (r : R2) (n : MO) : Prop := ∀ {χ H φ M y dx dy Q Q'}, Mm K H φ χ M → Rp K H φ χ y dy → FE K χ H φ Q' Q → n dx dy M Q' → r (.ref a) y H Q
theorem O_inK {a : Addr} {tab : List (Str × List Da)} (t : KTab K a tab) : SOr K a (rInK K a) (nInK tab) := by
  intro χ H φ M x dx dy Q Q' m hx f h
  unfold nInK at h
  split at h
  · rename_i z
    obtain ⟨rfl, _⟩ := vStr hx
    cases e : tabD tab z with
    | none =>
      rw [e] at h
      exact ⟨z, none, rfl, rfl, t.no z (tabD_none e), f.pure m (.bl _) h⟩
    | some ds =>
      rw [e] at h
      obtain ⟨b, hb, _⟩ := t.yes z ds (tabD_some e)
      exact ⟨z, _, rfl, rfl, hb, f.pure m (.bl _) h⟩
  · exact h.elim
theorem O_ninK {a : Addr} {tab : List (Str × List Da)} (t : KTab K a tab) : SOr K a (rNinK K a) (nNinK tab) := by
  intro χ H φ M x dx dy Q Q' m hx f h
  unfold nNinK at h
  split at h
  · rename_i z
    obtain ⟨rfl, _⟩ := vStr hx
    cases e : tabD tab z with
    | none =>
      rw [e] at h
      exact ⟨z, none, rfl, rfl, t.no z (tabD_none e), f.pure m (.bl _) h⟩
    | some ds =>
      rw [e] at h
      obtain ⟨b, hb, _⟩ := t.yes z ds (tabD_some e)
      exact ⟨z, _, rfl, rfl, hb, f.pure m (.bl _) h⟩
  · exact h.elim
theorem O_ixK {a : Addr} {tab : List (Str × List Da)} (t : KTab K a tab) : SOl K a (rIxK K a) (nIxK tab) := by
  intro χ H φ M y dx dy Q Q' m hy f h
  unfold nIxK at h
  split at h
  · rename_i z
    obtain ⟨rfl, _⟩ := vStr hy
    split at h
    · rename_i ds e
      obtain ⟨b, hb, vs, hs, r⟩ := t.yes z ds (tabD_some e)
      exact ⟨z, _, .ref b, rfl, rfl, hb, rfl, f.pure m (.ktK hs (r H φ χ)) h⟩
    · exact h.elim
  · exact h.elim
end
end Z

/-! T6: expressions, tests, targets -/
namespace Z
open PySem PySem.Spec PyProof.Rows L2 Evl
section
variable {K : PySem.W.Frag}
def mVar (i : Nat) : ME := fun ρ M Q => match ρ[i]? with
  | some (some d) => Q d M
  | _ => False
theorem E_var (i : Nat) : SE K (fun _ => tVar i) (fun _ => mVar i) := ⟨fun r m _ f h => by
  unfold mVar at h
  split at h
  · rename_i d e
    obtain ⟨v, h1, h2⟩ := r.at_ _ _ e
    exact ⟨v, h1, f.pure m h2 h⟩
  · exact h.elim⟩
def mC (d : Da) : ME := fun _ M Q => Q d M
theorem E_non : SE K (fun _ => tC .non) (fun _ => mC .non) := ⟨fun _ m _ f h => f.pure m .non h⟩
theorem E_bl (b : Bool) : SE K (fun _ => tC (.bl b)) (fun _ => mC (.bl b)) := ⟨fun _ m _ f h => f.pure m (.bl b) h⟩
theorem E_int (i : Int) : SE K (fun _ => tC (.int i)) (fun _ => mC (.int i)) := ⟨fun _ m _ f h => f.pure m (.int i) h⟩
theorem E_str {s : Str} (hs : decide (s.length ≤ 16777216) = true) : SE K (fun _ => tC (.str s)) (fun _ => mC (.str s)) := ⟨fun _ m _ f h => f.pure m (.str (by rw [sizeLine_eq]; exact of_decide_eq_true hs)) h⟩
theorem E_ty (n : String) : SE K (fun _ => tC (.ty n)) (fun _ => mC (.ty n)) := ⟨fun _ m _ f h => f.pure m (.ty n) h⟩
theorem E_gl (x : Str) : SE K (fun _ => tC (.ref (He.ga K x))) (fun _ => mC (.gl x)) := ⟨fun _ m _ f h => f.pure m (.gl x) h⟩
/-- a tuple of the module -/
def KTup (K : PySem.W.Frag) (a : Addr) (ds : List Da) : Prop := ∃ vs, (∀ H, SqT K H a vs) ∧ ∀ H φ χ, RpL K H φ χ vs ds
theorem E_kt {a : Addr} {ds : List Da} (h : KTup K a ds) : SE K (fun _ => tC (.ref a)) (fun _ => mC (.kt ds)) := ⟨fun _ m _ f q => by
  obtain ⟨vs, h1, h2⟩ := h
  exact f.pure m (.ktK h1 (h2 _ _ _)) q⟩
variable {ta tb tc : WX → TE} {ma mb mc : WD → ME}
def mOp (n : MO) (ma mb : ME) : ME := fun ρ M Q => ma ρ M fun x M1 => mb ρ M1 fun y M2 => n x y M2 Q
theorem E_op {r : R2} {n : MO} (o : SO K r n) (a : SE K ta ma) (b : SE K tb mb) : SE K (fun W => tOp r (ta W) (tb W)) (fun W => mOp n (ma W) (mb W)) := ⟨fun r m w f h =>
  a.run r m w (fun v d H1 φ1 M1 A1 m1 r1 h1 => b.run (r.adv A1) m1 (w.adv A1) (fun u e H2 φ2 M2 A2 m2 r2 h2 => o m2 (r1.adv A2) r2 ((f.adv A1).adv A2) h2) h1) h⟩
def mOpR (n : MO) (ma : ME) : ME := fun ρ M Q => ma ρ M fun x M1 => n x .non M1 Q
theorem E_opR {x : Str} {r : R2} {n : MO} (o : SOr K (He.ga K x) r n) (a : SE K ta ma) : SE K (fun W => tOp r (ta W) (tC (.ref (He.ga K x)))) (fun W => mOpR n (ma W)) := ⟨fun r m w f h =>
  a.run r m w (fun v d H1 φ1 M1 A1 m1 r1 h1 => o m1 r1 (f.adv A1) h1) h⟩
def mOpL (n : MO) (ma : ME) : ME := fun ρ M Q => ma ρ M fun x M1 => n .non x M1 Q
theorem E_opL {x : Str} {r : R2} {n : MO} (o : SOl K (He.ga K x) r n) (a : SE K ta ma) : SE K (fun W => tOp r (tC (.ref (He.ga K x))) (ta W)) (fun W => mOpL n (ma W)) := ⟨fun r m w f h =>
  a.run r m w (fun v d H1 φ1 M1 A1 m1 r1 h1 => o m1 r1 (f.adv A1) h1) h⟩
def mNeg (ma : ME) : ME := fun ρ M Q => ma ρ M fun x M1 => match x with
  | .int i => Q (.int (-i)) M1
  | _ => False
theorem E_neg (a : SE K ta ma) : SE K (fun W => tUn (rU fun i => .int (-i)) (ta W)) (fun W => mNeg (ma W)) := ⟨fun r m w f h =>
  a.run r m w (fun v d H1 φ1 M1 A1 m1 r1 h1 => by
    split at h1
    · obtain rfl := vInt r1
      exact ⟨_, rfl, (f.adv A1).pure m1 (.int _) h1⟩
    · exact h1.elim) h⟩
def mNotV (ma : ME) : ME := fun ρ M Q => ma ρ M fun x M1 => match x with
  | .bl c => Q (.bl (!c)) M1
  | _ => False
theorem E_notV (a : SE K ta ma) : SE K (fun W => tNotV (ta W)) (fun W => mNotV (ma W)) := ⟨fun r m w f h =>
  a.run r m w (fun v d H1 φ1 M1 A1 m1 r1 h1 => by
    split at h1
    · obtain rfl := vBl r1
      exact ⟨_, rfl, (f.adv A1).pure m1 (.bl _) h1⟩
    · exact h1.elim) h⟩
def mAndV (ma mb : ME) : ME := fun ρ M Q => ma ρ M fun x M1 => match x with
  | .bl c => if c = true then mb ρ M1 Q else Q (.bl false) M1
  | _ => False
theorem E_andV (a : SE K ta ma) (b : SE K tb mb) : SE K (fun W => tAndV (ta W) (tb W)) (fun W => mAndV (ma W) (mb W)) := ⟨fun r m w f h =>
  a.run r m w (fun v d H1 φ1 M1 A1 m1 r1 h1 => by
    split at h1
    · rename_i c
      obtain rfl := vBl r1
      refine ⟨_, rfl, ?_⟩
      cases c with
      | true => exact b.run (r.adv A1) m1 (w.adv A1) (f.adv A1) h1
      | false => exact (f.adv A1).pure m1 (.bl _) h1
    · exact h1.elim) h⟩
def mOrV (ma mb : ME) : ME := fun ρ M Q => ma ρ M fun x M1 => match x with
  | .bl c => if c = true then Q (.bl true) M1 else mb ρ M1 Q
  | _ => False
theorem E_orV (a : SE K ta ma) (b : SE K tb mb) : SE K (fun W => tOrV (ta W) (tb W)) (fun W => mOrV (ma W) (mb W)) := ⟨fun r m w f h =>
  a.run r m w (fun v d H1 φ1 M1 A1 m1 r1 h1 => by
    split at h1
    · rename_i c
      obtain rfl := vBl r1
      refine ⟨_, rfl, ?_⟩
      cases c with
      | true => exact (f.adv A1).pure m1 (.bl _) h1
      | false => exact b.run (r.adv A1) m1 (w.adv A1) (f.adv A1) h1
    · exact h1.elim) h⟩
def mChain (n n' : MO) (ma mb mc : ME) : ME := fun ρ M Q => ma ρ M fun x M1 => mb ρ M1 fun y M2 => n x y M2 fun z M3 => match z with
  | .bl k => if k = true then mc ρ M3 fun u M4 => n' y u M4 Q else Q (.bl false) M3
  | _ => False
theorem E_chain {r r' : R2} {n n' : MO} (o : SO K r n) (o' : SO K r' n') (a : SE K ta ma) (b : SE K tb mb) (c : SE K tc mc) : SE K (fun W => tChain r r' (ta W) (tb W) (tc W)) (fun W => mChain n n' (ma W) (mb W) (mc W)) := ⟨fun r m w f h =>
  a.run r m w (fun v d H1 φ1 M1 A1 m1 r1 h1 => b.run (r.adv A1) m1 (w.adv A1) (fun u e H2 φ2 M2 A2 m2 r2 h2 => o m2 (r1.adv A2) r2 (fun z ez H3 φ3 M3 A3 m3 r3 h3 => by
    split at h3
    · rename_i k
      obtain rfl := vBl r3
      refine ⟨_, rfl, ?_⟩
      cases k with
      | true => exact c.run (r.adv ((A1.trans A2).trans A3)) m3 (w.adv ((A1.trans A2).trans A3)) (fun y ey H4 φ4 M4 A4 m4 r4 h4 => o' m4 (r2.adv (A3.trans A4)) r4 (f.adv (((A1.trans A2).trans A3).trans A4)) h4) h3
      | false => exact (f.adv ((A1.trans A2).trans A3)).pure m3 (.bl _) h3
    · exact h3.elim) h2) h1) h⟩
/-! tests -/
variable {tt tu : WX → TT} {mt mu : WD → MT}
def mIf (t : MT) (ma mb : ME) : ME := fun ρ M Q => t ρ M fun c M1 => if c = true then ma ρ M1 Q else mb ρ M1 Q
theorem E_if (t : ST K tt mt) (a : SE K ta ma) (b : SE K tb mb) : SE K (fun W => tIf (tt W) (ta W) (tb W)) (fun W => mIf (mt W) (ma W) (mb W)) := ⟨fun r m w f h =>
  t.run r m w (fun c H1 φ1 M1 A1 m1 h1 => by
    cases c with
    | true => exact a.run (r.adv A1) m1 (w.adv A1) (f.adv A1) h1
    | false => exact b.run (r.adv A1) m1 (w.adv A1) (f.adv A1) h1) h⟩
def mB (ma : ME) : MT := fun ρ M Q => ma ρ M fun x M1 => match x with
  | .bl c => Q c M1
  | _ => False
theorem E_test (a : SE K ta ma) : ST K (fun W => tTest (ta W)) (fun W => mB (ma W)) := ⟨fun r m w f h =>
  a.run r m w (fun v d H1 φ1 M1 A1 m1 r1 h1 => by
    split at h1
    · obtain rfl := vBl r1
      exact ⟨_, rfl, f _ _ _ _ A1 m1 h1⟩
    · exact h1.elim) h⟩
theorem E_B (a : SE K ta ma) : ST K (fun W => tB (ta W)) (fun W => mB (ma W)) := ⟨fun r m w f h => (E_test a).run r m w f h⟩
def mNot (t : MT) : MT := fun ρ M Q => t ρ M fun c M1 => Q (!c) M1
theorem E_not (t : ST K tt mt) : ST K (fun W => tNot (tt W)) (fun W => mNot (mt W)) := ⟨fun r m w f h => t.run r m w (fun c H1 φ1 M1 A1 m1 h1 => f _ _ _ _ A1 m1 h1) h⟩
def mAnd (t u : MT) : MT := fun ρ M Q => t ρ M fun c M1 => if c = true then u ρ M1 Q else Q false M1
theorem E_and (t : ST K tt mt) (u : ST K tu mu) : ST K (fun W => tAnd (tt W) (tu W)) (fun W => mAnd (mt W) (mu W)) := ⟨fun r m w f h => t.run r m w (fun c H1 φ1 M1 A1 m1 h1 => by
    cases c with
    | true => exact u.run (r.adv A1) m1 (w.adv A1) (f.adv A1) h1
    | false => exact f _ _ _ _ A1 m1 h1) h⟩
def mOr (t u : MT) : MT := fun ρ M Q => t ρ M fun c M1 => if c = true then Q true M1 else u ρ M1 Q
theorem E_or (t : ST K tt mt) (u : ST K tu mu) : ST K (fun W => tOr (tt W) (tu W)) (fun W => mOr (mt W) (mu W)) := ⟨fun r m w f h => t.run r m w (fun c H1 φ1 M1 A1 m1 h1 => by
    cases c with
    | true => exact f _ _ _ _ A1 m1 h1
    | false => exact u.run (r.adv A1) m1 (w.adv A1) (f.adv A1) h1) h⟩
def mYes : MT := fun _ M Q => Q true M
theorem E_yes : ST K (fun _ => tYes) (fun _ => mYes) := ⟨fun _ m _ f h => f _ _ _ _ Adv.refl m h⟩
/-! argument lists -/
variable {as : WX → TA} {ms : WD → MA}
def mNil : MA := fun _ M Q => Q [] M
theorem E_nil : SA K (fun _ => tNil) (fun _ => mNil) := ⟨fun _ m _ f h => f _ _ _ _ _ Adv.refl m .nil h⟩
def mCons (ma : ME) (ms : MA) : MA := fun ρ M Q => ma ρ M fun x M1 => ms ρ M1 fun xs M2 => Q (x :: xs) M2
theorem E_cons (a : SE K ta ma) (s : SA K as ms) : SA K (fun W => tCons (ta W) (as W)) (fun W => mCons (ma W) (ms W)) := ⟨fun r m w f h =>
  a.run r m w (fun v d H1 φ1 M1 A1 m1 r1 h1 => s.run (r.adv A1) m1 (w.adv A1) (fun vs ds H2 φ2 M2 A2 m2 r2 h2 => f _ _ _ _ _ (A1.trans A2) m2 (.cons (r1.adv A2) r2) h2) h1) h⟩
/-! displays -/
def mTup (s : MA) : ME := fun ρ M Q => s ρ M fun ds M1 => ds.length ≤ 1000000 ∧ Q (.tup ds) M1
def mLst (s : MA) : ME := fun ρ M Q => s ρ M fun ds M1 => ds.length ≤ 1000000 ∧ Q (.lst ds) M1
theorem mio {n : Nat} (h : n ≤ 1000000) : n ≤ sizeLine := by
  rw [sizeLine_eq]
  omega
theorem E_tup (s : SA K as ms) : SE K (fun W => tTup (as W)) (fun W => mTup (ms W)) := ⟨fun r m w f h =>
  s.run r m w (fun vs ds H1 φ1 M1 A1 m1 r1 h1 => ⟨by rw [r1.len]; exact mio h1.1, fun p hp => (f.adv A1).tup m1 r1 hp h1.2⟩) h⟩
theorem E_lst (s : SA K as ms) : SE K (fun W => tLst (as W)) (fun W => mLst (ms W)) := ⟨fun r m w f h =>
  s.run r m w (fun vs ds H1 φ1 M1 A1 m1 r1 h1 => ⟨by rw [r1.len]; exact mio h1.1, fun p hp => (f.adv A1).lst m1 r1 hp h1.2⟩) h⟩
def mDNew : ME := fun _ M Q => Q (.dct []) M
theorem E_dnew : SE K (fun _ => tDNewK) (fun _ => mDNew) := ⟨fun r m w f h p hp => f _ _ _ _ _ (Adv.new hp) (m.new hp) (.dct upd_same rfl (m.nin hp) (fun c => m.hid p c hp) .nil) h⟩
/-! a written dict -/
def mPairs : List (ME × ME) → Sl → Mem → (List (Key × Da) → Mem → Prop) → Prop
  | [], _, M, Q => Q [] M
  | (k, v) :: r, ρ, M, Q => k ρ M fun x M1 => v ρ M1 fun y M2 => match keyD x with
    | some kk => mPairs r ρ M2 fun ps M3 => Q ((kk, y) :: ps) M3
    | none => False
def mergeD (kds more : List (Key × Da)) : List (Key × Da) := more.foldl (fun acc kv => putD acc kv.1 kv.2) kds
def mDisp (ps : List (ME × ME)) : ME := fun ρ M Q => mPairs ps ρ M fun kds M1 => kds.length ≤ 15 ∧ Q (.dct (mergeD [] kds)) M1
inductive SPs (K : PySem.W.Frag) : (WX → List (TE × TE)) → (WD → List (ME × ME)) → Prop
  | nil : SPs K (fun _ => []) (fun _ => [])
  | cons {tk tv : WX → TE} {mk mv : WD → ME} {ts : WX → List (TE × TE)} {ms : WD → List (ME × ME)} : SE K tk mk → SE K tv mv → SPs K ts ms → SPs K (fun W => (tk W, tv W) :: ts W) (fun W => (mk W, mv W) :: ms W)
theorem SPs.run {ts : WX → List (TE × TE)} {ms : WD → List (ME × ME)} (s : SPs K ts ms) : ∀ {χ W W' σ H φ ρ M} {Q' : List (Key × Da) → Mem → Prop} {Q : List (V × V) → Hp → Prop}, Rs K H φ χ σ ρ → Mm K H φ χ M → FW K χ H φ W' W →
    (∀ v kvs kds H' φ' M', Adv H φ H' φ' → Mm K H' φ' χ M' → v = kvs.map (fun kv : Key × V => (kV kv.1, kv.2)) → RpK K H' φ' χ kvs kds → Q' kds M' → Q v H') → mPairs (ms W') ρ M Q' → tPairs (ts W) σ H Q := by
  induction s with
  | nil =>
    intro χ W W' σ H φ ρ M Q' Q r m w f h
    exact f _ [] _ _ _ _ Adv.refl m rfl .nil h
  | cons k v s ih =>
    intro χ W W' σ H φ ρ M Q' Q r m w f h
    exact k.run r m w (fun v1 d1 H1 φ1 M1 A1 m1 r1 h1 => v.run (r.adv A1) m1 (w.adv A1) (fun v2 d2 H2 φ2 M2 A2 m2 r2 h2 => by
      split at h2
      · rename_i kk e
        have e1 := keyD_of r1 e
        exact ih (r.adv (A1.trans A2)) m2 (w.adv (A1.trans A2)) (fun v3 kvs kds H3 φ3 M3 A3 m3 e3 r3 h3 =>
          f _ ((kk, v2) :: kvs) _ _ _ _ ((A1.trans A2).trans A3) m3 (by rw [e3, e1]; rfl) (.cons (r2.adv A3) r3) h3) h2
      · exact h2.elim) h1) h
theorem mergeD_run {H : Hp} {φ χ : List Addr} : ∀ {kvs : List (Key × V)} {kds : List (Key × Da)} {acc : List (Key × V)} {ads : List (Key × Da)}, RpK K H φ χ kvs kds → RpK K H φ χ acc ads → RpK K H φ χ (mergeK acc kvs) (mergeD ads kds)
  | _, _, _, _, .nil, a => a
  | _, _, _, _, .cons (k := k) h r, a => by
    have q := mergeD_run r (a.put (k := k) h)
    exact q
theorem FW.hide {χ : List Addr} {H : Hp} {φ : List Addr} {W' : WD} {W : WX} {D : Addr} (f : FW K χ H φ W' W) : FW K (D :: χ) H φ W' W := fun c fs vfs dd σ' H' φ' ρ' M' A r m h n1 n2 q =>
  f c fs vfs dd σ' H' φ' ρ' M' A r.bare m.bare h n1 (fun z => n2 (List.mem_cons_of_mem _ z)) q.bare
theorem E_disp {ts : WX → List (TE × TE)} {ms : WD → List (ME × ME)} (s : SPs K ts ms) : SE K (fun W => tDisp (ts W)) (fun W => mDisp (ms W)) := ⟨fun {χ W W' σ H φ ρ M Q Q'} r m w f h p hp => by
  refine s.run (χ := p :: χ) (r.hideN hp) (m.hideN hp) ((w.adv (Adv.new hp)).hide) ?_ h
  intro v kvs kds H1 φ1 M1 A1 m1 e1 rk h1
  have np : p ∉ φ := m.nin hp
  have hp1 : H1 p = some (.dK []) := A1.keep p _ upd_same np
  have np1 : p ∉ φ1 := A1.nin upd_same np
  have hD : p ∈ p :: χ := List.mem_cons_self ..
  refine ⟨hp1, kvs, e1, by rw [rk.len]; exact h1.1, ?_⟩
  have r2 : RpK K (upd H1 p (.dK (mergeK [] kvs))) φ1 (p :: χ) (mergeK [] kvs) (mergeD [] kds) := (mergeD_run rk .nil).at_ hD
  have A2 : Adv H φ (upd H1 p (.dK (mergeK [] kvs))) φ1 := {
    keep := fun a o e n => by
      rw [upd_ne (ne_of_none e hp)]
      exact A1.keep a o (by rw [upd_ne (ne_of_none e hp)]; exact e) n
    pre := by
      obtain ⟨ψ, e, q⟩ := A1.pre
      refine ⟨ψ, e, fun a ha => ?_⟩
      have z := q a ha
      by_cases ea : a = p
      · rw [ea, upd_same] at z; cases z
      · rw [upd_ne ea] at z; exact z
    dom := fun a e => upd_some (A1.dom a (upd_some e)) }
  exact f _ _ _ _ _ A2 (m1.updH hD).bare (.dct upd_same rfl np1 (fun c => m.hid p c hp) r2.bare) h1.2⟩
/-! an exception's field -/
def mXf (a dd : Addr) (C f : Str) (i : Nat) : ME := fun ρ M Q => match ρ[i]? with
  | some (some (.exv a' dd' c fds)) => a' = a ∧ dd' = dd ∧ c = C ∧ match fds.lookup f with
    | some d => Q d M
    | none => False
  | _ => False
theorem RpF.look {H : Hp} {φ χ : List Addr} {f : Str} {d : Da} : ∀ {vs : List (Str × V)} {ds : List (Str × Da)}, RpF K H φ χ vs ds → ds.lookup f = some d → ∃ v, vs.lookup f = some v ∧ Rp K H φ χ v d
  | _, _, .nil, e => by cases e
  | _, _, .cons (k := k) h r, e => by
    rw [List.lookup_cons] at e ⊢
    cases q : f == k with
    | true =>
      rw [q] at e
      cases e
      exact ⟨_, rfl, h⟩
    | false =>
      rw [q] at e
      exact r.look e
theorem E_xf (a dd : Addr) (C f : Str) (i : Nat) : SE K (fun _ => tXf a (.ref (He.ga K C)) (some dd) (He.ga K C) f (tVar i)) (fun _ => mXf a dd C f i) := ⟨fun r m w f h => by
  unfold mXf at h
  split at h
  · rename_i a' dd' c fds e
    obtain ⟨rfl, rfl, rfl, h⟩ := h
    split at h
    · rename_i d ed
      obtain ⟨v, h1, h2⟩ := r.at_ _ _ e
      cases h2 with
      | exv hd n1 n2 rf =>
        obtain ⟨u, hu, ru⟩ := rf.look ed
        exact ⟨_, h1, rfl, rfl, _, _, u, rfl, hd, hu, f.pure m ru h⟩
    · exact h.elim
  · exact h.elim⟩
/-! slices -/
abbrev MO2 := Sl → Mem → (Option Int → Mem → Prop) → Prop
structure SP2 (K : PySem.W.Frag) (te : WX → TO) (me : WD → MO2) : Prop where
  run : ∀ {χ W W' σ H φ ρ M} {Q : Option Int → Hp → Prop} {Q' : Option Int → Mem → Prop}, Rs K H φ χ σ ρ → Mm K H φ χ M → FW K χ H φ W' W → (∀ b H' φ' M', Adv H φ H' φ' → Mm K H' φ' χ M' → Q' b M' → Q b H') → me W' ρ M Q' → te W σ H Q
def mNoPart : MO2 := fun _ M Q => Q none M
theorem E_nopart : SP2 K (fun _ => tNoPart) (fun _ => mNoPart) := ⟨fun _ m _ f h => f _ _ _ _ Adv.refl m h⟩
def mPart (ma : ME) : MO2 := fun ρ M Q => ma ρ M fun x M1 => match x with
  | .int i => Q (some i) M1
  | _ => False
theorem E_part (a : SE K ta ma) : SP2 K (fun W => tPart (ta W)) (fun W => mPart (ma W)) := ⟨fun r m w f h =>
  a.run r m w (fun v d H1 φ1 M1 A1 m1 r1 h1 => by
    split at h1
    · obtain rfl := vInt r1
      exact ⟨_, rfl, f _ _ _ _ A1 m1 h1⟩
    · exact h1.elim) h⟩
variable {tl th : WX → TO} {ml mh : WD → MO2}
def mSl (n : MO3) (ma : ME) (ml mh : MO2) : ME := fun ρ M Q => ma ρ M fun x M1 => ml ρ M1 fun l M2 => mh ρ M2 fun u M3 => n x l u M3 Q
theorem E_sl {r : V → Option Int → Option Int → Hp → VK → Prop} {n : MO3} (o : SO3 K r n) (a : SE K ta ma) (l : SP2 K tl ml) (h : SP2 K th mh) : SE K (fun W => tSl r (ta W) (tl W) (th W)) (fun W => mSl n (ma W) (ml W) (mh W)) := ⟨fun r m w f hh =>
  a.run r m w (fun v d H1 φ1 M1 A1 m1 r1 h1 => l.run (r.adv A1) m1 (w.adv A1) (fun x H2 φ2 M2 A2 m2 h2 => h.run (r.adv (A1.trans A2)) m2 (w.adv (A1.trans A2)) (fun y H3 φ3 M3 A3 m3 h3 => o m3 (r1.adv (A2.trans A3)) (f.adv ((A1.trans A2).trans A3)) h3) h2) h1) hh⟩
/-! builtins, methods -/
def mCB (n : List Da → Mem → TK → Prop) (s : MA) : ME := fun ρ M Q => s ρ M fun ds M1 => n ds M1 Q
theorem E_cb {r : List V → Hp → VK → Prop} {n : List Da → Mem → TK → Prop} (c : SC K r n) (s : SA K as ms) : SE K (fun W => tCB r (as W)) (fun W => mCB n (ms W)) := ⟨fun r m w f h =>
  s.run r m w (fun vs ds H1 φ1 M1 A1 m1 r1 h1 => c m1 r1 (f.adv A1) h1) h⟩
/-- the kind of thing that a method belongs to -/
def okM (T : String) : Da → Mem → Prop := if T = "str" then okS else if T = "list" then okLs else if T = "dict" then okDc else fun _ _ => False
theorem okM_run {H : Hp} {φ χ : List Addr} {M : Mem} {T : String} {v : V} {d : Da} (m : Mm K H φ χ M) (h : Rp K H φ χ v d) (o : okM T d M) : tyW K T v H := by
  unfold okM at o
  split at o
  · rename_i e; rw [e]; exact okS_run h o
  · split at o
    · rename_i e; rw [e]; exact okL_run m h o
    · split at o
      · rename_i e; rw [e]; exact okD_run m h o
      · exact o.elim
def mBM (T : String) (n : Da → List Da → Mem → TK → Prop) (ma : ME) (s : MA) : ME := fun ρ M Q => ma ρ M fun x M1 => okM T x M1 ∧ s ρ M1 fun xs M2 => n x xs M2 Q
def mBM0 (T : String) (n : Da → List Da → Mem → TK → Prop) (ma : ME) : ME := fun ρ M Q => ma ρ M fun x M1 => okM T x M1 ∧ n x [] M1 Q
theorem E_bm {T : String} {r : V → List V → Hp → VK → Prop} {n : Da → List Da → Mem → TK → Prop} (o : SMr K r n) (a : SE K ta ma) (s : SA K as ms) : SE K (fun W => tBMW K T r (ta W) (as W)) (fun W => mBM T n (ma W) (ms W)) := ⟨fun r m w f h =>
  a.run r m w (fun v d H1 φ1 M1 A1 m1 r1 h1 => ⟨okM_run m1 r1 h1.1, s.run (r.adv A1) m1 (w.adv A1) (fun vs ds H2 φ2 M2 A2 m2 r2 h2 => o m2 (r1.adv A2) r2 (f.adv (A1.trans A2)) h2) h1.2⟩) h⟩
theorem E_bm0 {T : String} {r : V → List V → Hp → VK → Prop} {n : Da → List Da → Mem → TK → Prop} (o : SMr K r n) (a : SE K ta ma) : SE K (fun W => tBM0W K T r (ta W)) (fun W => mBM0 T n (ma W)) := ⟨fun r m w f h =>
  a.run r m w (fun v d H1 φ1 M1 A1 m1 r1 h1 => ⟨okM_run m1 r1 h1.1, o m1 r1 .nil (f.adv A1) h1.2⟩) h⟩
/-! targets -/
variable {tg tg' : WX → TG} {mg mg' : WD → MG} {gs : WX → TGs} {mgs : WD → MGs}
def hName (i : Nat) : MG := fun d ρ M Q => Q (ρ.set i (some d)) M
theorem G_name (i : Nat) : SG K (fun _ => gName i) (fun _ => hName i) := ⟨fun r m w rv f h => f _ _ _ _ _ Adv.refl (r.set rv) m h⟩
def hNil : MGs := fun ds ρ M Q => ds = [] ∧ Q ρ M
theorem G_nil : SGs K (fun _ => gNil) (fun _ => hNil) := ⟨fun r m w rv f h => by
  obtain ⟨rfl, h⟩ := h
  cases rv
  exact ⟨rfl, f _ _ _ _ _ Adv.refl r m h⟩⟩
def hCons (g : MG) (gs : MGs) : MGs := fun ds ρ M Q => match ds with
  | d :: ds => g d ρ M fun ρ' M' => gs ds ρ' M' Q
  | [] => False
theorem G_cons (g : SG K tg mg) (s : SGs K gs mgs) : SGs K (fun W => gCons (tg W) (gs W)) (fun W => hCons (mg W) (mgs W)) := ⟨fun r m w rv f h => by
  unfold hCons at h
  split at h
  · cases rv with
    | cons h1 r1 =>
      exact ⟨_, _, rfl, g.run r m w h1 (fun σ' H' φ' ρ' M' A r' m' h' => s.run r' m' (w.adv A) (r1.adv A) (f.adv A) h') h⟩
  · exact h.elim⟩
def hTup (n : Nat) (gs : MGs) : MG := fun d ρ M Q => match look M d with
  | .tup ds => ds.length = n ∧ gs ds ρ M Q
  | _ => False
theorem G_tup {n : Nat} (s : SGs K gs mgs) : SG K (fun W => gTup K n (gs W)) (fun W => hTup n (mgs W)) := ⟨fun r m w rv f h => by
  unfold hTup at h
  split at h
  · rename_i ds e
    obtain ⟨a, vs, rfl, hs, rl⟩ := vT m rv e
    exact ⟨a, vs, rfl, hs, by rw [rl.len]; exact h.1, s.run r m w rl f h.2⟩
  · exact h.elim⟩
def hStar (n i : Nat) (gs : MGs) : MG := fun d ρ M Q => match seqD M d with
  | some ds => n ≤ ds.length + 1 ∧ ds.length ≤ 16384 ∧ gs (ds.take i ++ [.lst ((ds.drop i).take (ds.length + 1 - n))] ++ (ds.drop i).drop (ds.length + 1 - n)) ρ M Q
  | none => False
theorem G_star {n i : Nat} (s : SGs K gs mgs) : SG K (fun W => gStar K n i (gs W)) (fun W => hStar n i (mgs W)) := ⟨fun {χ W W' σ H φ ρ M v d Q Q'} r m w rv f h => by
  unfold hStar at h
  split at h
  · rename_i ds e
    obtain ⟨a, vs, rfl, hs, rl⟩ := seqD_of m rv e
    refine ⟨a, vs, rfl, hs.elim .inr .inl, by rw [rl.len]; exact h.1, by rw [rl.len]; exact h.2.1, fun D hD => ?_⟩
    rw [rl.len]
    have A : Adv H φ (upd H D (HO.lst ((vs.drop i).take (ds.length + 1 - n)))) φ := Adv.new hD
    refine s.run (r.adv A) (m.new hD) (w.adv A) ?_ (f.adv A) h.2.2
    have rm : RpL K H φ χ ((vs.drop i).take (ds.length + 1 - n)) ((ds.drop i).take (ds.length + 1 - n)) := (rl.drop i).take _
    exact (((rl.take i).adv A).app (.cons (.lst upd_same (m.nin hD) (fun c => m.hid D c hD) (rm.newObj hD)) .nil)).app (((rl.drop i).drop _).adv A)
  · exact h.elim⟩
abbrev MSet := Da → Da → Da → Mem → (Mem → Prop) → Prop
def SSet (K : PySem.W.Frag) (r : TSet) (n : MSet) : Prop := ∀ {χ H φ M o i v dO di dv} {Q : Hp → Prop} {Q' : Mem → Prop}, Mm K H φ χ M → Rp K H φ χ o dO → Rp K H φ χ i di → Rp K H φ χ v dv → (∀ H' φ' M', Adv H φ H' φ' → Mm K H' φ' χ M' → Q' M' → Q H') → n dO di dv M Q' → r o i v H Q
def nSet : MSet := fun o i v M Q => match o with
  | .cell n => match M[n]? with
    | some (.lst ds) => match i with
      | .int k => match ixN ds.length k with
        | some j => Q (M.set n (.lst (ds.set j v)))
        | none => False
      | _ => False
    | some (.dct kds) => ∃ k, keyD i = some k ∧ kds.length ≤ 1000000 ∧ Q (M.set n (.dct (putD kds k v)))
    | _ => False
  | _ => False
theorem O_set : SSet K rSetB nSet := by
  intro χ H φ M o i v dO di dv Q Q' m ho hi hv f h
  unfold nSet at h
  split at h
  · cases ho with
    | cell ha =>
      split at h
      · rename_i n ds e
        obtain ⟨vs, e1, r⟩ := m.at_ _ _ _ ha e
        split at h
        · obtain rfl := vInt hi
          split at h
          · rename_i j ej
            refine .inl ⟨_, vs, _, j, rfl, rfl, e1, by rw [r.len]; exact ej, f _ _ _ (Adv.mut (List.mem_of_getElem? ha)) (m.mut (d := .lst _) ha ⟨_, upd_same, (r.set hv j).adv (Adv.mut (List.mem_of_getElem? ha))⟩) h⟩
          · exact h.elim
        · exact h.elim
      · rename_i n kds e
        obtain ⟨kvs, e1, r⟩ := m.at_ _ _ _ ha e
        obtain ⟨k, hk, hl, q⟩ := h
        refine .inr ⟨_, _, rfl, .inl ⟨kvs, k, e1, keyD_of hi hk, by rw [r.len, sizeLine_eq]; omega, rfl⟩, f _ _ _ (Adv.mut (List.mem_of_getElem? ha)) (m.mut (d := .dct _) ha ⟨_, upd_same, (r.put hv).adv (Adv.mut (List.mem_of_getElem? ha))⟩) q⟩
      · exact h.elim
  · exact h.elim
def hSub (mo mi : ME) (n : MSet) : MG := fun d ρ M Q => mo ρ M fun o M1 => mi ρ M1 fun i M2 => n o i d M2 fun M3 => Q ρ M3
theorem G_sub {r : TSet} {n : MSet} (o : SSet K r n) (a : SE K ta ma) (b : SE K tb mb) : SG K (fun W => gSub (ta W) (tb W) r) (fun W => hSub (ma W) (mb W) n) := ⟨fun r m w rv f h =>
  a.run r m w (fun v d H1 φ1 M1 A1 m1 r1 h1 => b.run (r.adv A1) m1 (w.adv A1) (fun u e H2 φ2 M2 A2 m2 r2 h2 => o m2 (r1.adv A2) r2 (rv.adv (A1.trans A2)) (fun H3 φ3 M3 A3 m3 h3 => f _ _ _ _ _ ((A1.trans A2).trans A3) (r.adv ((A1.trans A2).trans A3)) m3 h3) h2) h1) h⟩
end
end Z

/-! T7: cells, statements, loops, comprehensions, calls, try -/
namespace Z
open PySem PySem.Spec PyProof.Rows L2 Evl
section
variable {K : PySem.W.Frag} {ta tb : WX → TE} {ma mb : WD → ME} {as : WX → TA} {ms : WD → MA}
def ldD : Da → Bool
  | .lst _ => true
  | .dct _ => true
  | _ => false
/-! ### what is changed later: a new cell. SN: the expression's end is a new object at an address where nothing was -/
structure SN (K : PySem.W.Frag) (te : WX → TE) (me : WD → ME) : Prop where
  run : ∀ {χ W W' σ H φ ρ M} {Q : VK} {Q' : TK}, Rs K H φ χ σ ρ → Mm K H φ χ M → FW K χ H φ W' W → (∀ d M', Q' d M' → ldD d = true) →
    (∀ p d H' φ' M', Adv H φ H' φ' → H p = none → p ∉ φ' → p ∉ χ → Mm K H' φ' (p :: χ) M' → CellAt K H' φ' (p :: χ) p d → Q' d M' → Q (.ref p) H') → me W' ρ M Q' → te W σ H Q
/-- the simple way: a new list at the end -/
theorem SN.lst {χ φ φ1 : List Addr} {H H1 : Hp} {M1 : Mem} {Q : VK} {Q' : TK} (f : ∀ p d H' φ' M', Adv H φ H' φ' → H p = none → p ∉ φ' → p ∉ χ → Mm K H' φ' (p :: χ) M' → CellAt K H' φ' (p :: χ) p d → Q' d M' → Q (.ref p) H')
    {p : Addr} {vs : List V} {ds : List Da} (A : Adv H φ H1 φ1) (m : Mm K H1 φ1 χ M1) (hp : H1 p = none) (r : RpL K H1 φ1 χ vs ds) (q : Q' (.lst ds) M1) : Q (.ref p) (upd H1 p (.lst vs)) := by
  have h0 : H p = none := by
    cases e : H p with
    | none => rfl
    | some o => exact absurd hp (A.dom p (by rw [e]; simp))
  refine f p (.lst ds) _ φ1 M1 (A.trans (Adv.new hp)) h0 (m.nin hp) (fun c => m.hid p c hp) (m.hideN hp) ⟨vs, upd_same, (r.hide hp).at_ (List.mem_cons_self ..)⟩ q
theorem SN.dct {χ φ φ1 : List Addr} {H H1 : Hp} {M1 : Mem} {Q : VK} {Q' : TK} (f : ∀ p d H' φ' M', Adv H φ H' φ' → H p = none → p ∉ φ' → p ∉ χ → Mm K H' φ' (p :: χ) M' → CellAt K H' φ' (p :: χ) p d → Q' d M' → Q (.ref p) H')
    {p : Addr} {vs : List (Key × V)} {ds : List (Key × Da)} (A : Adv H φ H1 φ1) (m : Mm K H1 φ1 χ M1) (hp : H1 p = none) (r : RpK K H1 φ1 χ vs ds) (q : Q' (.dct ds) M1) : Q (.ref p) (upd H1 p (.dK vs)) := by
  have h0 : H p = none := by
    cases e : H p with
    | none => rfl
    | some o => exact absurd hp (A.dom p (by rw [e]; simp))
  refine f p (.dct ds) _ φ1 M1 (A.trans (Adv.new hp)) h0 (m.nin hp) (fun c => m.hid p c hp) (m.hideN hp) ⟨vs, upd_same, (r.hide hp).at_ (List.mem_cons_self ..)⟩ q
theorem N_lst (s : SA K as ms) : SN K (fun W => tLst (as W)) (fun W => mLst (ms W)) := ⟨fun r m w sh f h =>
  s.run r m w (fun vs ds H1 φ1 M1 A1 m1 r1 h1 => ⟨by rw [r1.len]; exact mio h1.1, fun p hp => SN.lst f A1 m1 hp r1 h1.2⟩) h⟩
theorem N_dnew : SN K (fun _ => tDNewK) (fun _ => mDNew) := ⟨fun r m w sh f h p hp => SN.dct f Adv.refl m hp .nil h⟩
theorem N_list (s : SA K as ms) : SN K (fun W => tCB (rListA K) (as W)) (fun W => mCB nList (ms W)) := ⟨fun r m w sh f h =>
  s.run r m w (fun vs ds H1 φ1 M1 A1 m1 r1 h1 => by
    unfold nList at h1
    split at h1
    · obtain ⟨v, rfl, h2⟩ := r1.one
      split at h1
      · rename_i ds e
        obtain ⟨a, vs, rfl, hs, rl⟩ := seqD_of m1 h2 e
        exact ⟨a, vs, rfl, hs, fun l hl => SN.lst f A1 m1 hl rl h1⟩
      · exact h1.elim
    · exact h1.elim) h⟩
theorem N_add (a : SE K ta ma) (b : SE K tb mb) : SN K (fun W => tOp (rAddA K) (ta W) (tb W)) (fun W => mOp nAdd (ma W) (mb W)) := ⟨fun r m w sh f h =>
  a.run r m w (fun v d H1 φ1 M1 A1 m1 r1 h1 => b.run (r.adv A1) m1 (w.adv A1) (fun u e H2 φ2 M2 A2 m2 r2 h2 => by
    have r1 := r1.adv A2
    unfold nAdd at h2
    split at h2
    · have := sh _ _ h2; cases this
    · have := sh _ _ h2.2; cases this
    · split at h2
      · rename_i x y e1 e2
        obtain ⟨p, vs, rfl, g1, l1⟩ := vLE m2 r1 e1
        obtain ⟨q, ws, rfl, g2, l2⟩ := vLE m2 r2 e2
        exact .inr (.inr (.inl ⟨p, q, vs, ws, rfl, rfl, g1, g2, by rw [l1.len, l2.len]; exact h2.1, fun n hn => SN.lst f (A1.trans A2) m2 hn (l1.app l2) h2.2⟩))
      · have := sh _ _ h2.2.2.2; cases this
      · exact h2.elim) h1) h⟩
theorem N_sl {tl th : WX → TO} {ml mh : WD → MO2} (a : SE K ta ma) (l : SP2 K tl ml) (h : SP2 K th mh) : SN K (fun W => tSl (Z.rSlA K) (ta W) (tl W) (th W)) (fun W => mSl nSl (ma W) (ml W) (mh W)) := ⟨fun {χ W W' σ H φ ρ M Q Q'} r m w sh f hh =>
  a.run r m w (fun v d H1 φ1 M1 A1 m1 r1 h1 => l.run (r.adv A1) m1 (w.adv A1) (fun x H2 φ2 M2 A2 m2 h2 => h.run (r.adv (A1.trans A2)) m2 (w.adv (A1.trans A2)) (fun y H3 φ3 M3 A3 m3 h3 => by
    have r1 := r1.adv (A2.trans A3)
    unfold nSl at h3
    split at h3
    · have := sh _ _ h3; cases this
    · rename_i ds e
      obtain ⟨a, vs, rfl, hs, rl⟩ := vL m3 r1 e
      refine .inr (.inl ⟨a, vs, rfl, hs, fun p hp => ?_⟩)
      have r2 : RpL K H3 φ3 χ (cutV vs x y) (cutL ds x y) := by
        unfold cutV cutL
        rw [rl.len]
        exact (rl.drop _).take _
      exact SN.lst f ((A1.trans A2).trans A3) m3 hp r2 h3
    · split at h3
      · have := sh _ _ h3; cases this
      · exact h3.elim
    · exact h3.elim) h2) h1) hh⟩
theorem N_disp {ts : WX → List (TE × TE)} {ms : WD → List (ME × ME)} (s : SPs K ts ms) : SN K (fun W => tDisp (ts W)) (fun W => mDisp (ms W)) := ⟨fun {χ W W' σ H φ ρ M Q Q'} r m w sh f h p hp => by
  refine s.run (χ := p :: χ) (r.hideN hp) (m.hideN hp) ((w.adv (Adv.new hp)).hide) ?_ h
  intro v kvs kds H1 φ1 M1 A1 m1 e1 rk h1
  have np : p ∉ φ := m.nin hp
  have hp1 : H1 p = some (.dK []) := A1.keep p _ upd_same np
  have np1 : p ∉ φ1 := A1.nin upd_same np
  have hD : p ∈ p :: χ := List.mem_cons_self ..
  refine ⟨hp1, kvs, e1, by rw [rk.len]; exact h1.1, ?_⟩
  have r2 : RpK K (upd H1 p (.dK (mergeK [] kvs))) φ1 (p :: χ) (mergeK [] kvs) (mergeD [] kds) := (mergeD_run rk .nil).at_ hD
  have A2 : Adv H φ (upd H1 p (.dK (mergeK [] kvs))) φ1 := {
    keep := fun a o e n => by
      rw [upd_ne (ne_of_none e hp)]
      exact A1.keep a o (by rw [upd_ne (ne_of_none e hp)]; exact e) n
    pre := by
      obtain ⟨ψ, e, q⟩ := A1.pre
      refine ⟨ψ, e, fun a ha => ?_⟩
      have z := q a ha
      by_cases ea : a = p
      · rw [ea, upd_same] at z; cases z
      · rw [upd_ne ea] at z; exact z
    dom := fun a e => upd_some (A1.dom a (upd_some e)) }
  exact f p (.dct (mergeD [] kds)) _ _ _ A2 hp np1 (fun c => m.hid p c hp) (m1.updH hD) ⟨_, upd_same, r2⟩ h1.2⟩
/-- the new object as a cell -/
def mCell (ma : ME) : ME := fun ρ M Q => ma ρ M fun d M1 => match d with
  | .lst ds => Q (.cell M1.length) (M1 ++ [.lst ds])
  | .dct kds => Q (.cell M1.length) (M1 ++ [.dct kds])
  | _ => False
theorem snoc_at {α : Type} (l : List α) (a : α) : (l ++ [a])[l.length]? = some a := by simp
theorem nap {α : Type} {a p : α} {l : List α} (h : a ∉ l) (n : a ≠ p) : a ∉ l ++ [p] := fun m => (List.mem_append.1 m).elim h fun q => n (List.mem_singleton.1 q)
theorem nhd {α : Type} {a p : α} {l : List α} (h : a ∉ p :: l) : a ≠ p ∧ a ∉ l := ⟨fun e => h (by rw [e]; exact List.mem_cons_self ..), fun m => h (List.mem_cons_of_mem _ m)⟩
mutual
theorem Rp.toC {H : Hp} {φ χ : List Addr} {p : Addr} : ∀ {v : V} {d : Da}, Rp K H φ (p :: χ) v d → Rp K H (φ ++ [p]) χ v d
  | _, _, .non => .non
  | _, _, .bl b => .bl b
  | _, _, .int i => .int i
  | _, _, .str h => .str h
  | _, _, .ty n => .ty n
  | _, _, .gl x => .gl x
  | _, _, .tup h n m r => .tup h (nap n (nhd m).1) (nhd m).2 (RpL.toC r)
  | _, _, .lst h n m r => .lst h (nap n (nhd m).1) (nhd m).2 (RpL.toC r)
  | _, _, .dct h c n m r => .dct h c (nap n (nhd m).1) (nhd m).2 (RpK.toC r)
  | _, _, .obj h n m r => .obj h (nap n (nhd m).1) (nhd m).2 (RpF.toC r)
  | _, _, .klR h q n m r => .klR h q (nap n (nhd m).1) (nhd m).2 (RpL.toC r)
  | _, _, .klK h r => .klK h (RpL.toC r)
  | _, _, .ktK h r => .ktK h (RpL.toC r)
  | _, _, .cell h => .cell (by rw [List.getElem?_append_left (List.getElem?_eq_some_iff.1 h).1]; exact h)
  | _, _, .exv h n m r => .exv h (nap n (nhd m).1) (nhd m).2 (RpF.toC r)
theorem RpL.toC {H : Hp} {φ χ : List Addr} {p : Addr} : ∀ {v : List V} {d : List Da}, RpL K H φ (p :: χ) v d → RpL K H (φ ++ [p]) χ v d
  | _, _, .nil => .nil
  | _, _, .cons h r => .cons (Rp.toC h) (RpL.toC r)
theorem RpK.toC {H : Hp} {φ χ : List Addr} {p : Addr} : ∀ {v : List (Key × V)} {d : List (Key × Da)}, RpK K H φ (p :: χ) v d → RpK K H (φ ++ [p]) χ v d
  | _, _, .nil => .nil
  | _, _, .cons h r => .cons (Rp.toC h) (RpK.toC r)
theorem RpF.toC {H : Hp} {φ χ : List Addr} {p : Addr} : ∀ {v : List (Str × V)} {d : List (Str × Da)}, RpF K H φ (p :: χ) v d → RpF K H (φ ++ [p]) χ v d
  | _, _, .nil => .nil
  | _, _, .cons h r => .cons (Rp.toC h) (RpF.toC r)
end
theorem CellAt.toC {H : Hp} {φ χ : List Addr} {p a : Addr} {d : Da} (c : CellAt K H φ (p :: χ) a d) : CellAt K H (φ ++ [p]) χ a d := by
  cases d with
  | lst ds => obtain ⟨vs, q, r⟩ := c; exact ⟨vs, q, r.toC⟩
  | dct ds => obtain ⟨vs, q, r⟩ := c; exact ⟨vs, q, r.toC⟩
  | obj c ds => obtain ⟨dx, vs, q, r⟩ := c; exact ⟨dx, vs, q, r.toC⟩
  | gl x => exact c
  | _ => exact c.elim
theorem Mm.toC {H : Hp} {φ χ : List Addr} {p : Addr} {M : Mem} {d : Da} (m : Mm K H φ (p :: χ) M) (np : p ∉ φ) (nx : p ∉ χ) (c : CellAt K H φ (p :: χ) p d) : Mm K H (φ ++ [p]) χ (M ++ [d]) where
  nd := by
    rw [List.nodup_append]
    refine ⟨m.nd, by simp, fun a ha b hb q => ?_⟩
    rw [List.mem_singleton.1 hb] at q
    exact np (by rw [← q]; exact ha)
  len := by rw [List.length_append, List.length_append, m.len]; rfl
  dis := fun a ha => by
    rcases List.mem_append.1 ha with ha | ha
    · exact (nhd (m.dis a ha)).2
    · rw [List.mem_singleton.1 ha]; exact nx
  hid := fun a ha => m.hid a (List.mem_cons_of_mem _ ha)
  at_ := fun n a e e1 e2 => by
    by_cases l : n < φ.length
    · rw [List.getElem?_append_left l] at e1
      rw [List.getElem?_append_left (by rw [← m.len]; exact l)] at e2
      exact (m.at_ n a e e1 e2).toC
    · have l2 : φ.length ≤ n := Nat.le_of_not_lt l
      rw [List.getElem?_append_right l2] at e1
      rw [List.getElem?_append_right (by rw [← m.len]; exact l2)] at e2
      have z : n - φ.length = 0 := by
        have := (List.getElem?_eq_some_iff.1 e1).1
        simp at this
        omega
      rw [z] at e1
      rw [show n - M.length = 0 by rw [← m.len]; exact z] at e2
      simp at e1 e2
      rw [← e1, ← e2]
      exact c.toC
theorem E_cell (a : SN K ta ma) : SE K ta (fun W => mCell (ma W)) := ⟨fun {χ W W' σ H φ ρ M Q Q'} r m w f h => by
  refine a.run r m w (Q' := fun d M1 => match d with | .lst ds => Q' (.cell M1.length) (M1 ++ [.lst ds]) | .dct kds => Q' (.cell M1.length) (M1 ++ [.dct kds]) | _ => False) ?_ ?_ h
  · intro d M1 q
    split at q
    · rfl
    · rfl
    · exact q.elim
  · intro p d H' φ' M' A hp np nx m' c q
    have A2 : Adv H φ H' (φ' ++ [p]) := ⟨A.keep, by
      obtain ⟨ψ, e, z⟩ := A.pre
      refine ⟨ψ ++ [p], by rw [e]; simp, fun a ha => ?_⟩
      rcases List.mem_append.1 ha with ha | ha
      · exact z a ha
      · rw [List.mem_singleton.1 ha]; exact hp, A.dom⟩
    have at_ : (φ' ++ [p])[M'.length]? = some p := by
      rw [← m'.len]
      exact snoc_at _ _
    split at q
    · exact f _ _ _ (φ' ++ [p]) _ A2 (m'.toC np nx c) (.cell at_) q
    · exact f _ _ _ (φ' ++ [p]) _ A2 (m'.toC np nx c) (.cell at_) q
    · exact q.elim⟩
/-! ### statements -/
variable {ts us : WX → TS} {mt mu : WD → MS} {tt : WX → TT} {mtt : WD → MT} {tg : WX → TG} {mg : WD → MG}
def mNext : MS := fun D ρ M => D.nx ρ M
theorem S_next : SS K (fun _ => tNext) (fun _ => mNext) := ⟨fun r m w n t b c h => n _ _ _ _ _ Adv.refl r m h⟩
def mSeq (t u : MS) : MS := fun D ρ M => t { D with nx := fun ρ M => u D ρ M } ρ M
theorem S_seq (s : SS K ts mt) (u : SS K us mu) : SS K (fun W => tSeq (ts W) (us W)) (fun W => mSeq (mt W) (mu W)) := ⟨fun {χ W W' σ H φ ρ M D D'} r m w n t b c h =>
  s.run (D' := { D' with nx := fun ρ M => mu W' D' ρ M }) (D := { D with nx := us W D }) r m w (fun σ' H' φ' ρ' M' A r' m' h' => u.run r' m' (w.adv A) (n.adv A) (t.adv A) (b.adv A) (c.adv A) h') t b c h⟩
def mCut (t u : MS) : MS := fun D ρ M => ∃ Mid : Sl → Mem → Prop, t { D with nx := Mid } ρ M ∧ ∀ ρ' M', Mid ρ' M' → u D ρ' M'
theorem S_cut (s : SS K ts mt) (u : SS K us mu) : SS K (fun W => tCut (ts W) (us W)) (fun W => mCut (mt W) (mu W)) := ⟨fun {χ W W' σ H φ ρ M D D'} r m w n t b c h => by
  obtain ⟨Mid, h1, h2⟩ := h
  exact ⟨us W D, s.run (D' := { D' with nx := Mid }) (D := { D with nx := us W D }) r m w (fun σ' H' φ' ρ' M' A r' m' h' => u.run r' m' (w.adv A) (n.adv A) (t.adv A) (b.adv A) (c.adv A) (h2 _ _ h')) t b c h1, fun _ _ h => h⟩⟩
def mRet (ma : ME) : MS := fun D ρ M => ma ρ M D.rt
theorem S_ret (a : SE K ta ma) : SS K (fun W => tRet (ta W)) (fun W => mRet (ma W)) := ⟨fun r m w n t b c h => a.run r m w t h⟩
def mRetN : MS := fun D _ M => D.rt .non M
theorem S_retN : SS K (fun _ => tRetN) (fun _ => mRetN) := ⟨fun r m w n t b c h => t.pure m .non h⟩
def mIfS (c : MT) (t u : MS) : MS := fun D ρ M => c ρ M fun k M1 => if k = true then t D ρ M1 else u D ρ M1
theorem S_if (k : ST K tt mtt) (s : SS K ts mt) (u : SS K us mu) : SS K (fun W => tIfS (tt W) (ts W) (us W)) (fun W => mIfS (mtt W) (mt W) (mu W)) := ⟨fun r m w n t b c h =>
  k.run r m w (fun k H1 φ1 M1 A1 m1 h1 => by
    cases k with
    | true => exact s.run (r.adv A1) m1 (w.adv A1) (n.adv A1) (t.adv A1) (b.adv A1) (c.adv A1) h1
    | false => exact u.run (r.adv A1) m1 (w.adv A1) (n.adv A1) (t.adv A1) (b.adv A1) (c.adv A1) h1) h⟩
def mDrop (ma : ME) : MS := fun D ρ M => ma ρ M fun _ M1 => D.nx ρ M1
theorem S_drop (a : SE K ta ma) : SS K (fun W => tDrop (ta W)) (fun W => mDrop (ma W)) := ⟨fun r m w n t b c h => a.run r m w (fun v d H1 φ1 M1 A1 m1 r1 h1 => n _ _ _ _ _ A1 (r.adv A1) m1 h1) h⟩
def mAsg (ma : ME) (g : MG) : MS := fun D ρ M => ma ρ M fun x M1 => g x ρ M1 D.nx
theorem S_asg (a : SE K ta ma) (g : SG K tg mg) : SS K (fun W => tAsg (ta W) (tg W)) (fun W => mAsg (ma W) (mg W)) := ⟨fun r m w n t b c h =>
  a.run r m w (fun v d H1 φ1 M1 A1 m1 r1 h1 => g.run (r.adv A1) m1 (w.adv A1) r1 (n.adv A1) h1) h⟩
def mPar (i j : Nat) (s : MA) : MS := fun D ρ M => s ρ M fun ds M1 => match ds with
  | [x, y] => D.nx ((ρ.set i (some x)).set j (some y)) M1
  | _ => False
theorem S_par {i j : Nat} (s : SA K as ms) : SS K (fun W => tPar i j (as W)) (fun W => mPar i j (ms W)) := ⟨fun r m w n t b c h =>
  s.run r m w (fun vs ds H1 φ1 M1 A1 m1 r1 h1 => by
    split at h1
    · obtain ⟨v, u, rfl, h2, h3⟩ := r1.two
      exact ⟨v, u, rfl, n _ _ _ _ _ A1 (((r.adv A1).set h2).set h3) m1 h1⟩
    · exact h1.elim) h⟩
theorem RpL.three {H : Hp} {φ χ : List Addr} {vs : List V} {d e f : Da} (r : RpL K H φ χ vs [d, e, f]) : ∃ v w u, vs = [v, w, u] ∧ Rp K H φ χ v d ∧ Rp K H φ χ w e ∧ Rp K H φ χ u f := by
  cases r with
  | cons h r =>
    obtain ⟨w, u, rfl, q, q'⟩ := r.two
    exact ⟨_, w, u, rfl, h, q, q'⟩
def mPar3 (i j l : Nat) (s : MA) : MS := fun D ρ M => s ρ M fun ds M1 => match ds with
  | [x, y, z] => D.nx (((ρ.set i (some x)).set j (some y)).set l (some z)) M1
  | _ => False
theorem S_par3 {i j l : Nat} (s : SA K as ms) : SS K (fun W => tPar3 i j l (as W)) (fun W => mPar3 i j l (ms W)) := ⟨fun r m w n t b c h =>
  s.run r m w (fun vs ds H1 φ1 M1 A1 m1 r1 h1 => by
    split at h1
    · obtain ⟨v, u, z, rfl, h2, h3, h4⟩ := r1.three
      exact ⟨v, u, z, rfl, n _ _ _ _ _ A1 ((((r.adv A1).set h2).set h3).set h4) m1 h1⟩
    · exact h1.elim) h⟩
/-! ### what a loop walks -/
structure ItD where
  items : List Da
  still : Mem → Prop
abbrev MI := Sl → Mem → (ItD → Mem → Prop) → Prop
def Turns (K : PySem.W.Frag) (χ : List Addr) (J : It) (I : ItD) (H0 : Hp) (φ0 : List Addr) : Prop := ∀ H φ M χ1, (∀ a ∈ χ1, a ∈ χ ∨ H0 a = none) → Adv H0 φ0 H φ → Mm K H φ χ1 M → I.still M →
  (∀ i, i < I.items.length → J.go i H ∧ ∀ x H', J.yld i H x H' → ∃ d, I.items[i]? = some d ∧ Adv H φ H' φ ∧ Mm K H' φ χ1 M ∧ Rp K H' φ χ1 x d) ∧ J.stop I.items.length H
structure SI (K : PySem.W.Frag) (wi : WX → TI) (mi : WD → MI) : Prop where
  run : ∀ {χ W W' σ H φ ρ M} {R : It → Hp → Prop} {R' : ItD → Mem → Prop}, Rs K H φ χ σ ρ → Mm K H φ χ M → FW K χ H φ W' W →
    (∀ J I H' φ' M', Adv H φ H' φ' → Mm K H' φ' χ M' → Turns K χ J I H' φ' → I.still M' → R' I M' → R J H') → mi W' ρ M R' → wi W σ H R
/-- a list, a tuple, a text -/
def itD (M : Mem) (x : Da) : Option (List Da) := match look M x with
  | .lst ds => some ds
  | .tup ds => some ds
  | .str z => some (z.cps.toList.map chS)
  | _ => none
def mAny (ma : ME) : MI := fun ρ M R => ma ρ M fun x M1 => match itD M1 x with
  | some ds => R ⟨ds, fun M2 => itD M2 x = some ds⟩ M1
  | none => False
theorem Rp.at1 {H0 H : Hp} {φ0 φ χ χ1 : List Addr} {v : V} {d : Da} (h : Rp K H0 φ0 χ v d) (hχ : ∀ a ∈ χ1, a ∈ χ ∨ H0 a = none) (A : Adv H0 φ0 H φ) : Rp K H φ χ1 v d := (h.wide hχ).adv A
theorem sq_inj {a : Addr} {H : Hp} {xs ys : List V} (I : True) : True := trivial
/-- what stands at a place, whichever way it is told: by the relation to one list of data -/
theorem turns_seq {χ : List Addr} {H0 : Hp} {φ0 : List Addr} {M0 : Mem} {v : V} {x : Da} {ds : List Da} (m0 : Mm K H0 φ0 χ M0) (hv : Rp K H0 φ0 χ v x) (e0 : itD M0 x = some ds) :
    ((∃ a, v = .ref a ∧ (∃ xs, SqL K H0 a xs) ∧ (∀ H φ M χ1, (∀ a ∈ χ1, a ∈ χ ∨ H0 a = none) → Adv H0 φ0 H φ → Mm K H φ χ1 M → itD M x = some ds → ∃ vs, SqL K H a vs ∧ RpL K H φ χ1 vs ds)) ∨
     (∃ a, v = .ref a ∧ (∃ xs, SqT K H0 a xs) ∧ (∀ H φ M χ1, (∀ a ∈ χ1, a ∈ χ ∨ H0 a = none) → Adv H0 φ0 H φ → Mm K H φ χ1 M → itD M x = some ds → ∃ vs, SqT K H a vs ∧ RpL K H φ χ1 vs ds)) ∨
     ∃ z, v = .str z ∧ ds = z.cps.toList.map chS) := by
  have e := e0
  unfold itD at e
  split at e
  · rename_i es q
    cases e
    obtain ⟨a, vs, rfl, hs, r⟩ := vL m0 hv q
    refine .inl ⟨a, rfl, ⟨vs, hs⟩, fun H φ M χ1 hχ A m e1 => ?_⟩
    have h1 := hv.at1 hχ A
    unfold itD at e1
    split at e1
    · rename_i fs q1
      cases e1
      obtain ⟨b, ws, e, hs, r⟩ := vL m h1 q1
      cases e
      exact ⟨ws, hs, r⟩
    · rename_i fs q1
      -- a list is no tuple: the same datum
      exfalso
      cases x <;> first | (cases q; done) | (cases q1; done) | skip
      · cases h1 with
        | cell h =>
          obtain ⟨d, e1', _, c⟩ := m.look h
          have e2 : M.getD _ (.gl "") = Da.tup _ := q1
          rw [e1'] at e2
          subst e2
          exact c
    · rename_i z q1
      exfalso
      obtain ⟨e, _⟩ := vS m h1 q1
      cases e
    · cases e1
  · rename_i es q
    cases e
    obtain ⟨a, vs, rfl, hs, r⟩ := vT m0 hv q
    refine .inr (.inl ⟨a, rfl, ⟨vs, hs⟩, fun H φ M χ1 hχ A m e1 => ?_⟩)
    have h1 := hv.at1 hχ A
    unfold itD at e1
    split at e1
    · rename_i fs q1
      exfalso
      cases x <;> first | (cases q; done) | (cases q1; done) | skip
      · cases hv with
        | cell h =>
          obtain ⟨d, e1', _, c⟩ := m0.look h
          have e2 : M0.getD _ (.gl "") = Da.tup _ := q
          rw [e1'] at e2
          subst e2
          exact c
    · rename_i fs q1
      cases e1
      obtain ⟨b, ws, e, hs, r⟩ := vT m h1 q1
      cases e
      exact ⟨ws, hs, r⟩
    · rename_i z q1
      exfalso
      obtain ⟨e, _⟩ := vS m h1 q1
      cases e
    · cases e1
  · rename_i z q
    cases e
    obtain ⟨rfl, _⟩ := vS m0 hv q
    exact .inr (.inr ⟨z, rfl, rfl⟩)
  · cases e
theorem I_seq (a : SE K ta ma) : SI K (fun W => iSeq K (ta W)) (fun W => mAny (ma W)) := ⟨fun {χ W W' σ H φ ρ M R R'} r m w f h => by
  refine a.run r m w (fun v x H1 φ1 M1 A1 m1 r1 h1 => ?_) h
  split at h1
  · rename_i ds e
    rcases turns_seq m1 r1 e with ⟨a, rfl, hx, t⟩ | ⟨a, rfl, hx, t⟩ | ⟨z, rfl, rfl⟩
    · refine .inl ⟨a, rfl, hx, f _ _ _ _ _ A1 m1 ?_ e h1⟩
      intro H φ M χ1 hχ A m st
      obtain ⟨vs, hs, rl⟩ := t H φ M χ1 hχ A m st
      refine ⟨fun i hi => ⟨?_, ?_⟩, ⟨vs, hs, Nat.le_of_eq rl.len⟩⟩
      · obtain ⟨v, hv, _⟩ := rl.get (i := i) (d := ds[i]) (by simp)
        exact ⟨vs, v, hs, hv⟩
      · rintro x H' ⟨rfl, y⟩
        obtain ⟨d, hd, rd⟩ := rl.get' (y vs hs)
        exact ⟨d, hd, Adv.refl, m, rd⟩
    · refine .inr (.inl ⟨a, rfl, hx, f _ _ _ _ _ A1 m1 ?_ e h1⟩)
      intro H φ M χ1 hχ A m st
      obtain ⟨vs, hs, rl⟩ := t H φ M χ1 hχ A m st
      refine ⟨fun i hi => ⟨?_, ?_⟩, ⟨vs, hs, Nat.le_of_eq rl.len⟩⟩
      · obtain ⟨v, hv, _⟩ := rl.get (i := i) (d := ds[i]) (by simp)
        exact ⟨vs, v, hs, hv⟩
      · rintro x H' ⟨rfl, y⟩
        obtain ⟨d, hd, rd⟩ := rl.get' (y vs hs)
        exact ⟨d, hd, Adv.refl, m, rd⟩
    · refine .inr (.inr ⟨z, rfl, f _ _ _ _ _ A1 m1 ?_ e h1⟩)
      intro H φ M χ1 hχ A m st
      have hl : (z.cps.toList.map chS).length = z.cps.size := by simp
      refine ⟨fun i hi => ⟨by show i < z.cps.size; rw [← hl]; exact hi, ?_⟩, by show z.cps.size ≤ _; rw [hl]; exact Nat.le_refl _⟩
      rintro x H' ⟨rfl, c, hc, rfl⟩
      refine ⟨chS c, ?_, Adv.refl, m, .ch c⟩
      show (List.map chS z.cps.toList)[i]? = _
      rw [List.getElem?_map, Array.getElem?_toList, hc]
      rfl
  · exact h1.elim⟩
def rngD (lo : Int) (n : Nat) : List Da := (List.range n).map fun (k : Nat) => .int (lo + (k : Int))
theorem rngD_len (lo : Int) (n : Nat) : (rngD lo n).length = n := by simp [rngD]
theorem turns_rng {χ : List Addr} {H0 : Hp} {φ0 : List Addr} (lo : Int) (n : Nat) : Turns K χ (Itr lo n) ⟨rngD lo n, fun _ => True⟩ H0 φ0 := fun H φ M χ1 hχ A m _ => by
  refine ⟨fun i hi => ⟨by show i < n; rw [← rngD_len lo n]; exact hi, ?_⟩, by show n ≤ (rngD lo n).length; rw [rngD_len]; exact Nat.le_refl _⟩
  rintro x H' ⟨rfl, rfl⟩
  have hi' : i < n := by rw [← rngD_len lo n]; exact hi
  exact ⟨.int (lo + i), by simp [rngD, hi'], Adv.refl, m, .int _⟩
def mRng1 (s : MA) : MI := fun ρ M R => s ρ M fun ds M1 => match ds with
  | [.int j] => -(2 ^ 62) ≤ j ∧ j < 2 ^ 62 ∧ R ⟨rngD 0 j.toNat, fun _ => True⟩ M1
  | _ => False
theorem I_rng1 (s : SA K as ms) : SI K (fun W => iRng1 (as W)) (fun W => mRng1 (ms W)) := ⟨fun {χ W W' σ H φ ρ M R R'} r m w f h => by
  refine s.run r m w (fun vs ds H1 φ1 M1 A1 m1 r1 h1 => ?_) h
  split at h1
  · obtain ⟨v, rfl, h2⟩ := r1.one
    obtain rfl := vInt h2
    exact ⟨_, rfl, h1.1, h1.2.1, f _ _ _ _ _ A1 m1 (turns_rng 0 _) trivial h1.2.2⟩
  · exact h1.elim⟩
def mRng2 (s : MA) : MI := fun ρ M R => s ρ M fun ds M1 => match ds with
  | [.int i, .int j] => (-(2 ^ 62) ≤ i ∧ i < 2 ^ 62 ∧ -(2 ^ 62) ≤ j ∧ j < 2 ^ 62) ∧ R ⟨rngD i (j - i).toNat, fun _ => True⟩ M1
  | _ => False
theorem I_rng2 (s : SA K as ms) : SI K (fun W => iRng2 (as W)) (fun W => mRng2 (ms W)) := ⟨fun {χ W W' σ H φ ρ M R R'} r m w f h => by
  refine s.run r m w (fun vs ds H1 φ1 M1 A1 m1 r1 h1 => ?_) h
  split at h1
  · obtain ⟨v, u, rfl, h2, h3⟩ := r1.two
    obtain rfl := vInt h2
    obtain rfl := vInt h3
    exact ⟨_, _, rfl, h1.1, f _ _ _ _ _ A1 m1 (turns_rng _ _) trivial h1.2⟩
  · exact h1.elim⟩
/-! ### for -/
/-- later cells and some slots are forgotten -/
def Wk (n : Nat) (ρ : Sl) (M : Mem) (ρ' : Sl) (M' : Mem) : Prop := (ρ' = ρ ∧ M' = M) ∨ (n ≤ M.length ∧ M' = M.take n ∧ cloL n M' = true ∧ slClo n ρ ρ')
theorem Wk.run {n : Nat} {χ : List Addr} {H0 H : Hp} {φ0 φ : List Addr} {σ : L2.St} {ρ ρ' : Sl} {M M' : Mem} (k : Wk n ρ M ρ' M') (hn : φ0.length ≤ n) (A : Adv H0 φ0 H φ) (r : Rs K H φ χ σ ρ) (m : Mm K H φ χ M) :
    ∃ φ', Adv H0 φ0 H φ' ∧ Rs K H φ' χ σ ρ' ∧ Mm K H φ' χ M' := by
  rcases k with ⟨rfl, rfl⟩ | ⟨h1, rfl, h2, h3⟩
  · exact ⟨φ, A, r, m⟩
  · exact ⟨φ.take n, A.cut hn, r.cut h3, m.cut h2⟩
def forL (still : Mem → Prop) (g : MG) (tb : MS) (D : En) (n : Nat) : List Da → Sl → Mem → Prop
  | [], ρ, M => D.nx ρ M
  | d :: ds, ρ, M => g d ρ M fun ρ1 M1 => tb { nx := fun ρ2 M2 => ∃ ρ3 M3, Wk n ρ2 M2 ρ3 M3 ∧ still M3 ∧ forL still g tb D n ds ρ3 M3, rt := D.rt, bk := D.nx, ct := fun ρ2 M2 => ∃ ρ3 M3, Wk n ρ2 M2 ρ3 M3 ∧ still M3 ∧ forL still g tb D n ds ρ3 M3 } ρ1 M1
def mFor (mi : MI) (g : MG) (tb : MS) : MS := fun D ρ M => mi ρ M fun I M1 => forL I.still g tb D M1.length I.items ρ M1
theorem S_for {wi : WX → TI} {mi : WD → MI} (i : SI K wi mi) (g : SG K tg mg) (s : SS K ts mt) : SS K (fun W => tFor (wi W) (tg W) (ts W)) (fun W => mFor (mi W) (mg W) (mt W)) := ⟨fun {χ W W' σ H φ ρ M D D'} r m w n t b c h => by
  refine i.run r m w (fun J I H0 φ0 M0 A0 m0 T st h1 => ?_) h
  let Inv : Nat → Nat → L2.St → Hp → Prop := fun k j σ1 H1 => ∃ φ1 ρ1 M1, k + j = I.items.length ∧ Adv H0 φ0 H1 φ1 ∧ Rs K H1 φ1 χ σ1 ρ1 ∧ Mm K H1 φ1 χ M1 ∧ I.still M1 ∧ forL I.still (mg W') (mt W') D' M0.length (I.items.drop k) ρ1 M1
  refine ⟨Inv, ⟨I.items.length, φ0, ρ, M0, by omega, Adv.refl, r.adv A0, m0, st, by rw [List.drop_zero]; exact h1⟩, ?_⟩
  rintro k j σ1 H1 ⟨φ1, ρ1, M1, hk, A1, r1, m1, st1, q⟩
  obtain ⟨go, stop⟩ := T H1 φ1 M1 χ (fun a h => .inl h) A1 m1 st1
  cases e : I.items.drop k with
  | nil =>
    have hl : I.items.length ≤ k := by
      have := congrArg List.length e
      rw [List.length_drop] at this
      simp at this
      omega
    have : k = I.items.length := by omega
    subst this
    rw [e] at q
    exact .inl ⟨stop, n _ _ _ _ _ (A0.trans A1) r1 m1 q⟩
  | cons d ds =>
    have hl : k < I.items.length := by
      have := congrArg List.length e
      rw [List.length_drop] at this
      simp at this
      omega
    have ed : I.items[k]? = some d := by
      have := congrArg (fun l => l[0]?) e
      simpa using this
    have eds : I.items.drop (k + 1) = ds := by
      have := congrArg List.tail e
      simpa using this
    rw [e] at q
    obtain ⟨g1, y1⟩ := go k hl
    refine .inr ⟨g1, fun σ' H' => ∃ φ' ρ' M', Adv H0 φ0 H' φ' ∧ Rs K H' φ' χ σ' ρ' ∧ Mm K H' φ' χ M' ∧ I.still M' ∧ forL I.still (mg W') (mt W') D' M0.length ds ρ' M', ?_, ?_⟩
    · rintro σ' H' ⟨φ', ρ', M', a1, a2, a3, a4, a5⟩
      exact ⟨j - 1, by omega, φ', ρ', M', by omega, a1, a2, a3, a4, by rw [eds]; exact a5⟩
    · intro x H2 y
      obtain ⟨d', hd', A2, m2, rx⟩ := y1 x H2 y
      rw [ed] at hd'
      cases hd'
      have A02 := A1.trans A2
      have wk : ∀ {σ' H' φ' ρ' M'}, Adv H0 φ0 H' φ' → Rs K H' φ' χ σ' ρ' → Mm K H' φ' χ M' → (∃ ρ3 M3, Wk M0.length ρ' M' ρ3 M3 ∧ I.still M3 ∧ forL I.still (mg W') (mt W') D' M0.length ds ρ3 M3) →
          ∃ φ' ρ' M', Adv H0 φ0 H' φ' ∧ Rs K H' φ' χ σ' ρ' ∧ Mm K H' φ' χ M' ∧ I.still M' ∧ forL I.still (mg W') (mt W') D' M0.length ds ρ' M' := by
        rintro σ' H' φ' ρ' M' A r m ⟨ρ3, M3, k, s3, q3⟩
        obtain ⟨φ3, A3, r3, m3⟩ := k.run (Nat.le_of_eq m0.len) A r m
        exact ⟨φ3, ρ3, M3, A3, r3, m3, s3, q3⟩
      refine g.run (r1.adv A2) m2 (w.adv (A0.trans A02)) rx (fun σ3 H3 φ3 ρ3 M3 A3 r3 m3 h3 => ?_) q
      let N' : Sl → Mem → Prop := fun ρ2 M2 => ∃ ρ3 M3, Wk M0.length ρ2 M2 ρ3 M3 ∧ I.still M3 ∧ forL I.still (mg W') (mt W') D' M0.length ds ρ3 M3
      refine s.run (D' := { nx := N', rt := D'.rt, bk := D'.nx, ct := N' }) r3 m3 (w.adv (A0.trans (A02.trans A3))) ?_ (t.adv (A0.trans (A02.trans A3))) ?_ ?_ h3
      · exact fun σ4 H4 φ4 ρ4 M4 A4 r4 m4 h4 => wk ((A02.trans A3).trans A4) r4 m4 h4
      · exact fun σ4 H4 φ4 ρ4 M4 A4 r4 m4 h4 => n _ _ _ _ _ (A0.trans ((A02.trans A3).trans A4)) r4 m4 h4
      · exact fun σ4 H4 φ4 ρ4 M4 A4 r4 m4 h4 => wk ((A02.trans A3).trans A4) r4 m4 h4⟩
end
end Z

/-! T8: comprehensions, calls, the def's end, try -/
namespace Z
open PySem PySem.Spec PyProof.Rows L2 Evl
section
variable {K : PySem.W.Frag} {ta tb : WX → TE} {ma mb : WD → ME} {as as' : WX → TA} {ms ms' : WD → MA} {ts us : WX → TS} {mt mu : WD → MS} {tt : WX → TT} {mtt : WD → MT}
/-! ### comprehensions -/
def wipeD (ρ : Sl) : List Nat → Sl
  | [] => ρ
  | v :: vs => (wipeD ρ vs).set v none
theorem Rs.wipe {H : Hp} {φ χ : List Addr} {σ : L2.St} {ρ : Sl} (r : Rs K H φ χ σ ρ) : ∀ vs : List Nat, Rs K H φ χ (wipe σ vs) (wipeD ρ vs)
  | [] => r
  | _ :: vs => (r.wipe vs).gone
theorem wipe_set {σ : L2.St} {i : Nat} {x : Option V} : ∀ {vs : List Nat}, i ∈ vs → wipe (σ.set i x) vs = wipe σ vs
  | [], h => by cases h
  | v :: vs, h => by
    unfold L2.wipe
    by_cases m : i ∈ vs
    · rw [wipe_set m]
    · have e : i = v := (List.mem_cons.1 h).elim id fun q => absurd q m
      subst e
      have c : ∀ {vs : List Nat}, i ∉ vs → L2.wipe (σ.set i x) vs = (L2.wipe σ vs).set i x := by
        intro vs
        induction vs with
        | nil => intro _; rfl
        | cons u us ih =>
          intro h
          unfold L2.wipe
          rw [ih (fun q => h (List.mem_cons_of_mem _ q)), List.set_comm]
          exact fun q => h (by rw [q]; exact List.mem_cons_self ..)
      rw [c m, List.set_set]
theorem wipe_wipe {σ : L2.St} : ∀ (vs : List Nat), wipe (wipe σ vs) vs = wipe σ vs := by
  have go : ∀ (us vs : List Nat), (∀ u ∈ us, u ∈ vs) → wipe (wipe σ us) vs = wipe σ vs := by
    intro us
    induction us with
    | nil => intro vs _; rfl
    | cons u us ih =>
      intro vs h
      show wipe ((wipe σ us).set u none) vs = _
      rw [wipe_set (h u (List.mem_cons_self ..))]
      exact ih vs fun w hw => h w (List.mem_cons_of_mem _ hw)
  exact fun vs => go vs vs fun _ h => h
/-- targets of a comprehension: they change the slots vs alone -/
structure SV (K : PySem.W.Frag) (vs : List Nat) (g : TG) (mg : MG) : Prop where
  run : ∀ {χ σ H φ ρ M v d} {Q : L2.St → Hp → Prop} {Q' : Sl → Mem → Prop}, Rs K H φ χ σ ρ → Mm K H φ χ M → Rp K H φ χ v d → (∀ σ' H' φ' ρ' M', Adv H φ H' φ' → Rs K H' φ' χ σ' ρ' → Mm K H' φ' χ M' → wipe σ' vs = wipe σ vs → Q' ρ' M' → Q σ' H') → mg d ρ M Q' → g v σ H Q
structure SVs (K : PySem.W.Frag) (vs : List Nat) (g : TGs) (mg : MGs) : Prop where
  run : ∀ {χ σ H φ ρ M v d} {Q : L2.St → Hp → Prop} {Q' : Sl → Mem → Prop}, Rs K H φ χ σ ρ → Mm K H φ χ M → RpL K H φ χ v d → (∀ σ' H' φ' ρ' M', Adv H φ H' φ' → Rs K H' φ' χ σ' ρ' → Mm K H' φ' χ M' → wipe σ' vs = wipe σ vs → Q' ρ' M' → Q σ' H') → mg d ρ M Q' → g v σ H Q
theorem V_name {vs : List Nat} (i : Nat) (h : i ∈ vs) : SV K vs (gName i) (hName i) := ⟨fun r m rv f q => f _ _ _ _ _ Adv.refl (r.set rv) m (wipe_set h) q⟩
theorem V_nil {vs : List Nat} : SVs K vs gNil hNil := ⟨fun r m rv f h => by
  obtain ⟨rfl, h⟩ := h
  cases rv
  exact ⟨rfl, f _ _ _ _ _ Adv.refl r m rfl h⟩⟩
theorem V_cons {vs : List Nat} {g : TG} {mg : MG} {gs : TGs} {mgs : MGs} (a : SV K vs g mg) (b : SVs K vs gs mgs) : SVs K vs (gCons g gs) (hCons mg mgs) := ⟨fun r m rv f h => by
  unfold hCons at h
  split at h
  · cases rv with
    | cons h1 r1 =>
      exact ⟨_, _, rfl, a.run r m h1 (fun σ' H' φ' ρ' M' A r' m' e' h' => b.run r' m' (r1.adv A) (fun σ2 H2 φ2 ρ2 M2 A2 r2 m2 e2 h2 => f _ _ _ _ _ (A.trans A2) r2 m2 (e2.trans e') h2) h') h⟩
  · exact h.elim⟩
theorem V_tup {vs : List Nat} {n : Nat} {gs : TGs} {mgs : MGs} (s : SVs K vs gs mgs) : SV K vs (gTup K n gs) (hTup n mgs) := ⟨fun r m rv f h => by
  unfold hTup at h
  split at h
  · rename_i ds e
    obtain ⟨a, ws, rfl, hs, rl⟩ := vT m rv e
    exact ⟨a, ws, rfl, hs, by rw [rl.len]; exact h.1, s.run r m rl f h.2⟩
  · exact h.elim⟩
def lcL (still : Mem → Prop) (g : MG) (tt : MT) (te : ME) (vs : List Nat) (ρ : Sl) : List Da → List Da → Mem → TK → Prop
  | [], acc, M, Q => Q (.lst acc) M
  | d :: ds, acc, M, Q => g d (wipeD ρ vs) M fun ρ2 M2 => tt ρ2 M2 fun b M3 => if b = true then te ρ2 M3 fun y M4 => still M4 ∧ lcL still g tt te vs ρ ds (acc ++ [y]) M4 Q else still M3 ∧ lcL still g tt te vs ρ ds acc M3 Q
def mLc (mi : MI) (g : MG) (tt : MT) (te : ME) (vs : List Nat) : ME := fun ρ M Q => mi ρ M fun I M1 => I.items.length ≤ 1000000 ∧ lcL I.still g tt te vs ρ I.items [] M1 Q
def W0 : WX := fun _ _ _ _ => False
def WD0 : WD := fun _ _ _ _ => False
theorem FW0 {χ φ : List Addr} {H : Hp} {W : WX} : FW K χ H φ WD0 W := fun _ _ _ _ _ _ _ _ _ _ _ _ _ _ _ _ h => h.elim
theorem E_lc {wi : WX → TI} {mi : WD → MI} {g : TG} {mg : MG} {tt : TT} {mt : MT} {te : TE} {me : ME} {vs : List Nat} (i : SI K wi mi) (v : SV K vs g mg) (t : ST K (fun _ => tt) (fun _ => mt)) (e : SE K (fun _ => te) (fun _ => me)) :
    SE K (fun W => tLc (wi W) g tt te vs) (fun W => mLc (mi W) mg mt me vs) := ⟨fun {χ W W' σ H φ ρ M Q Q'} r m w f h => by
  refine i.run r m w (fun J I H0 φ0 M0 A0 m0 T st h1 => ?_) h
  obtain ⟨hlen, h1⟩ := h1
  intro D hD
  have nD : D ∉ φ0 := m0.nin hD
  have hχ : ∀ a ∈ D :: χ, a ∈ χ ∨ H0 a = none := hidden hD
  have AD : Adv H0 φ0 (upd H0 D (.lst [])) φ0 := Adv.new hD
  have inD : D ∈ D :: χ := List.mem_cons_self ..
  let Inv : Nat → Nat → Hp → Prop := fun k j H1 => ∃ φ1 M1 vs1 acc, k + j = I.items.length ∧ Adv (upd H0 D (.lst [])) φ0 (upd H1 D (.lst [])) φ1 ∧ D ∉ φ1 ∧ Mm K H1 φ1 (D :: χ) M1 ∧ Rs K H1 φ1 (D :: χ) σ ρ ∧ I.still M1 ∧ H1 D = some (.lst vs1) ∧ RpL K H1 φ1 (D :: χ) vs1 acc ∧ acc.length ≤ k ∧
    lcL I.still mg mt me vs ρ (I.items.drop k) acc M1 Q'
  -- what stays true of the rest of the heap while the new list grows
  have shift : ∀ {H1 H2 : Hp} {φ1 φ2 : List Addr} {vs1 vs2 : List V}, H1 D = some (.lst vs1) → D ∉ φ1 → Adv (upd H0 D (.lst [])) φ0 (upd H1 D (.lst [])) φ1 → Adv H1 φ1 H2 φ2 → Adv (upd H0 D (.lst [])) φ0 (upd (upd H2 D (.lst vs2)) D (.lst [])) φ2 := by
    intro H1 H2 φ1 φ2 vs1 vs2 hd n1 A B
    rw [upd_upd]
    have n2 : D ∉ φ2 := B.nin hd n1
    refine A.trans ⟨fun a o e n => ?_, ?_, fun a e => ?_⟩
    · by_cases q : a = D
      · subst q
        rw [upd_same] at e ⊢
        exact e
      · rw [upd_ne q] at e ⊢
        exact B.keep a o e n
    · obtain ⟨ψ, e, q⟩ := B.pre
      refine ⟨ψ, e, fun a ha => ?_⟩
      have na : a ≠ D := fun z => n2 (by rw [e, ← z]; exact List.mem_append_right _ ha)
      rw [upd_ne na]
      exact q a ha
    · by_cases q : a = D
      · subst q
        rw [upd_same]
        simp
      · rw [upd_ne q] at e ⊢
        exact B.dom a e
  have full : ∀ {H1 : Hp} {φ1 : List Addr}, Adv (upd H0 D (.lst [])) φ0 (upd H1 D (.lst [])) φ1 → H1 D ≠ none → Adv H0 φ0 H1 φ1 := by
    intro H1 φ1 A hd
    refine ⟨fun a o e n => ?_, ?_, fun a e => ?_⟩
    · have na : a ≠ D := ne_of_none e hD
      have := A.keep a o (by rw [upd_ne na]; exact e) n
      rw [upd_ne na] at this
      exact this
    · obtain ⟨ψ, e, q⟩ := A.pre
      refine ⟨ψ, e, fun a ha => ?_⟩
      have z := q a ha
      by_cases na : a = D
      · rw [na]; exact hD
      · rw [upd_ne na] at z; exact z
    · by_cases na : a = D
      · rw [na]; exact hd
      · have := A.dom a (by rw [upd_ne na]; exact e)
        rw [upd_ne na] at this
        exact this
  refine ⟨Inv, ⟨I.items.length, φ0, M0, [], [], by omega, by rw [upd_upd]; exact Adv.refl, nD, m0.hideN hD, (r.adv A0).hideN hD, st, upd_same, .nil, Nat.le_refl _, by rw [List.drop_zero]; exact h1⟩, ?_⟩
  rintro k j H1 ⟨φ1, M1, vs1, acc, hk, A1, n1, m1, r1, st1, hd1, ra, la, q⟩
  have A01 : Adv H0 φ0 H1 φ1 := full A1 (by rw [hd1]; simp)
  obtain ⟨go, stop⟩ := T H1 φ1 M1 (D :: χ) hχ A01 m1 st1
  cases e2 : I.items.drop k with
  | nil =>
    have hl : I.items.length ≤ k := by
      have := congrArg List.length e2
      rw [List.length_drop] at this
      simp at this
      omega
    have : k = I.items.length := by omega
    subst this
    rw [e2] at q
    refine .inl ⟨stop, f _ _ _ φ1 _ (A0.trans A01) m1.bare (.lst hd1 n1 (fun c => m0.hid D c hD) ra.bare) q⟩
  | cons d ds =>
    have hl : k < I.items.length := by
      have := congrArg List.length e2
      rw [List.length_drop] at this
      simp at this
      omega
    have ed : I.items[k]? = some d := by
      have := congrArg (fun l => l[0]?) e2
      simpa using this
    have eds : I.items.drop (k + 1) = ds := by
      have := congrArg List.tail e2
      simpa using this
    rw [e2] at q
    obtain ⟨g1, y1⟩ := go k hl
    refine .inr ⟨g1, fun H' => ∃ φ' M' vs' acc', Adv (upd H0 D (.lst [])) φ0 (upd H' D (.lst [])) φ' ∧ D ∉ φ' ∧ Mm K H' φ' (D :: χ) M' ∧ Rs K H' φ' (D :: χ) σ ρ ∧ I.still M' ∧ H' D = some (.lst vs') ∧ RpL K H' φ' (D :: χ) vs' acc' ∧ acc'.length ≤ k + 1 ∧
      lcL I.still mg mt me vs ρ ds acc' M' Q', ?_, ?_⟩
    · rintro H' ⟨φ', M', vs', acc', a1, a2, a3, a4, a5, a6, a7, a8, a9⟩
      exact ⟨j - 1, by omega, φ', M', vs', acc', by omega, a1, a2, a3, a4, a5, a6, a7, a8, by rw [eds]; exact a9⟩
    · intro x H2 y
      obtain ⟨d', hd', A2, m2, rx⟩ := y1 x H2 y
      rw [ed] at hd'
      cases hd'
      refine v.run ((r1.adv A2).wipe vs) m2 rx (fun σ3 H3 φ3 ρ3 M3 A3 r3 m3 e3 h3 => ⟨e3.trans (wipe_wipe vs), ?_⟩) q
      refine t.run (W := W0) r3 m3 FW0 (fun b H4 φ4 M4 A4 m4 h4 => ?_) h3
      have A14 := (A2.trans A3).trans A4
      have hd4 : H4 D = some (.lst vs1) := A14.keep D _ hd1 n1
      have n4 : D ∉ φ4 := A14.nin hd1 n1
      cases b with
      | false =>
        refine iteF ?_
        obtain ⟨s4, q4⟩ := h4
        have sh := shift (vs2 := vs1) hd1 n1 A1 A14
        rw [show upd (upd H4 D (.lst vs1)) D (.lst []) = upd H4 D (.lst []) from upd_upd] at sh
        exact ⟨φ4, M4, vs1, acc, sh, n4, m4, r1.adv A14, s4, hd4, ra.adv A14, by omega, q4⟩
      | true =>
        refine iteT ?_
        refine e.run (W := W0) (r3.adv A4) m4 FW0 (fun u z H5 φ5 M5 A5 m5 r5 h5 => ?_) h4
        obtain ⟨s5, q5⟩ := h5
        have A15 := A14.trans A5
        have hd5 : H5 D = some (.lst vs1) := A15.keep D _ hd1 n1
        have n5 : D ∉ φ5 := A15.nin hd1 n1
        refine ⟨vs1, hd5, ?_, φ5, M5, vs1 ++ [u], acc ++ [z], shift hd1 n1 A1 A15, n5, m5.updH inD, (r1.adv A15).updH inD, s5, upd_same, ((ra.adv A15).app (.cons r5 .nil)).at_ inD, ?_, q5⟩
        · rw [ra.len, sizeLine_eq]
          omega
        · rw [List.length_append]
          simp
          omega⟩
end
end Z

/-! T10: enumerate, list.count, list.index, list * int over data -/
namespace Z
open PySem PySem.Spec PyProof.Rows L2 Evl
section
variable {K : PySem.W.Frag} {H : Hp} {φ χ : List Addr} {M : Mem}
theorem mapEq_of {x : V} {dx : Da} (hx : Rp K H [] [] x dx) (px : pd dx) {vs : List V} {ds : List Da} (p : pdL ds) (r : RpL K H φ χ vs ds) : ∃ g : V → Bool, (∀ z ∈ vs, EqI K H 60 z x (g z)) ∧ vs.map g = ds.map fun z => eqD z dx := by
  have item : ∀ {z : V} {d : Da}, plD d = true → dpD d ≤ 59 → Rp K H φ χ z d → EqI K H 60 z x (eqD d dx) := fun p1 p2 r => eqI_of p1 px.1 p2 px.2 (Rp.weak p1 r) hx
  have one : ∀ {z : V} {d e : Da}, plD d = true → plD e = true → Rp K H φ χ z d → Rp K H φ χ z e → d = e := fun p1 p2 r1 r2 => Rp.det p1 p2 r1 r2
  classical
  refine ⟨fun z => if h : ∃ d ∈ ds, Rp K H φ χ z d then eqD h.choose dx else false, fun z hz => ?_, ?_⟩
  · obtain ⟨d, hd, rd⟩ := r.mem z hz
    have h : ∃ d ∈ ds, Rp K H φ χ z d := ⟨d, hd, rd⟩
    show EqI K H 60 z x (if h : ∃ d ∈ ds, Rp K H φ χ z d then eqD h.choose dx else false)
    rw [dif_pos h]
    exact item (plL_mem p.1 _ h.choose_spec.1) (Nat.le_trans (dpL_mem h.choose_spec.1) p.2) h.choose_spec.2
  · have go : ∀ {us : List V} {es : List Da}, (∀ e ∈ es, e ∈ ds) → RpL K H φ χ us es → (us.map fun z => if h : ∃ d ∈ ds, Rp K H φ χ z d then eqD h.choose dx else false) = es.map fun z => eqD z dx := by
      intro us es hs r
      induction us generalizing es with
      | nil => cases r; rfl
      | cons u us ih =>
        cases r with
        | cons h1 r1 =>
          rename_i d es
          rw [List.map_cons, List.map_cons]
          have h : ∃ d ∈ ds, Rp K H φ χ u d := ⟨d, hs d (List.mem_cons_self ..), h1⟩
          rw [dif_pos h, one (plL_mem p.1 _ h.choose_spec.1) (plL_mem p.1 _ (hs d (List.mem_cons_self ..))) h.choose_spec.2 h1]
          congr 1
          exact ih (fun e he => hs e (List.mem_cons_of_mem _ he)) r1
    exact go (fun e he => he) r
theorem countP_map_id {α : Type} (g : α → Bool) (l : List α) : l.countP g = (l.map g).countP id := by
  rw [List.countP_map]
  rfl
theorem findIdx_map_id {α : Type} (g : α → Bool) (l : List α) : l.findIdx? g = (l.map g).findIdx? id := by
  rw [List.findIdx?_map]
  rfl
def nCount : Da → List Da → Mem → TK → Prop := fun x ds M Q => match look M x, ds with
  | .lst es, [y] => pdL es ∧ pd (lookE M y) ∧ Q (.int (es.countP fun z => eqD z (lookE M y) : Nat)) M
  | _, _ => False
def nIndex : Da → List Da → Mem → TK → Prop := fun x ds M Q => match look M x, ds with
  | .lst es, [y] => pdL es ∧ pd (lookE M y) ∧ ∃ j : Nat, es.findIdx? (fun z => eqD z (lookE M y)) = some j ∧ Q (.int (j : Nat)) M
  | _, _ => False
theorem M_count : SMr K (rCountG K) nCount := by
  intro χ H φ M x dx xs dxs Q Q' m hx hxs f h
  unfold nCount at h
  split at h
  · rename_i es y e
    obtain ⟨u, rfl, h1⟩ := hxs.one
    obtain ⟨a, vs, rfl, hs, r⟩ := vL m hx e
    obtain ⟨p1, p2, q⟩ := h
    obtain ⟨g, hg, e1⟩ := mapEq_of (weakE m h1 p2.1) p2 p1 r
    refine ⟨a, vs, u, g, rfl, rfl, hs, hg, ?_⟩
    rw [countP_map_id, e1, ← countP_map_id]
    exact f.pure m (.int _) q
  · exact h.elim
theorem M_index : SMr K (rIndexG K) nIndex := by
  intro χ H φ M x dx xs dxs Q Q' m hx hxs f h
  unfold nIndex at h
  split at h
  · rename_i es y e
    obtain ⟨u, rfl, h1⟩ := hxs.one
    obtain ⟨a, vs, rfl, hs, r⟩ := vL m hx e
    obtain ⟨p1, p2, j, hj, q⟩ := h
    obtain ⟨g, hg, e1⟩ := mapEq_of (weakE m h1 p2.1) p2 p1 r
    refine ⟨a, vs, u, g, j, rfl, rfl, hs, hg, ?_, f.pure m (.int _) q⟩
    rw [findIdx_map_id, e1, ← findIdx_map_id]
    exact hj
  · exact h.elim
/-! a starred item of a display -/
def mStar (ma : ME) (ms : MA) : MA := fun ρ M Q => ma ρ M fun x M1 => match look M1 x with
  | .lst ds => ms ρ M1 fun xs M2 => Q (ds ++ xs) M2
  | .tup ds => ms ρ M1 fun xs M2 => Q (ds ++ xs) M2
  | _ => False
theorem E_star {te : WX → TE} {me : WD → ME} {ms : WD → MA} {as : WX → TA} (a : SE K te me) (s : SA K as ms) : SA K (fun W => StX.tStar K (te W) (as W)) (fun W => mStar (me W) (ms W)) := ⟨fun r m w f h =>
  a.run r m w (fun v d H1 φ1 M1 A1 m1 r1 h1 => by
    split at h1
    · rename_i ds e
      obtain ⟨p, vs, rfl, hs, rl⟩ := vL m1 r1 e
      exact ⟨p, vs, rfl, .inr hs, s.run (r.adv A1) m1 (w.adv A1) (fun ws es H2 φ2 M2 A2 m2 r2 h2 => f _ _ _ _ _ (A1.trans A2) m2 ((rl.adv A2).app r2) h2) h1⟩
    · rename_i ds e
      obtain ⟨p, vs, rfl, hs, rl⟩ := vT m1 r1 e
      exact ⟨p, vs, rfl, .inl hs, s.run (r.adv A1) m1 (w.adv A1) (fun ws es H2 φ2 M2 A2 m2 r2 h2 => f _ _ _ _ _ (A1.trans A2) m2 ((rl.adv A2).app r2) h2) h1⟩
    · exact h1.elim) h⟩
/-! enumerate of a list -/
def enuD (ds : List Da) : List Da := ds.zipIdx.map fun p => .tup [.int (p.2 : Nat), p.1]
def mEnum (s : MA) : MI := fun ρ M R => s ρ M fun xs M1 => match xs with
  | [x] => match look M1 x with
    | .lst ds => R ⟨enuD ds, fun M2 => look M2 x = .lst ds⟩ M1
    | _ => False
  | _ => False
theorem enuD_at {ds : List Da} {i : Nat} {d : Da} (h : ds[i]? = some d) : (enuD ds)[i]? = some (.tup [.int (i : Nat), d]) := by
  unfold enuD
  rw [List.getElem?_map, List.getElem?_zipIdx, h]
  simp
theorem enuD_len (ds : List Da) : (enuD ds).length = ds.length := by
  unfold enuD
  rw [List.length_map, List.length_zipIdx]
theorem I_enum {ms : WD → MA} {as : WX → TA} (s : SA K as ms) : SI K (fun W => iEnum K (as W)) (fun W => mEnum (ms W)) := ⟨fun {χ W W' σ H φ ρ M R R'} r m w f h => by
  refine s.run r m w (fun vs xs H1 φ1 M1 A1 m1 r1 h1 => ?_) h
  split at h1
  · rename_i x
    split at h1
    · rename_i ds e
      obtain ⟨v, rfl, hv⟩ := r1.one
      obtain ⟨a, vs, rfl, hs, rl⟩ := vL m1 hv e
      refine ⟨a, vs, rfl, hs, f _ _ _ _ _ A1 m1 ?_ e h1⟩
      intro H φ M χ1 hχ A m st
      have hv2 := hv.at1 hχ A
      obtain ⟨b, ws, eb, hs2, rl2⟩ := vL m hv2 st
      cases eb
      refine ⟨fun i hi => ?_, ⟨ws, hs2, by show _ ≤ (enuD ds).length; rw [enuD_len, rl2.len]; exact Nat.le_refl _⟩⟩
      have hi : i < ds.length := by rw [← enuD_len]; exact hi
      obtain ⟨y, hy, ry⟩ := rl2.get (i := i) (d := ds[i]) (by simp [hi])
      refine ⟨⟨ws, y, hs2, hy⟩, ?_⟩
      rintro u H' ⟨T, z, rfl, hT, rfl, hz⟩
      have ez : z = y := Option.some.inj ((hz ws hs2).symm.trans hy)
      subst ez
      refine ⟨_, enuD_at (List.getElem?_eq_getElem hi), Adv.new hT, m.new hT, ?_⟩
      exact .tup upd_same (m.nin hT) (fun c => m.hid T c hT) (.cons (.int _) (.cons (ry.adv (Adv.new hT)) .nil))
    · exact h1.elim
  · exact h1.elim⟩
end
end Z

/-! T9: calls, the def's end, try, raise -/
namespace Z
open PySem PySem.Spec PyProof.Rows L2 Evl
abbrev XD := Str → List (Str × Da) → Mem → Prop
abbrev MP := List Da → Mem → TK → XD → Prop
def FX (K : PySem.W.Frag) (χ : List Addr) (H : Hp) (φ : List Addr) (E' : XD) (E : XK) : Prop := ∀ c fs vfs dd H' φ' M', Adv H φ H' φ' → Mm K H' φ' χ M' → H' dd = some (.xd vfs) → dd ∉ φ' → dd ∉ χ → RpF K H' φ' χ vfs fs → E' c fs M' → E (.ref (He.ga K c)) (some dd) H'
def up (K : PySem.W.Frag) (f : MP) : Sp := fun vs H Q E => ∃ φ χ M ds Q' E', RpL K H φ χ vs ds ∧ Mm K H φ χ M ∧ FE K χ H φ Q' Q ∧ FX K χ H φ E' E ∧ f ds M Q' E'
/-! the end of a def: its own cells become data -/
def mapO (g : Da → Option Da) : List Da → Option (List Da)
  | [] => some []
  | d :: ds => match g d, mapO g ds with
    | some e, some es => some (e :: es)
    | _, _ => none
def mapOK (g : Da → Option Da) : List (Key × Da) → Option (List (Key × Da))
  | [] => some []
  | (k, d) :: ds => match g d, mapOK g ds with
    | some e, some es => some ((k, e) :: es)
    | _, _ => none
def frz (n : Nat) : Nat → Mem → Da → Option Da
  | 0, _, d => if cloD n d = true then some d else none
  | f + 1, M, d => if cloD n d = true then some d else match d with
    | .cell m => match M[m]? with
      | some (.lst ds) => (mapO (frz n f M) ds).map .lst
      | some (.dct kds) => (mapOK (frz n f M) kds).map .dct
      | _ => none
    | .tup ds => (mapO (frz n f M) ds).map .tup
    | .lst ds => (mapO (frz n f M) ds).map .lst
    | .dct kds => (mapOK (frz n f M) kds).map .dct
    | _ => none
section
variable {K : PySem.W.Frag} {χ φ : List Addr} {H : Hp} {M : Mem}
theorem mapO_run {n : Nat} {g : Da → Option Da} (ih : ∀ {v : V} {d d' : Da}, Rp K H φ χ v d → g d = some d' → Rp K H (φ.take n) χ v d') : ∀ {vs : List V} {ds es : List Da}, RpL K H φ χ vs ds → mapO g ds = some es → RpL K H (φ.take n) χ vs es
  | _, _, es, .nil, e => by cases e; exact .nil
  | _, _, es, .cons h r, e => by
    unfold mapO at e
    split at e
    · rename_i e1 e2
      cases e
      exact .cons (ih h e1) (mapO_run ih r e2)
    · cases e
theorem mapOK_run {n : Nat} {g : Da → Option Da} (ih : ∀ {v : V} {d d' : Da}, Rp K H φ χ v d → g d = some d' → Rp K H (φ.take n) χ v d') : ∀ {vs : List (Key × V)} {ds es : List (Key × Da)}, RpK K H φ χ vs ds → mapOK g ds = some es → RpK K H (φ.take n) χ vs es
  | _, _, es, .nil, e => by cases e; exact .nil
  | _, _, es, .cons h r, e => by
    unfold mapOK at e
    split at e
    · rename_i e1 e2
      cases e
      exact .cons (ih h e1) (mapOK_run ih r e2)
    · cases e
theorem cell_out {n m : Nat} {a : Addr} (nd : φ.Nodup) (h : φ[m]? = some a) (le : n ≤ m) : a ∉ φ.take n := fun q => by
  obtain ⟨k, l, e⟩ := List.getElem_of_mem q
  rw [List.length_take] at l
  rw [List.getElem_take] at e
  have l2 := List.getElem?_eq_some_iff.1 h
  have : k = m := (List.getElem?_inj (by omega) nd).1 (by rw [h, List.getElem?_eq_getElem (by omega), e])
  omega
theorem frz_run (m : Mm K H φ χ M) {n : Nat} : ∀ (f : Nat) {v : V} {d d' : Da}, Rp K H φ χ v d → frz n f M d = some d' → Rp K H (φ.take n) χ v d'
  | 0, v, d, d', h, e => by
    unfold frz at e
    split at e
    · rename_i c
      cases e
      exact h.cut c
    · cases e
  | f + 1, v, d, d', h, e => by
    unfold frz at e
    split at e
    · rename_i c
      cases e
      exact h.cut c
    · rename_i c
      have ih : ∀ {v : V} {d d' : Da}, Rp K H φ χ v d → frz n f M d = some d' → Rp K H (φ.take n) χ v d' := fun h e => frz_run m f h e
      cases h with
      | cell ha =>
        rename_i k a
        have le : n ≤ k := by
          unfold cloD at c
          simp at c
          exact c
        have out := cell_out m.nd ha le
        have nx := m.dis a (List.mem_of_getElem? ha)
        simp only at e
        split at e
        · rename_i ds q
          obtain ⟨vs, e1, r⟩ := m.at_ _ _ _ ha q
          obtain ⟨es, e2, e3⟩ := Option.map_eq_some_iff.1 e
          rw [← e3]
          exact .lst e1 out nx (mapO_run ih r e2)
        · rename_i ds q
          obtain ⟨vs, e1, r⟩ := m.at_ _ _ _ ha q
          obtain ⟨es, e2, e3⟩ := Option.map_eq_some_iff.1 e
          rw [← e3]
          exact .dct e1 rfl out nx (mapOK_run ih r e2)
        · cases e
      | tup h n1 n2 r =>
        simp only at e
        obtain ⟨es, e2, e3⟩ := Option.map_eq_some_iff.1 e
        rw [← e3]
        exact .tup h (nin_take n1) n2 (mapO_run ih r e2)
      | lst h n1 n2 r =>
        simp only at e
        obtain ⟨es, e2, e3⟩ := Option.map_eq_some_iff.1 e
        rw [← e3]
        exact .lst h (nin_take n1) n2 (mapO_run ih r e2)
      | dct h cD n1 n2 r =>
        simp only at e
        obtain ⟨es, e2, e3⟩ := Option.map_eq_some_iff.1 e
        rw [← e3]
        exact .dct h cD (nin_take n1) n2 (mapOK_run ih r e2)
      | _ => cases e
def Lv (n : Nat) (d : Da) (M : Mem) (d' : Da) (M' : Mem) : Prop := (d' = d ∧ M' = M) ∨ (n ≤ M.length ∧ M' = M.take n ∧ cloL n M' = true ∧ frz n 4 M d = some d')
def leave (n : Nat) (Q : TK) : TK := fun d M => ∃ d' M', Lv n d M d' M' ∧ Q d' M'
def leaveX (n : Nat) (E : XD) : XD := fun c fs M => ∃ M', (M' = M ∨ (n ≤ M.length ∧ M' = M.take n ∧ cloL n M' = true ∧ cloF n fs = true)) ∧ E c fs M'
def startD (N : Nat) (ds : List Da) : Sl := ds.map some ++ List.replicate (N - ds.length) none
def dfn (N np : Nat) (mw : WD → MS) : MP := fun ds M Q E => ds.length = np ∧ (cloL M.length M = true → cloL M.length ds = true → mw (fun c fs _ M' => leaveX M.length E c fs M') { nx := fun _ M' => leave M.length Q .non M', rt := leave M.length Q } (startD N ds) M)
theorem Rs.start {vs : List V} {ds : List Da} (r : RpL K H φ χ vs ds) (N : List Str) : Rs K H φ χ (L2.start N vs) (startD N.length ds) := ⟨by
  unfold L2.start startD
  rw [List.length_append, List.length_append, List.length_map, List.length_map, List.length_replicate, List.length_replicate, r.len], fun i d e => by
  unfold startD at e
  unfold L2.start
  by_cases l : i < ds.length
  · rw [List.getElem?_append_left (by rw [List.length_map]; exact l)] at e
    rw [List.getElem?_append_left (by rw [List.length_map, r.len]; exact l)]
    rw [List.getElem?_map] at e ⊢
    cases q : ds[i]? with
    | none => rw [q] at e; cases e
    | some d' =>
      rw [q] at e
      cases e
      obtain ⟨v, h1, h2⟩ := r.get q
      exact ⟨v, by rw [h1]; rfl, h2⟩
  · rw [List.getElem?_append_right (by rw [List.length_map]; omega)] at e
    rw [List.getElem?_replicate] at e
    split at e <;> cases e⟩
theorem Lv.run {n : Nat} {d d' : Da} {M' : Mem} {H0 : Hp} {φ0 : List Addr} {v : V} (k : Lv n d M d' M') (hn : φ0.length ≤ n) (A : Adv H0 φ0 H φ) (m : Mm K H φ χ M) (h : Rp K H φ χ v d) : ∃ φ', Adv H0 φ0 H φ' ∧ Mm K H φ' χ M' ∧ Rp K H φ' χ v d' := by
  rcases k with ⟨rfl, rfl⟩ | ⟨h1, rfl, h2, h3⟩
  · exact ⟨φ, A, m, h⟩
  · exact ⟨φ.take n, A.cut hn, m.cut h2, frz_run m 4 h h3⟩
theorem up_run {tw : WX → TS} {mw : WD → MS} (s : SS K tw mw) {N : List Str} {n np : Nat} (hN : N.length = n) {vs : List V} {Q : VK} {E : XK} (h : up K (dfn n np mw) vs H Q E) : tw (fun cls d _ H => E cls d H) { nx := fun _ H' => Q .non H', rt := Q } (L2.start N vs) H := by
  obtain ⟨φ, χ, M, ds, Q', E', r, m, f, x, _, q⟩ := h
  subst hN
  refine s.run (D' := { nx := fun _ M' => leave M.length Q' .non M', rt := leave M.length Q' }) (W' := fun c fs _ M' => leaveX M.length E' c fs M') (Rs.start r N) m ?_ ?_ ?_ (fun _ _ _ _ _ _ _ _ h => h.elim) (fun _ _ _ _ _ _ _ _ h => h.elim) (q m.clo (r.clo (Nat.le_of_eq m.len)))
  · rintro c fs vfs dd σ' H' φ' ρ' M' A r' m' hd n1 n2 rf ⟨M2, hk, he⟩
    rcases hk with rfl | ⟨h1, rfl, h2, h3⟩
    · exact x _ _ _ _ _ _ _ A m' hd n1 n2 rf he
    · exact x _ _ _ _ _ _ _ (A.cut (Nat.le_of_eq m.len)) (m'.cut h2) hd (nin_take n1) n2 (rf.cut h3) he
  · rintro σ' H' φ' ρ' M' A r' m' ⟨d', M2, k, h'⟩
    obtain ⟨φ2, A2, m2, r2⟩ := k.run (Nat.le_of_eq m.len) A m' .non
    exact f _ _ _ _ _ A2 m2 r2 h'
  · rintro v d H' φ' M' A m' r' ⟨d', M2, k, h'⟩
    obtain ⟨φ2, A2, m2, r2⟩ := k.run (Nat.le_of_eq m.len) A m' r'
    exact f _ _ _ _ _ A2 m2 r2 h'
theorem up_len {n np : Nat} {mw : WD → MS} {vs : List V} {Q : VK} {E : XK} (h : up K (dfn n np mw) vs H Q E) : vs.length = np := by
  obtain ⟨φ, χ, M, ds, Q', E', r, _, _, _, hl, _⟩ := h
  rw [r.len]
  exact hl
end
section
variable {K : PySem.W.Frag} {as as' : WX → TA} {ms ms' : WD → MA} {f : MP}
def XD0 : XD := fun _ _ _ => False
def mCall (f : MP) (s : MA) : ME := fun ρ M Q => s ρ M fun ds M1 => f ds M1 Q XD0
theorem E_call (f : MP) (s : SA K as ms) : SE K (fun W => tCall (up K f) [] E0 (as W)) (fun W => mCall f (ms W)) := ⟨fun {χ W W' σ H φ ρ M Q Q'} r m w fe h =>
  s.run r m w (fun vs ds H1 φ1 M1 A1 m1 r1 h1 => ⟨φ1, χ, M1, ds, Q', XD0, by rw [List.append_nil]; exact r1, m1, fe.adv A1, fun _ _ _ _ _ _ _ _ _ _ _ _ _ h => h.elim, h1⟩) h⟩
def mCallS (f : MP) (s : MA) (W : WD) : ME := fun ρ M Q => s ρ M fun ds M1 => f ds M1 Q fun c fs M2 => W c fs ρ M2
theorem E_callS (f : MP) (s : SA K as ms) : SE K (fun W => tCallS (up K f) (WE W) (as W)) (fun W => mCallS f (ms W) W) := ⟨fun {χ W W' σ H φ ρ M Q Q'} r m w fe h =>
  s.run r m w (fun vs ds H1 φ1 M1 A1 m1 r1 h1 => ⟨φ1, χ, M1, ds, Q', fun c fs M2 => W' c fs ρ M2, r1, m1, fe.adv A1, fun c fs vfs dd H2 φ2 M2 A2 m2 hd n1 n2 rf q => w _ _ _ _ _ _ _ _ _ (A1.trans A2) (r.adv (A1.trans A2)) m2 hd n1 n2 rf q, h1⟩) h⟩
theorem RpL.perm {H : Hp} {φ χ : List Addr} {vs : List V} {ds : List Da} (r : RpL K H φ χ vs ds) : ∀ p : List Nat, RpL K H φ χ (perm p vs) (perm p ds)
  | [] => .nil
  | i :: p => by
    have ih := r.perm p
    unfold Z.perm at ih ⊢
    rw [List.filterMap_cons, List.filterMap_cons]
    cases e : ds[i]? with
    | none =>
      have hl : vs[i]? = none := by
        rw [List.getElem?_eq_none_iff] at e ⊢
        rw [r.len]
        exact e
      rw [hl]
      exact ih
    | some d =>
      obtain ⟨v, hv, rv⟩ := r.get e
      rw [hv]
      exact .cons rv ih
def mCallP (p : List Nat) (n m : Nat) (f : MP) (s sk : MA) : ME := fun ρ M Q => s ρ M fun ds M1 => sk ρ M1 fun es M2 => ds.length = n ∧ es.length = m ∧ f (perm p (ds ++ es)) M2 Q XD0
def mCallPS (p : List Nat) (n m : Nat) (f : MP) (s sk : MA) (W : WD) : ME := fun ρ M Q => s ρ M fun ds M1 => sk ρ M1 fun es M2 => ds.length = n ∧ es.length = m ∧ f (perm p (ds ++ es)) M2 Q fun c fs M3 => W c fs ρ M3
theorem E_callP (p : List Nat) (n m : Nat) (f : MP) (s : SA K as ms) (sk : SA K as' ms') : SE K (fun W => tCallP p n m (up K f) (fun _ => E0) (as W) (as' W)) (fun W => mCallP p n m f (ms W) (ms' W)) := ⟨fun {χ W W' σ H φ ρ M Q Q'} r mm w fe h =>
  s.run r mm w (fun vs ds H1 φ1 M1 A1 m1 r1 h1 => sk.run (r.adv A1) m1 (w.adv A1) (fun ws es H2 φ2 M2 A2 m2 r2 h2 => ⟨by rw [r1.len]; exact h2.1, by rw [r2.len]; exact h2.2.1, φ2, χ, M2, _, Q', XD0, ((r1.adv A2).app r2).perm p, m2, fe.adv (A1.trans A2), fun _ _ _ _ _ _ _ _ _ _ _ _ _ h => h.elim, h2.2.2⟩) h1) h⟩
theorem E_callPS (p : List Nat) (n m : Nat) (f : MP) (s : SA K as ms) (sk : SA K as' ms') : SE K (fun W => tCallP p n m (up K f) (WE W) (as W) (as' W)) (fun W => mCallPS p n m f (ms W) (ms' W) W) := ⟨fun {χ W W' σ H φ ρ M Q Q'} r mm w fe h =>
  s.run r mm w (fun vs ds H1 φ1 M1 A1 m1 r1 h1 => sk.run (r.adv A1) m1 (w.adv A1) (fun ws es H2 φ2 M2 A2 m2 r2 h2 => ⟨by rw [r1.len]; exact h2.1, by rw [r2.len]; exact h2.2.1, φ2, χ, M2, _, Q', fun c fs M3 => W' c fs ρ M3, ((r1.adv A2).app r2).perm p, m2, fe.adv (A1.trans A2),
    fun c fs vfs dd H3 φ3 M3 A3 m3 hd n1 n2 rf q => w _ _ _ _ _ _ _ _ _ ((A1.trans A2).trans A3) (r.adv ((A1.trans A2).trans A3)) m3 hd n1 n2 rf q, h2.2.2⟩) h1) h⟩
/-! ### try -/
abbrev HdM : Type := Str × Option Nat × (Addr → Addr → MS)
def unbD (i : Option Nat) (D : En) : En := match i with
  | none => D
  | some i => { nx := fun ρ M => D.nx (ρ.set i none) M, rt := D.rt, bk := fun ρ M => D.bk (ρ.set i none) M, ct := fun ρ M => D.ct (ρ.set i none) M }
def bndD (i : Option Nat) (d : Da) (ρ : Sl) : Sl := match i with
  | none => ρ
  | some i => ρ.set i (some d)
abbrev ExT := List ((Str × Str) × Bool)
/-- which clause catches which class -/
def ExOk (K : PySem.W.Frag) (X : ExT) : Prop := ∀ c x b, X.lookup (c, x) = some b → PySem.W.exmOne K (.ref (He.ga K c)) (.ref (He.ga K x)) = some b
theorem ExOk.nil {K : PySem.W.Frag} : ExOk K [] := fun _ _ _ h => by cases h
theorem ExOk.cons {K : PySem.W.Frag} {c x : Str} {b : Bool} {X : ExT} (h : PySem.W.exmOne K (.ref (He.ga K c)) (.ref (He.ga K x)) = some b) (r : ExOk K X) : ExOk K (((c, x), b) :: X) := fun c' x' b' e => by
  rw [List.lookup_cons] at e
  split at e
  · rename_i q
    have q : (c', x') = (c, x) := by simpa using q
    cases q
    cases e
    exact h
  · exact r _ _ _ e
def mMix (X : ExT) (W : WD) (D : En) : List HdM → WD
  | [] => W
  | (x, i, ts) :: r => fun c fs ρ M => match X.lookup (c, x) with
    | some true => (i.isSome = true → c = x) ∧ ∀ a dd, ts a dd (unbD i D) (bndD i (.exv a dd c fs) ρ) M
    | some false => mMix X W D r c fs ρ M
    | none => False
def mTry (X : ExT) (hs : List HdM) (tb : WD → MS) (W : WD) : MS := fun D ρ M => tb (mMix X W D hs) D ρ M
inductive HdS (K : PySem.W.Frag) : List Hd → List HdM → Prop
  | nil : HdS K [] []
  | only {x : Str} {ts : TS} {ms : MS} {l : List Hd} {lm : List HdM} : SS K (fun _ => ts) (fun _ => ms) → HdS K l lm → HdS K ((.ref (He.ga K x), none, fun _ _ _ => ts) :: l) ((x, none, fun _ _ => ms) :: lm)
  | as_ {x : Str} {i : Nat} {ts : Addr → Value → Option Addr → TS} {ms : Addr → Addr → MS} {l : List Hd} {lm : List HdM} : (∀ a dd, SS K (fun _ => ts a (.ref (He.ga K x)) (some dd)) (fun _ => ms a dd)) → HdS K l lm → HdS K ((.ref (He.ga K x), some i, ts) :: l) ((x, some i, ms) :: lm)
theorem FN.unb {χ φ : List Addr} {H : Hp} {P' : Sl → Mem → Prop} {P : L2.St → Hp → Prop} {i : Nat} (n : FN K χ H φ P' P) : FN K χ H φ (fun ρ M => P' (ρ.set i none) M) (fun σ H => P (σ.set i none) H) := fun σ' H' φ' ρ' M' A r m h => n _ _ _ _ _ A r.gone m h
theorem mix_run {χ φ : List Addr} {H : Hp} {D : Ends} {D' : En} {W : WX} {W' : WD} {X : ExT} (hX : ExOk K X) {l : List Hd} {lm : List HdM} (k : HdS K l lm) (w : FW K χ H φ W' W) (n : FN K χ H φ D'.nx D.nx) (t : FE K χ H φ D'.rt D.rt) (b : FN K χ H φ D'.bk D.bk) (c : FN K χ H φ D'.ct D.ct) :
    FW K χ H φ (mMix X W' D' lm) (wMix K W D l) := by
  induction k with
  | nil => exact w
  | @only x ts ms l lm s r ih =>
    intro cl fs vfs dd σ' H' φ' ρ' M' A r' m' hd n1 n2 rf h
    simp only [mMix] at h
    split at h
    · rename_i e
      refine ⟨true, hX _ _ _ e, fun _ a ha => ?_, (fun (q : true = false) => by cases q)⟩
      exact s.run (W := W0) r' m' FW0 (n.adv A) (t.adv A) (b.adv A) (c.adv A) (h.2 a dd)
    · rename_i e
      exact ⟨false, hX _ _ _ e, (fun (q : false = true) => by cases q), fun _ => ih _ _ _ _ _ _ _ _ _ A r' m' hd n1 n2 rf h⟩
    · exact h.elim
  | @as_ x i ts ms l lm s r ih =>
    intro cl fs vfs dd σ' H' φ' ρ' M' A r' m' hd n1 n2 rf h
    simp only [mMix] at h
    split at h
    · rename_i e
      obtain ⟨hc, h⟩ := h
      obtain rfl := hc rfl
      refine ⟨true, hX _ _ _ e, fun _ a ha => ?_, (fun (q : true = false) => by cases q)⟩
      exact (s a dd).run (W := W0) (D' := unbD (some i) D') (r'.set (.exv hd n1 n2 rf)) m' FW0 (FN.unb (n.adv A)) (t.adv A) (FN.unb (b.adv A)) (FN.unb (c.adv A)) (h a dd)
    · rename_i e
      exact ⟨false, hX _ _ _ e, (fun (q : false = true) => by cases q), fun _ => ih _ _ _ _ _ _ _ _ _ A r' m' hd n1 n2 rf h⟩
    · exact h.elim
theorem S_try {X : ExT} (hX : ExOk K X) {l : List Hd} {lm : List HdM} {tb : WX → TS} {mb : WD → MS} (s : SS K tb mb) (k : HdS K l lm) : SS K (fun W => tTry K tb W l) (fun W => mTry X lm mb W) := ⟨fun r m w n t b c h =>
  s.run r m (mix_run hX k w n t b c) n t b c h⟩
theorem S_try0 {X : ExT} (hX : ExOk K X) {l : List Hd} {lm : List HdM} {tb : WX → TS} {mb : WD → MS} (s : SS K tb mb) (k : HdS K l lm) : SS K (fun _ => tTry K tb (fun _ _ _ _ => False) l) (fun _ => mTry X lm mb WD0) := ⟨fun r m w n t b c h =>
  s.run r m (mix_run hX k FW0 n t b c) n t b c h⟩
/-! ### raise, by the field's name -/
def mRaise (c f : Str) (s : MA) (W : WD) : MS := fun _ ρ M => s ρ M fun ds M1 => match ds with
  | [d] => W c [(f, d)] ρ M1
  | _ => False
theorem raise_run {c f : Str} {χ φ : List Addr} {H : Hp} {W : WX} {W' : WD} {σ : L2.St} {ρ : Sl} {M : Mem} (s : SA K as ms) (r : Rs K H φ χ σ ρ) (m : Mm K H φ χ M) (w : FW K χ H φ W' W) {D : En} (h : mRaise c f (ms W') W' D ρ M) :
    as W σ H fun vs H1 => ∃ v, vs = [v] ∧ ∀ d, H1 d = none → W (.ref (He.ga K c)) (some d) σ (upd H1 d (.xd [(f, v)])) := by
  refine s.run r m w (fun vs ds H1 φ1 M1 A1 m1 r1 h1 => ?_) h
  split at h1
  · rename_i d
    obtain ⟨v, rfl, h2⟩ := r1.one
    refine ⟨v, rfl, fun dd hdd => ?_⟩
    have A2 : Adv H1 φ1 (upd H1 dd (.xd [(f, v)])) φ1 := Adv.new hdd
    exact w _ _ [(f, v)] dd _ _ φ1 _ _ (A1.trans A2) (r.adv (A1.trans A2)) (m1.new hdd) upd_same (m1.nin hdd) (fun q => m1.hid dd q hdd) (.cons (h2.adv A2) .nil) h1
  · exact h1.elim
theorem RpL.mk_ints {H : Hp} {φ χ : List Addr} : ∀ ns : List Int, RpL K H φ χ (ns.map V.int) (ns.map Da.int)
  | [] => .nil
  | n :: ns => .cons (.int n) (RpL.mk_ints ns)
/-- the law's promise at its end -/
def sp_law0 (K : PySem.W.Frag) : Sp := fun vs H Q _ => ∃ (a : Addr) (ns : List Int), vs = [.ref a] ∧ SqL K H a (ns.map V.int) ∧ ns.length ≤ 63 ∧ ∀ H', Q (.bl true) H'
theorem law_up (K : PySem.W.Frag) {f : MP} (h : ∀ ns : List Int, ns.length ≤ 63 → f [.kl (ns.map Da.int)] [] (fun d _ => d = .bl true) XD0) : ∀ vs H Q E, sp_law0 K vs H Q E → up K f vs H Q E := by
  rintro vs H Q E ⟨a, ns, rfl, hs, hl, q⟩
  refine ⟨[], [], [], [.kl (ns.map Da.int)], fun d _ => d = .bl true, XD0, .cons ?_ .nil, ⟨by simp, rfl, (fun _ h => by cases h), (fun _ h => by cases h), (fun n a d h => by simp at h)⟩, ?_, (fun _ _ _ _ _ _ _ _ _ _ _ _ _ h => h.elim), h ns hl⟩
  · rcases hs with hs | hs
    · rcases hs with hs | ⟨ob, hs⟩
      · exact .klR hs (.inl rfl) (by simp) (by simp) (RpL.mk_ints ns)
      · exact .klR hs (.inr ⟨ob, rfl⟩) (by simp) (by simp) (RpL.mk_ints ns)
    · exact .klK (fun _ => .inr hs) (RpL.mk_ints ns)
  · rintro v d H' φ' M' A m r rfl
    cases r
    exact q H'
end
end Z

namespace Z
open PySem PySem.Spec PyProof.Rows L2 Evl
theorem S_raisekind {K : PySem.W.Frag} (c : Str) {as : WX → TA} {ms : WD → MA} (s : SA K as ms) : SS K (fun W => tRaisekind (He.ga K c) W (as W)) (fun W => mRaise c "kind" (ms W) W) := ⟨fun r m w n t b k h => raise_run s r m w h⟩
end Z

namespace Z
open PySem PySem.Spec PyProof.Rows L2 Evl
theorem S_raisevalue {K : PySem.W.Frag} (c : Str) {as : WX → TA} {ms : WD → MA} (s : SA K as ms) : SS K (fun W => tRaisevalue (He.ga K c) W (as W)) (fun W => mRaise c "value" (ms W) W) := ⟨fun r m w n t b k h => raise_run s r m w h⟩
end Z

/-! draws over data -/
namespace Z
open PySem PySem.Spec PyProof.Rows L2 Evl
def BoxD (n : Nat) (d : Da) : Prop := ∃ a b c : Int, d = .lst [.int a, .int b, .int c] ∧ 0 ≤ b ∧ b < 2147483648 ∧ 0 ≤ c ∧ c ≤ n
theorem leave_same {n : Nat} {Q : TK} {d : Da} {M : Mem} (h : Q d M) : leave n Q d M := ⟨d, M, .inl ⟨rfl, rfl⟩, h⟩
theorem atI_nat' {α : Type} (l : List α) (k : Nat) : atI l (k : Int) = l[k]? := by
  unfold atI ixN
  rw [if_pos (by omega)]
  by_cases h : (k : Int) < l.length
  · rw [if_pos h]
    simp
  · rw [if_neg h]
    symm
    rw [Option.bind_none, List.getElem?_eq_none_iff]
    omega
theorem atI_0 {α : Type} (l : List α) : atI l 0 = l[0]? := atI_nat' l 0
theorem atI_1 {α : Type} (l : List α) : atI l 1 = l[1]? := atI_nat' l 1
theorem atI_2 {α : Type} (l : List α) : atI l 2 = l[2]? := atI_nat' l 2
theorem atI_3 {α : Type} (l : List α) : atI l 3 = l[3]? := atI_nat' l 3
theorem atI_4 {α : Type} (l : List α) : atI l 4 = l[4]? := atI_nat' l 4
theorem atI_m1 {α : Type} (l : List α) : atI l (-1) = l.getLast? := by
  unfold atI ixN
  rw [if_neg (by omega), List.getLast?_eq_getElem?]
  by_cases h : -(l.length : Int) ≤ -1
  · rw [if_pos h]
    show l[(-1 + (l.length : Int)).toNat]? = _
    congr 1
    omega
  · rw [if_neg h]
    symm
    rw [Option.bind_none, List.getElem?_eq_none_iff]
    omega
theorem ixN_0 {n : Nat} (h : 0 < n) : ixN n 0 = some 0 := by
  unfold ixN
  rw [if_pos (by omega), if_pos (by omega)]
  rfl
theorem ixN_1 {n : Nat} (h : 1 < n) : ixN n 1 = some 1 := by
  unfold ixN
  rw [if_pos (by omega), if_pos (by omega)]
  rfl
theorem ixN_2 {n : Nat} (h : 2 < n) : ixN n 2 = some 2 := by
  unfold ixN
  rw [if_pos (by omega), if_pos (by omega)]
  rfl
theorem ixN_nat {n k : Nat} (h : k < n) : ixN n (k : Int) = some k := by
  unfold ixN
  rw [if_pos (by omega), if_pos (by omega)]
  simp
mutual
theorem plD_clo (n : Nat) : ∀ {d : Da}, plD d = true → cloD n d = true
  | .non, _ => rfl
  | .bl _, _ => rfl
  | .int _, _ => rfl
  | .str _, _ => rfl
  | .tup ds, p => by unfold plD at p; unfold cloD; exact plL_clo n p
  | .lst ds, p => by unfold plD at p; unfold cloD; exact plL_clo n p
  | .ty _, p => by cases p
  | .gl _, p => by cases p
  | .dct _, p => by cases p
  | .obj _ _, p => by cases p
  | .kl _, p => by cases p
  | .kt _, p => by cases p
  | .cell _, p => by cases p
  | .exv _ _ _ _, p => by cases p
theorem plL_clo (n : Nat) : ∀ {ds : List Da}, plL ds = true → cloL n ds = true
  | [], _ => rfl
  | d :: ds, p => by
    unfold plL at p
    rw [Bool.and_eq_true] at p
    unfold cloL
    rw [plD_clo n p.1, plL_clo n p.2]
    rfl
end
theorem frz_clo {n f : Nat} {M : Mem} {d : Da} (h : cloD n d = true) : frz n f M d = some d := by
  cases f with
  | zero => unfold frz; rw [if_pos h]
  | succ f => unfold frz; rw [if_pos h]
theorem cloL_all {n : Nat} : ∀ {ds : List Da}, cloL n ds = true ↔ ∀ d ∈ ds, cloD n d = true
  | [] => by simp [cloL]
  | d :: ds => by
    unfold cloL
    rw [Bool.and_eq_true, cloL_all (ds := ds)]
    simp
theorem BoxD.clo {n m : Nat} {b : Da} (h : BoxD n b) : cloD m b = true := by
  obtain ⟨a, b, c, rfl, _⟩ := h
  rfl
theorem BoxD.mono {n m : Nat} {b : Da} (h : BoxD n b) (l : n ≤ m) : BoxD m b := by
  obtain ⟨a, b, c, rfl, h1, h2, h3, h4⟩ := h
  exact ⟨a, b, c, rfl, h1, h2, h3, by omega⟩
/-- back from a def with cells of its own -/
theorem leave_box {Q : TK} {d d' : Da} {b b' : Da} {R S : Mem} {n : Nat} (B : BoxD n b') (cM : cloL (R.length + 1) (b :: R) = true) (hf : frz (R.length + 1) 4 (b' :: (R ++ S)) d = some d') (q : Q d' (b' :: R)) : leave (R.length + 1) Q d (b' :: (R ++ S)) := by
  refine ⟨d', b' :: R, .inr ⟨by simp, by simp, ?_, hf⟩, q⟩
  unfold cloL at cM ⊢
  rw [Bool.and_eq_true] at cM
  rw [B.clo, cM.2]
  rfl
theorem okM_list : okM "list" = okLs := rfl
theorem okM_str : okM "str" = okS := rfl
theorem okM_dict : okM "dict" = okDc := rfl
theorem okS_str {z : Str} {M : Mem} : okS (.str z) M = True := by simp [okS]
/-- an item by a draw -/
theorem atI_mem {α : Type} {xs : List α} {d : Int} (h0 : 0 ≤ d) (h1 : d < (xs.length : Int)) : ∃ v, v ∈ xs ∧ atI xs d = some v := by
  obtain ⟨k, rfl⟩ := Int.eq_ofNat_of_zero_le h0
  have h : k < xs.length := by omega
  exact ⟨xs[k], List.getElem_mem h, by rw [atI_nat']; simp [h]⟩
end Z

namespace Z
open PySem PySem.Spec PyProof.Rows L2 Evl
theorem set_last {α : Type} (R : List α) (x y : α) : (R ++ [x]).set R.length y = R ++ [y] := by simp
theorem get_last {α : Type} (R : List α) (x : α) : (R ++ [x])[R.length]? = some x := by simp
theorem look_last {b x : Da} {R : Mem} : look (b :: (R ++ [x])) (.cell (R.length + 1)) = x := by
  show List.getD _ _ _ = _
  simp
theorem perm_erase {α : Type} {l : List α} {i : Nat} (h : i < l.length) : (l[i] :: l.eraseIdx i).Perm l := by
  have e : l.take i ++ l[i] :: l.drop (i + 1) = l := by rw [← List.drop_eq_getElem_cons h, List.take_append_drop]
  rw [List.eraseIdx_eq_take_drop_succ]
  have q : (l[i] :: (l.take i ++ l.drop (i + 1))).Perm (l.take i ++ l[i] :: l.drop (i + 1)) := List.perm_middle.symm
  rw [e] at q
  exact q
def one (c : Nat) : Str := ⟨#[c]⟩
def letters : List Nat := ("abcdefghijklmnopqrstuvwxyz" : Str).cps.toList
def nmS (z : Str) : Bool := !decide (z = ("table" : Str)) && (decide (1 ≤ z.length) && (decide (z.length ≤ 8) && z.cps.toList.all fun c => decide (c ∈ letters)))
theorem seqI {d : Int} {n : Nat} (h0 : 0 ≤ d) (h1 : d < n) : seqIndex? d n = some d.toNat := by
  unfold seqIndex?
  first
    | (simp; omega)
    | (rw [if_neg (by omega)]; simp; omega)
theorem log_nat {n : Nat} (h : n < 9000) : ((n : Int)).natAbs.log2 < 9000 := by
  have h1 : ((n : Int)).natAbs = n := by omega
  rw [h1]
  have h2 := Nat.log2_le_self n
  omega
def stems : List Str := ["", "a", "tabl", "rest", "part", "zzzzzzz"]
def fixS (z : Str) : Str := if z = ("table" : Str) then "tables" else z
def formS (stem : Str) (c : Nat) (w : Nat) : Str := fixS (match w with | 0 => stem ++ one c | 1 => one c ++ stem | _ => one c)
theorem form_ok : ∀ stem ∈ stems, ∀ c ∈ letters, ∀ w ∈ [0, 1, 2], nmS (formS stem c w) = true := by decide +kernel
theorem form_ne : ∀ stem ∈ stems, ∀ w ∈ [0, 1, 2], ∀ c ∈ letters, ∀ d ∈ letters, c ≠ d → formS stem c w ≠ formS stem d w ∧ formS stem c 0 ≠ formS stem d w := by decide +kernel
def lett (i : Nat) : Nat := letters.getD i 0
theorem steps_ne : ∀ f ∈ List.range 26, ∀ s ∈ [1, 3, 5, 7, 9, 11], ∀ i ∈ List.range 13, ∀ j ∈ List.range 13, i ≠ j → lett ((f + s * i) % 26) ≠ lett ((f + s * j) % 26) := by decide +kernel
theorem lett_mem : ∀ i ∈ List.range 26, lett i ∈ letters := by decide +kernel
def nameK (stem : Str) (f s w k : Nat) : Str := formS stem (lett ((f + s * k) % 26)) (if k = 0 then 0 else w)
theorem nameK_ok {stem : Str} {f s w : Nat} (hs : stem ∈ stems) (hw : w < 3) (k : Nat) : nmS (nameK stem f s w k) = true := by
  refine form_ok stem hs _ (lett_mem _ (List.mem_range.mpr (Nat.mod_lt _ (by decide)))) _ ?_
  split
  · decide
  · simp; omega
theorem nameK_ne {stem : Str} {f s w i j : Nat} (hs : stem ∈ stems) (hf : f < 26) (hst : s ∈ [1, 3, 5, 7, 9, 11]) (hw : w < 3) (hi : i < 13) (hj : j < 13) (ne : i ≠ j) : nameK stem f s w i ≠ nameK stem f s w j := by
  have hc := steps_ne f (List.mem_range.mpr hf) s hst i (List.mem_range.mpr hi) j (List.mem_range.mpr hj) ne
  have m1 := lett_mem _ (List.mem_range.mpr (Nat.mod_lt (f + s * i) (by decide : 26 > 0)))
  have m2 := lett_mem _ (List.mem_range.mpr (Nat.mod_lt (f + s * j) (by decide : 26 > 0)))
  have hw3 : w ∈ [0, 1, 2] := by simp; omega
  unfold nameK
  by_cases e1 : i = 0
  · rw [if_pos e1, if_neg (fun z => ne (e1.trans z.symm))]
    exact (form_ne stem hs w hw3 _ m1 _ m2 hc).2
  · rw [if_neg e1]
    by_cases e2 : j = 0
    · rw [if_pos e2]
      exact ((form_ne stem hs w hw3 _ m2 _ m1 hc.symm).2).symm
    · rw [if_neg e2]
      exact (form_ne stem hs w hw3 _ m1 _ m2 hc).1
theorem names_nodup {stem : Str} {f s w : Nat} (hs : stem ∈ stems) (hf : f < 26) (hst : s ∈ [1, 3, 5, 7, 9, 11]) (hw : w < 3) : ∀ m, m ≤ 13 → ((List.range m).map fun k => nameK stem f s w k).Nodup
  | 0, _ => by simp
  | m + 1, hm => by
    rw [List.range_succ, List.map_append, List.nodup_append]
    refine ⟨names_nodup hs hf hst hw m (by omega), by simp, fun a ha b hb => ?_⟩
    obtain ⟨k, hk, rfl⟩ := List.mem_map.mp ha
    have hk := List.mem_range.mp hk
    rw [List.map_singleton, List.mem_singleton] at hb
    rw [hb]
    intro e
    exact nameK_ne hs hf hst hw (by omega) (by omega) (by omega) e
end Z

namespace Z
open PySem PySem.Spec PyProof.Rows L2 Evl
/-! ### loops and comprehensions by an invariant; C: what follows a turn -/
theorem forL_ind {still : Mem → Prop} {g : MG} {tb : MS} {D : En} {n : Nat} {items : List Da} {ρ : Sl} {M : Mem} (P : Nat → Sl → Mem → Prop) (h0 : P 0 ρ M)
    (hs : ∀ k d ρ M, items[k]? = some d → P k ρ M → ∀ C : Sl → Mem → Prop, (∀ ρ' M' ρ3 M3, Wk n ρ' M' ρ3 M3 → still M3 → P (k + 1) ρ3 M3 → C ρ' M') → g d ρ M fun ρ1 M1 => tb { nx := C, rt := D.rt, bk := D.nx, ct := C } ρ1 M1)
    (he : ∀ ρ M, P items.length ρ M → D.nx ρ M) : forL still g tb D n items ρ M := by
  have go : ∀ (ds : List Da) (k : Nat) (ρ : Sl) (M : Mem), items.drop k = ds → k ≤ items.length → P k ρ M → forL still g tb D n ds ρ M := by
    intro ds
    induction ds with
    | nil =>
      intro k ρ M e l p
      have : items.length ≤ k := by
        have := congrArg List.length e
        rw [List.length_drop] at this
        simp at this
        omega
      have : k = items.length := by omega
      subst this
      exact he ρ M p
    | cons d ds ih =>
      intro k ρ M e l p
      have hl : k < items.length := by
        have := congrArg List.length e
        rw [List.length_drop] at this
        simp at this
        omega
      have ed : items[k]? = some d := by
        have := congrArg (fun l => l[0]?) e
        simpa using this
      have eds : items.drop (k + 1) = ds := by
        have := congrArg List.tail e
        simpa using this
      unfold forL
      exact hs k d ρ M ed p _ fun ρ' M' ρ3 M3 w s p' => ⟨ρ3, M3, w, s, ih (k + 1) ρ3 M3 eds hl p'⟩
  exact go items 0 ρ M rfl (Nat.zero_le _) h0
theorem Wk.same {n : Nat} {ρ : Sl} {M : Mem} : Wk n ρ M ρ M := .inl ⟨rfl, rfl⟩
theorem lcL_ind {still : Mem → Prop} {g : MG} {tt : MT} {te : ME} {vs : List Nat} {ρ : Sl} {items : List Da} {M : Mem} {Q : TK} (P : Nat → List Da → Mem → Prop) (h0 : P 0 [] M)
    (hs : ∀ k d acc M, items[k]? = some d → P k acc M → ∀ C : List Da → Mem → Prop, (∀ acc' M', still M' → P (k + 1) acc' M' → C acc' M') → g d (wipeD ρ vs) M fun ρ2 M2 => tt ρ2 M2 fun b M3 => if b = true then te ρ2 M3 fun y M4 => C (acc ++ [y]) M4 else C acc M3)
    (he : ∀ acc M, P items.length acc M → Q (.lst acc) M) : lcL still g tt te vs ρ items [] M Q := by
  have go : ∀ (ds : List Da) (k : Nat) (acc : List Da) (M : Mem), items.drop k = ds → k ≤ items.length → P k acc M → lcL still g tt te vs ρ ds acc M Q := by
    intro ds
    induction ds with
    | nil =>
      intro k acc M e l p
      have : items.length ≤ k := by
        have := congrArg List.length e
        rw [List.length_drop] at this
        simp at this
        omega
      have : k = items.length := by omega
      subst this
      exact he acc M p
    | cons d ds ih =>
      intro k acc M e l p
      have hl : k < items.length := by
        have := congrArg List.length e
        rw [List.length_drop] at this
        simp at this
        omega
      have ed : items[k]? = some d := by
        have := congrArg (fun l => l[0]?) e
        simpa using this
      have eds : items.drop (k + 1) = ds := by
        have := congrArg List.tail e
        simpa using this
      unfold lcL
      exact hs k d acc M ed p (fun acc' M' => still M' ∧ lcL still g tt te vs ρ ds acc' M' Q) fun acc' M' s p' => ⟨s, ih (k + 1) acc' M' eds hl p'⟩
  exact go items 0 [] M rfl (Nat.zero_le _) h0
/-- a comprehension that changes nothing -/
theorem lcL_pure {still : Mem → Prop} {i : Nat} {tt : MT} {te : ME} {vs : List Nat} {ρ : Sl} {items : List Da} {M : Mem} {Q : TK} (p : Da → Bool) (f : Da → Da)
    (ht : ∀ d ∈ items, ∀ R : Bool → Mem → Prop, R (p d) M → tt ((wipeD ρ vs).set i (some d)) M R) (hf : ∀ d ∈ items, p d = true → ∀ R : TK, R (f d) M → te ((wipeD ρ vs).set i (some d)) M R) (hS : still M) (q : Q (.lst ((items.filter p).map f)) M) :
    lcL still (hName i) tt te vs ρ items [] M Q := by
  refine lcL_ind (fun k acc M' => M' = M ∧ acc = ((items.take k).filter p).map f) ⟨rfl, rfl⟩ ?_ ?_
  · rintro k d acc M' e ⟨rfl, rfl⟩ C hC
    have hm : d ∈ items := List.mem_of_getElem? e
    have et : items.take (k + 1) = items.take k ++ [d] := by rw [List.take_add_one, e]; rfl
    refine ht d hm _ ?_
    cases c : p d with
    | true =>
      refine iteT (hf d hm c _ (hC _ _ hS ⟨rfl, ?_⟩))
      rw [et, List.filter_append]
      simp [c]
    | false =>
      refine iteF (hC _ _ hS ⟨rfl, ?_⟩)
      rw [et, List.filter_append]
      simp [c]
  · rintro acc M' ⟨rfl, rfl⟩
    rw [List.take_length]
    exact q
theorem rngD_at {lo : Int} {n k : Nat} {d : Da} (h : (rngD lo n)[k]? = some d) : k < n ∧ d = .int (lo + (k : Int)) := by
  unfold rngD at h
  rw [List.getElem?_map] at h
  by_cases l : k < n
  · rw [List.getElem?_range l] at h
    exact ⟨l, (Option.some.inj h).symm⟩
  · rw [List.getElem?_eq_none (by simp; omega)] at h
    cases h
theorem mapO_id {n f : Nat} {M : Mem} : ∀ {ds : List Da}, cloL n ds = true → mapO (frz n f M) ds = some ds
  | [], _ => rfl
  | d :: ds, h => by
    unfold cloL at h
    rw [Bool.and_eq_true] at h
    unfold mapO
    rw [frz_clo h.1, mapO_id h.2]
theorem mapOK_id {n f : Nat} {M : Mem} : ∀ {ds : List (Key × Da)}, cloK n ds = true → mapOK (frz n f M) ds = some ds
  | [], _ => rfl
  | (_, d) :: ds, h => by
    unfold cloK at h
    rw [Bool.and_eq_true] at h
    unfold mapOK
    rw [frz_clo h.1, mapOK_id h.2]
/-- a def's own list as a datum -/
theorem frz_cell {n m f : Nat} {M : Mem} {ds : List Da} (h : M[m]? = some (.lst ds)) (le : n ≤ m) (c : cloL n ds = true) : frz n (f + 1) M (.cell m) = some (.lst ds) := by
  have nc : ¬ cloD n (.cell m) = true := by
    unfold cloD
    simp
    exact le
  unfold frz
  rw [if_neg nc]
  simp only [h]
  rw [mapO_id c]
  rfl
theorem frz_cellD {n m f : Nat} {M : Mem} {ds : List (Key × Da)} (h : M[m]? = some (.dct ds)) (le : n ≤ m) (c : cloK n ds = true) : frz n (f + 1) M (.cell m) = some (.dct ds) := by
  have nc : ¬ cloD n (.cell m) = true := by
    unfold cloD
    simp
    exact le
  unfold frz
  rw [if_neg nc]
  simp only [h]
  rw [mapOK_id c]
  rfl
theorem plL_strs (zs : List Str) : plL (zs.map Da.str) = true := by
  induction zs with
  | nil => rfl
  | cons z zs ih =>
    show (plD (.str z) && plL (zs.map Da.str)) = true
    rw [ih]
    rfl
theorem clo_strs (n : Nat) (zs : List Str) : cloL n (zs.map Da.str) = true := by
  rw [cloL_all]
  intro d hd
  obtain ⟨z, _, rfl⟩ := List.mem_map.1 hd
  rfl
theorem plL_map {α : Type} {f : α → Da} (h : ∀ x, plD (f x) = true) (l : List α) : plL (l.map f) = true := by
  induction l with
  | nil => rfl
  | cons x l ih =>
    show (plD (f x) && plL (l.map f)) = true
    rw [h x, ih]
    rfl
theorem dpL_map {α : Type} {f : α → Da} (h : ∀ x, dpD (f x) = 0) (l : List α) : dpL (l.map f) = 0 := by
  induction l with
  | nil => rfl
  | cons x l ih =>
    show max (dpD (f x)) (dpL (l.map f)) = 0
    rw [h x, ih]
    rfl
theorem eqL_nil (xs : List Da) : eqL xs [] = xs.isEmpty := by
  cases xs <;> rfl
theorem plL_append {xs ys : List Da} : plL (xs ++ ys) = (plL xs && plL ys) := by
  induction xs with
  | nil => rfl
  | cons x xs ih =>
    show (plD x && plL (xs ++ ys)) = (plD x && plL xs && plL ys)
    rw [ih, Bool.and_assoc]
theorem dpL_append {xs ys : List Da} : dpL (xs ++ ys) = max (dpL xs) (dpL ys) := by
  induction xs with
  | nil => show dpL ys = max 0 (dpL ys); omega
  | cons x xs ih =>
    show max (dpD x) (dpL (xs ++ ys)) = max (max (dpD x) (dpL xs)) (dpL ys)
    rw [ih]
    omega
theorem plL_all {ds : List Da} : plL ds = true ↔ ∀ d ∈ ds, plD d = true := by
  induction ds with
  | nil => simp [plL]
  | cons d ds ih =>
    unfold plL
    rw [Bool.and_eq_true, ih]
    simp
theorem dpL_le {ds : List Da} {n : Nat} : dpL ds ≤ n ↔ ∀ d ∈ ds, dpD d ≤ n := by
  induction ds with
  | nil => simp [dpL]
  | cons d ds ih =>
    unfold dpL
    rw [Nat.max_le, ih]
    simp
theorem anyEq_strs (z : Str) (l : List Str) : anyEq (.str z) (l.map Da.str) = decide (z ∈ l) := by
  unfold anyEq
  induction l with
  | nil => simp
  | cons a l ih =>
    rw [List.map_cons, List.any_cons, ih]
    show (decide (a = z) || decide (z ∈ l)) = decide (z ∈ a :: l)
    by_cases h : a = z
    · simp [h]
    · have h2 : ¬ z = a := fun q => h q.symm
      simp [h, h2]
end Z

namespace Z
open PySem PySem.Spec PyProof.Rows L2 Evl
/-! looks, constructor by constructor -/
section
variable (M : Mem)
theorem look_non  : look M (.non) = .non := rfl
theorem lookE_non  : lookE M (.non) = .non := rfl
theorem look_bl (b : Bool) : look M (.bl b) = .bl b := rfl
theorem lookE_bl (b : Bool) : lookE M (.bl b) = .bl b := rfl
theorem look_int (i : Int) : look M (.int i) = .int i := rfl
theorem lookE_int (i : Int) : lookE M (.int i) = .int i := rfl
theorem look_str (s : Str) : look M (.str s) = .str s := rfl
theorem lookE_str (s : Str) : lookE M (.str s) = .str s := rfl
theorem look_tup (ds : List Da) : look M (.tup ds) = .tup ds := rfl
theorem lookE_tup (ds : List Da) : lookE M (.tup ds) = .tup ds := rfl
theorem look_lst (ds : List Da) : look M (.lst ds) = .lst ds := rfl
theorem lookE_lst (ds : List Da) : lookE M (.lst ds) = .lst ds := rfl
theorem look_dct (ds : List (Key × Da)) : look M (.dct ds) = .dct ds := rfl
theorem lookE_dct (ds : List (Key × Da)) : lookE M (.dct ds) = .dct ds := rfl
theorem look_obj (c : Str) (fs : List (Str × Da)) : look M (.obj c fs) = .obj c fs := rfl
theorem lookE_obj (c : Str) (fs : List (Str × Da)) : lookE M (.obj c fs) = .obj c fs := rfl
theorem look_ty (n : String) : look M (.ty n) = .ty n := rfl
theorem lookE_ty (n : String) : lookE M (.ty n) = .ty n := rfl
theorem look_gl (x : Str) : look M (.gl x) = .gl x := rfl
theorem lookE_gl (x : Str) : lookE M (.gl x) = .gl x := rfl
theorem look_exv (a dd : Addr) (c : Str) (fs : List (Str × Da)) : look M (.exv a dd c fs) = .exv a dd c fs := rfl
theorem lookE_exv (a dd : Addr) (c : Str) (fs : List (Str × Da)) : lookE M (.exv a dd c fs) = .exv a dd c fs := rfl
theorem look_cell (n : Nat) : look M (.cell n) = M[n]?.getD (.gl "") := List.getD_eq_getElem?_getD
theorem lookE_cell (n : Nat) : lookE M (.cell n) = M[n]?.getD (.gl "") := List.getD_eq_getElem?_getD
theorem look_kl (ds : List Da) : look M (.kl ds) = .lst ds := rfl
theorem look_kt (ds : List Da) : look M (.kt ds) = .tup ds := rfl
theorem tyDa_non  : tyDa M (.non) = some "NoneType" := rfl
theorem tyDa_bl (b : Bool) : tyDa M (.bl b) = some "bool" := rfl
theorem tyDa_int (i : Int) : tyDa M (.int i) = some "int" := rfl
theorem tyDa_str (s : Str) : tyDa M (.str s) = some "str" := rfl
theorem tyDa_tup (ds : List Da) : tyDa M (.tup ds) = some "tuple" := rfl
theorem tyDa_lst (ds : List Da) : tyDa M (.lst ds) = some "list" := rfl
theorem tyDa_dct (ds : List (Key × Da)) : tyDa M (.dct ds) = some "dict" := rfl
theorem tyDa_kt (ds : List Da) : tyDa M (.kt ds) = some "tuple" := rfl
theorem tyDa_cell (n : Nat) : tyDa M (.cell n) = match M[n]?.getD (.gl "") with | .lst _ => some "list" | .dct _ => some "dict" | _ => none := by
  rw [← List.getD_eq_getElem?_getD]
  rfl
theorem nonD_non  : nonD (.non) = true := rfl
theorem nonD_bl (b : Bool) : nonD (.bl b) = false := rfl
theorem nonD_int (i : Int) : nonD (.int i) = false := rfl
theorem nonD_str (s : Str) : nonD (.str s) = false := rfl
theorem nonD_tup (ds : List Da) : nonD (.tup ds) = false := rfl
theorem nonD_lst (ds : List Da) : nonD (.lst ds) = false := rfl
theorem nonD_dct (ds : List (Key × Da)) : nonD (.dct ds) = false := rfl
theorem nonD_obj (c : Str) (fs : List (Str × Da)) : nonD (.obj c fs) = false := rfl
theorem nonD_ty (n : String) : nonD (.ty n) = false := rfl
theorem nonD_gl (x : Str) : nonD (.gl x) = false := rfl
theorem nonD_exv (a dd : Addr) (c : Str) (fs : List (Str × Da)) : nonD (.exv a dd c fs) = false := rfl
/-- plain or a dict -/
def pdd : Da → Bool
  | .dct _ => true
  | d => plD d
def tyP : Da → String
  | .non => "NoneType"
  | .bl _ => "bool"
  | .int _ => "int"
  | .str _ => "str"
  | .tup _ => "tuple"
  | .lst _ => "list"
  | _ => "dict"
variable {M} {d : Da}
theorem pdd_of (h : plD d = true) : pdd d = true := by
  cases d <;> first | exact h | rfl
theorem look_pdd (h : pdd d = true) : look M d = d := by
  cases d <;> first | rfl | cases h
theorem lookE_pdd (h : pdd d = true) : lookE M d = d := by
  cases d <;> first | rfl | cases h
theorem tyDa_pdd (h : pdd d = true) : tyDa M d = some (tyP d) := by
  cases d <;> first | rfl | cases h
theorem look_pl (h : plD d = true) : look M d = d := look_pdd (pdd_of h)
theorem lookE_pl (h : plD d = true) : lookE M d = d := lookE_pdd (pdd_of h)
theorem tyDa_pl (h : plD d = true) : tyDa M d = some (tyP d) := tyDa_pdd (pdd_of h)
theorem leaveX_same {n : Nat} {E : XD} {c : Str} {fs : List (Str × Da)} {M : Mem} (h : E c fs M) : leaveX n E c fs M := ⟨M, .inl rfl, h⟩
end
/-- a block, statement by statement: what follows stands hidden in N -/
theorem seq_hide {t u : MS} {D : En} {ρ : Sl} {M : Mem} (h : ∀ N : Sl → Mem → Prop, (∀ ρ' M', u D ρ' M' → N ρ' M') → t { nx := N, rt := D.rt, bk := D.bk, ct := D.ct } ρ M) : mSeq t u D ρ M := h _ fun _ _ h => h
theorem cut_hide {t u : MS} {D : En} {ρ : Sl} {M : Mem} (h : ∀ N : Sl → Mem → Prop, (∀ ρ' M', u D ρ' M' → N ρ' M') → t { nx := N, rt := D.rt, bk := D.bk, ct := D.ct } ρ M) : mCut t u D ρ M := ⟨_, h _ fun _ _ h => h, fun _ _ h => h⟩
/-- an end, hidden -/
theorem end_hide {P : TK → Prop} {Q : TK} (h : ∀ R : TK, (∀ d M, Q d M → R d M) → P R) (m : ∀ R : TK, (∀ d M, Q d M → R d M) → (∀ d M, R d M → Q d M) → P R → P Q) : P Q := m Q (fun _ _ h => h) (fun _ _ h => h) (h Q fun _ _ h => h)
def strD : Da → Bool
  | .str _ => true
  | _ => false
theorem strs_of {ds : List Da} (h : ds.all strD = true) : ∃ zs : List Str, ds = zs.map Da.str := by
  induction ds with
  | nil => exact ⟨[], rfl⟩
  | cons d ds ih =>
    rw [List.all_cons, Bool.and_eq_true] at h
    obtain ⟨zs, e⟩ := ih h.2
    cases d with
    | str z => exact ⟨z :: zs, by rw [e]; rfl⟩
    | _ => cases h.1
theorem tyB_str {d : Da} (h : plD d = true) : tyB "str" (tyP d) = strD d := by
  cases d <;> first | rfl | cases h
theorem natc_0 : ((0 : Nat) : Int) = 0 := rfl
theorem natc_1 : ((1 : Nat) : Int) = 1 := rfl
theorem natc_2 : ((2 : Nat) : Int) = 2 := rfl
theorem natc_3 : ((3 : Nat) : Int) = 3 := rfl
theorem natc_4 : ((4 : Nat) : Int) = 4 := rfl
theorem natc_5 : ((5 : Nat) : Int) = 5 := rfl
theorem natc_6 : ((6 : Nat) : Int) = 6 := rfl
theorem natc_7 : ((7 : Nat) : Int) = 7 := rfl
theorem natc_8 : ((8 : Nat) : Int) = 8 := rfl
theorem natc_9 : ((9 : Nat) : Int) = 9 := rfl
theorem natc_10 : ((10 : Nat) : Int) = 10 := rfl
theorem natc_11 : ((11 : Nat) : Int) = 11 := rfl
theorem natc_12 : ((12 : Nat) : Int) = 12 := rfl
theorem natc_13 : ((13 : Nat) : Int) = 13 := rfl
theorem natc_14 : ((14 : Nat) : Int) = 14 := rfl
theorem natc_15 : ((15 : Nat) : Int) = 15 := rfl
theorem natc_16 : ((16 : Nat) : Int) = 16 := rfl
theorem q_bd {Q : TK} {M : Mem} {b b' : Bool} (h : Q (.bl b) M) (e : b' = b) : Q (.bl b') M := by
  rw [e]
  exact h
theorem leave_bl {Q : TK} {b : Bool} {M S : Mem} (cM : cloL M.length M = true) (q : Q (.bl b) M) : leave M.length Q (.bl b) (M ++ S) :=
  ⟨.bl b, M, .inr ⟨by simp, by simp, cM, frz_clo rfl⟩, q⟩
theorem set_lastM {M : Mem} {x y : Da} : (M ++ [x]).set M.length y = M ++ [y] := by simp
theorem if_hide {c : MT} {t u : MS} {D : En} {ρ : Sl} {M : Mem} (h : ∀ T U : Mem → Prop, (∀ M', t D ρ M' → T M') → (∀ M', u D ρ M' → U M') → c ρ M fun k M1 => if k = true then T M1 else U M1) : mIfS c t u D ρ M := h (fun M' => t D ρ M') (fun M' => u D ρ M') (fun _ h => h) fun _ h => h
theorem seq_run {t u : MS} {D : En} {ρ : Sl} {M : Mem} (h : t { nx := fun ρ M => u D ρ M, rt := D.rt, bk := D.bk, ct := D.ct } ρ M) : mSeq t u D ρ M := h
theorem next_run {D : En} {ρ : Sl} {M : Mem} (h : D.nx ρ M) : mNext D ρ M := h
theorem forL_step {still : Mem → Prop} {g : MG} {tb : MS} {D : En} {n : Nat} {d : Da} {ds : List Da} {ρ : Sl} {M : Mem} (h : ∀ C : Sl → Mem → Prop, (∀ ρ' M', still M' → forL still g tb D n ds ρ' M' → C ρ' M') → g d ρ M fun ρ1 M1 => tb { nx := C, rt := D.rt, bk := D.nx, ct := C } ρ1 M1) :
    forL still g tb D n (d :: ds) ρ M := by
  unfold forL
  exact h _ fun ρ' M' s f => ⟨ρ', M', .same, s, f⟩
theorem forL_end {still : Mem → Prop} {g : MG} {tb : MS} {D : En} {n : Nat} {ρ : Sl} {M : Mem} (h : D.nx ρ M) : forL still g tb D n [] ρ M := h
theorem valD_nil {κ : Type} [DecidableEq κ] {k : κ} : valD ([] : List (κ × Da)) k = none := rfl
theorem valD_cons {κ : Type} [DecidableEq κ] {k j : κ} {d : Da} {r : List (κ × Da)} : valD ((j, d) :: r) k = if j = k then some d else valD r k := by
  unfold valD
  rw [List.find?_cons]
  by_cases h : j = k <;> simp [h]
theorem tabD_nil {k : Str} : tabD [] k = none := rfl
theorem tabD_cons {k j : Str} {d : List Da} {r : List (Str × List Da)} : tabD ((j, d) :: r) k = if j = k then some d else tabD r k := by
  unfold tabD
  rw [List.find?_cons]
  by_cases h : j = k <;> simp [h]
theorem look_lastM {M : Mem} {x : Da} : look (M ++ [x]) (.cell M.length) = x := by
  rw [look_cell]
  simp
theorem valD_put (kds : List (Key × Da)) (k j : Key) (d : Da) : valD (putD kds k d) j = if k = j then some d else valD kds j := by
  unfold putD
  split
  · rename_i h
    have go : ∀ kds : List (Key × Da), valD (kds.map fun kv => if kv.1 = k then (kv.1, d) else kv) j = if k = j then (if (kds.any fun kv => decide (kv.1 = k)) = true then some d else none) else valD kds j := by
      intro kds
      induction kds with
      | nil => simp [valD]
      | cons p r ih =>
        obtain ⟨i, e⟩ := p
        rw [List.map_cons]
        by_cases c : i = k
        · subst c
          simp only [if_true]
          rw [valD_cons, valD_cons, ih]
          by_cases c2 : i = j
          · simp [c2]
          · simp [c2]
        · simp only [c, if_false]
          rw [valD_cons, valD_cons, ih]
          by_cases c2 : i = j
          · have c3 : ¬ k = j := fun z => c (c2.trans z.symm)
            simp [c2, c3]
          · rw [List.any_cons, decide_eq_false c, Bool.false_or, if_neg c2, if_neg c2]
    rw [go, h, if_pos rfl]
  · rename_i h
    have go : ∀ kds : List (Key × Da), ¬ (kds.any fun kv => decide (kv.1 = k)) = true → valD (kds ++ [(k, d)]) j = if k = j then some d else valD kds j := by
      intro kds
      induction kds with
      | nil => intro _; rw [List.nil_append, valD_cons]
      | cons p r ih =>
        intro h
        obtain ⟨i, e⟩ := p
        rw [List.any_cons] at h
        have h1 : ¬ i = k := fun z => h (by simp [z])
        have h2 := ih fun z => h (by rw [z]; simp)
        rw [List.cons_append, valD_cons, valD_cons, h2]
        by_cases c2 : i = j
        · have c3 : ¬ k = j := fun z => h1 (c2.trans z.symm)
          simp [c2, c3]
        · simp [c2]
    exact go kds h
theorem putD_len (kds : List (Key × Da)) (k : Key) (d : Da) : (putD kds k d).length ≤ kds.length + 1 := by
  unfold putD
  split
  · rw [List.length_map]; omega
  · rw [List.length_append]; simp
theorem mergeD_len : ∀ (l acc : List (Key × Da)), (mergeD acc l).length ≤ acc.length + l.length
  | [], acc => by show acc.length ≤ _; simp
  | (k, d) :: l, acc => by
    have h := mergeD_len l (putD acc k d)
    have h2 := putD_len acc k d
    show (mergeD (putD acc k d) l).length ≤ _
    rw [List.length_cons]
    omega
theorem mergeD_nil (acc : List (Key × Da)) : mergeD acc [] = acc := rfl
theorem mergeD_cons (acc : List (Key × Da)) (k : Key) (d : Da) (l : List (Key × Da)) : mergeD acc ((k, d) :: l) = mergeD (putD acc k d) l := rfl
theorem len_put {kds : List (Key × Da)} {k : Key} {d : Da} {n : Nat} (h : kds.length ≤ n) : (putD kds k d).length ≤ n + 1 := Nat.le_trans (putD_len _ _ _) (by omega)
theorem mMix_hit {X : ExT} {W : WD} {D : En} {c x : Str} {i : Option Nat} {ts : Addr → Addr → MS} {r : List HdM} {fs : List (Str × Da)} {ρ : Sl} {M : Mem} (e : X.lookup (c, x) = some true) (h1 : i.isSome = true → c = x) (h : ∀ a dd, ts a dd (unbD i D) (bndD i (.exv a dd c fs) ρ) M) :
    mMix X W D ((x, i, ts) :: r) c fs ρ M := by
  simp only [mMix, e]
  exact ⟨h1, h⟩
theorem mMix_miss {X : ExT} {W : WD} {D : En} {c x : Str} {i : Option Nat} {ts : Addr → Addr → MS} {r : List HdM} {fs : List (Str × Da)} {ρ : Sl} {M : Mem} (e : X.lookup (c, x) = some false) (h : mMix X W D r c fs ρ M) : mMix X W D ((x, i, ts) :: r) c fs ρ M := by
  simp only [mMix, e]
  exact h
end Z

namespace Z
open PySem PySem.Spec PyProof.Rows L2 Evl
/-! ### readings (gen.py) -/
/-- the tables of the module -/
structure Tbl (K : PySem.W.Frag) : Prop where
  t_CHANGES : ∀ H, SqT K H (He.ga K "CHANGES") [.str "hang", .str "take", .str "split", .str "join"]
  t_CHECKS : ∀ H, SqT K H (He.ga K "CHECKS") [.str "border", .str "key"]
  t_DEEDS : ∀ H, SqT K H (He.ga K "DEEDS") [.str "put", .str "claim", .str "strike", .str "read"]
  t_KINDS : ∀ H, SqT K H (He.ga K "KINDS") [.str "put", .str "strike", .str "read", .str "direct", .str "hang", .str "take", .str "split", .str "join"]
  n_LOCKED : ∀ z : Str, z ∉ (["table", "part", "old", "new", "rest"] : List Str) → PySem.W.nsIn K (He.ga K "LOCKED") z = some none
  v_LOCKED_table : PySem.W.nsIn K (He.ga K "LOCKED") "table" = some (some (.ref (kAt K (He.ga K "LOCKED") "table")))
  t_LOCKED_table : ∀ H, SqT K H (kAt K (He.ga K "LOCKED") "table") [.str "put", .str "strike", .str "read", .str "hang", .str "take", .str "split", .str "join"]
  v_LOCKED_part : PySem.W.nsIn K (He.ga K "LOCKED") "part" = some (some (.ref (kAt K (He.ga K "LOCKED") "part")))
  t_LOCKED_part : ∀ H, SqT K H (kAt K (He.ga K "LOCKED") "part") [.str "put", .str "strike", .str "read", .str "direct"]
  v_LOCKED_old : PySem.W.nsIn K (He.ga K "LOCKED") "old" = some (some (.ref (kAt K (He.ga K "LOCKED") "old")))
  t_LOCKED_old : ∀ H, SqT K H (kAt K (He.ga K "LOCKED") "old") [.str "take", .str "split", .str "join"]
  v_LOCKED_new : PySem.W.nsIn K (He.ga K "LOCKED") "new" = some (some (.ref (kAt K (He.ga K "LOCKED") "new")))
  t_LOCKED_new : ∀ H, SqT K H (kAt K (He.ga K "LOCKED") "new") [.str "hang", .str "split", .str "join"]
  v_LOCKED_rest : PySem.W.nsIn K (He.ga K "LOCKED") "rest" = some (some (.ref (kAt K (He.ga K "LOCKED") "rest")))
  t_LOCKED_rest : ∀ H, SqT K H (kAt K (He.ga K "LOCKED") "rest") [.str "hang", .str "take", .str "split", .str "join"]
  n_PLAIN_STEPS : ∀ z : Str, z ∉ (["look", "again", "border", "key", "put", "claim", "strike", "view", "read", "move", "switch", "wait", "close", "end"] : List Str) → PySem.W.nsIn K (He.ga K "PLAIN_STEPS") z = some none
  v_PLAIN_STEPS_look : PySem.W.nsIn K (He.ga K "PLAIN_STEPS") "look" = some (some (.ref (kAt K (He.ga K "PLAIN_STEPS") "look")))
  t_PLAIN_STEPS_look : ∀ H, SqT K H (kAt K (He.ga K "PLAIN_STEPS") "look") [.str "put", .str "strike", .str "read"]
  v_PLAIN_STEPS_again : PySem.W.nsIn K (He.ga K "PLAIN_STEPS") "again" = some (some (.ref (kAt K (He.ga K "PLAIN_STEPS") "again")))
  t_PLAIN_STEPS_again : ∀ H, SqT K H (kAt K (He.ga K "PLAIN_STEPS") "again") [.str "put", .str "strike", .str "read"]
  v_PLAIN_STEPS_border : PySem.W.nsIn K (He.ga K "PLAIN_STEPS") "border" = some (some (.ref (kAt K (He.ga K "PLAIN_STEPS") "border")))
  t_PLAIN_STEPS_border : ∀ H, SqT K H (kAt K (He.ga K "PLAIN_STEPS") "border") [.str "direct"]
  v_PLAIN_STEPS_key : PySem.W.nsIn K (He.ga K "PLAIN_STEPS") "key" = some (some (.ref (kAt K (He.ga K "PLAIN_STEPS") "key")))
  t_PLAIN_STEPS_key : ∀ H, SqT K H (kAt K (He.ga K "PLAIN_STEPS") "key") [.str "put", .str "direct"]
  v_PLAIN_STEPS_put : PySem.W.nsIn K (He.ga K "PLAIN_STEPS") "put" = some (some (.ref (kAt K (He.ga K "PLAIN_STEPS") "put")))
  t_PLAIN_STEPS_put : ∀ H, SqT K H (kAt K (He.ga K "PLAIN_STEPS") "put") [.str "put", .str "direct"]
  v_PLAIN_STEPS_claim : PySem.W.nsIn K (He.ga K "PLAIN_STEPS") "claim" = some (some (.ref (kAt K (He.ga K "PLAIN_STEPS") "claim")))
  t_PLAIN_STEPS_claim : ∀ H, SqT K H (kAt K (He.ga K "PLAIN_STEPS") "claim") [.str "put", .str "direct"]
  v_PLAIN_STEPS_strike : PySem.W.nsIn K (He.ga K "PLAIN_STEPS") "strike" = some (some (.ref (kAt K (He.ga K "PLAIN_STEPS") "strike")))
  t_PLAIN_STEPS_strike : ∀ H, SqT K H (kAt K (He.ga K "PLAIN_STEPS") "strike") [.str "strike"]
  v_PLAIN_STEPS_view : PySem.W.nsIn K (He.ga K "PLAIN_STEPS") "view" = some (some (.ref (kAt K (He.ga K "PLAIN_STEPS") "view")))
  t_PLAIN_STEPS_view : ∀ H, SqT K H (kAt K (He.ga K "PLAIN_STEPS") "view") [.str "read"]
  v_PLAIN_STEPS_read : PySem.W.nsIn K (He.ga K "PLAIN_STEPS") "read" = some (some (.ref (kAt K (He.ga K "PLAIN_STEPS") "read")))
  t_PLAIN_STEPS_read : ∀ H, SqT K H (kAt K (He.ga K "PLAIN_STEPS") "read") [.str "read"]
  v_PLAIN_STEPS_move : PySem.W.nsIn K (He.ga K "PLAIN_STEPS") "move" = some (some (.ref (kAt K (He.ga K "PLAIN_STEPS") "move")))
  t_PLAIN_STEPS_move : ∀ H, SqT K H (kAt K (He.ga K "PLAIN_STEPS") "move") [.str "split", .str "join"]
  v_PLAIN_STEPS_switch : PySem.W.nsIn K (He.ga K "PLAIN_STEPS") "switch" = some (some (.ref (kAt K (He.ga K "PLAIN_STEPS") "switch")))
  t_PLAIN_STEPS_switch : ∀ H, SqT K H (kAt K (He.ga K "PLAIN_STEPS") "switch") [.str "hang", .str "take", .str "split", .str "join"]
  v_PLAIN_STEPS_wait : PySem.W.nsIn K (He.ga K "PLAIN_STEPS") "wait" = some (some (.ref (kAt K (He.ga K "PLAIN_STEPS") "wait")))
  t_PLAIN_STEPS_wait : ∀ H, SqT K H (kAt K (He.ga K "PLAIN_STEPS") "wait") [.str "hang", .str "take", .str "split", .str "join"]
  v_PLAIN_STEPS_close : PySem.W.nsIn K (He.ga K "PLAIN_STEPS") "close" = some (some (.ref (kAt K (He.ga K "PLAIN_STEPS") "close")))
  t_PLAIN_STEPS_close : ∀ H, SqT K H (kAt K (He.ga K "PLAIN_STEPS") "close") [.str "hang", .str "take", .str "split", .str "join"]
  v_PLAIN_STEPS_end : PySem.W.nsIn K (He.ga K "PLAIN_STEPS") "end" = some (some (.ref (kAt K (He.ga K "PLAIN_STEPS") "end")))
  t_PLAIN_STEPS_end : ∀ H, SqT K H (kAt K (He.ga K "PLAIN_STEPS") "end") [.str "put", .str "strike", .str "read", .str "direct", .str "hang", .str "take", .str "split", .str "join"]
structure Exm (K : PySem.W.Frag) : Prop where
  e_NoProgram_NoProgram : PySem.W.exmOne K (.ref (He.ga K "NoProgram")) (.ref (He.ga K "NoProgram")) = some true
def tab_CHANGES : List Da := [.str "hang", .str "take", .str "split", .str "join"]
def tab_CHECKS : List Da := [.str "border", .str "key"]
def tab_DEEDS : List Da := [.str "put", .str "claim", .str "strike", .str "read"]
def tab_KINDS : List Da := [.str "put", .str "strike", .str "read", .str "direct", .str "hang", .str "take", .str "split", .str "join"]
def tab_LOCKED : List (Str × List Da) := [("table", [.str "put", .str "strike", .str "read", .str "hang", .str "take", .str "split", .str "join"]), ("part", [.str "put", .str "strike", .str "read", .str "direct"]), ("old", [.str "take", .str "split", .str "join"]), ("new", [.str "hang", .str "split", .str "join"]), ("rest", [.str "hang", .str "take", .str "split", .str "join"])]
def tab_PLAIN_STEPS : List (Str × List Da) := [("look", [.str "put", .str "strike", .str "read"]), ("again", [.str "put", .str "strike", .str "read"]), ("border", [.str "direct"]), ("key", [.str "put", .str "direct"]), ("put", [.str "put", .str "direct"]), ("claim", [.str "put", .str "direct"]), ("strike", [.str "strike"]), ("view", [.str "read"]), ("read", [.str "read"]), ("move", [.str "split", .str "join"]), ("switch", [.str "hang", .str "take", .str "split", .str "join"]), ("wait", [.str "hang", .str "take", .str "split", .str "join"]), ("close", [.str "hang", .str "take", .str "split", .str "join"]), ("end", [.str "put", .str "strike", .str "read", .str "direct", .str "hang", .str "take", .str "split", .str "join"])]
structure TabD (K : PySem.W.Frag) : Prop where
  t_CHANGES : KTup K (He.ga K "CHANGES") tab_CHANGES
  t_CHECKS : KTup K (He.ga K "CHECKS") tab_CHECKS
  t_DEEDS : KTup K (He.ga K "DEEDS") tab_DEEDS
  t_KINDS : KTup K (He.ga K "KINDS") tab_KINDS
  k_LOCKED : KTab K (He.ga K "LOCKED") tab_LOCKED
  k_PLAIN_STEPS : KTab K (He.ga K "PLAIN_STEPS") tab_PLAIN_STEPS
theorem Tbl.d_LOCKED {K : PySem.W.Frag} (T : Tbl K) : KTab K (He.ga K "LOCKED") tab_LOCKED := ⟨T.n_LOCKED, fun z ds h => by
      unfold tab_LOCKED at h
      simp only [List.mem_cons, List.not_mem_nil, or_false, Prod.mk.injEq] at h
      rcases h with ⟨rfl, rfl⟩ | ⟨rfl, rfl⟩ | ⟨rfl, rfl⟩ | ⟨rfl, rfl⟩ | ⟨rfl, rfl⟩
      · exact ⟨_, T.v_LOCKED_table, _, T.t_LOCKED_table, fun _ _ _ => (.cons (.str (by decide)) (.cons (.str (by decide)) (.cons (.str (by decide)) (.cons (.str (by decide)) (.cons (.str (by decide)) (.cons (.str (by decide)) (.cons (.str (by decide)) .nil)))))))⟩
      · exact ⟨_, T.v_LOCKED_part, _, T.t_LOCKED_part, fun _ _ _ => (.cons (.str (by decide)) (.cons (.str (by decide)) (.cons (.str (by decide)) (.cons (.str (by decide)) .nil))))⟩
      · exact ⟨_, T.v_LOCKED_old, _, T.t_LOCKED_old, fun _ _ _ => (.cons (.str (by decide)) (.cons (.str (by decide)) (.cons (.str (by decide)) .nil)))⟩
      · exact ⟨_, T.v_LOCKED_new, _, T.t_LOCKED_new, fun _ _ _ => (.cons (.str (by decide)) (.cons (.str (by decide)) (.cons (.str (by decide)) .nil)))⟩
      · exact ⟨_, T.v_LOCKED_rest, _, T.t_LOCKED_rest, fun _ _ _ => (.cons (.str (by decide)) (.cons (.str (by decide)) (.cons (.str (by decide)) (.cons (.str (by decide)) .nil))))⟩⟩
theorem Tbl.d_PLAIN_STEPS {K : PySem.W.Frag} (T : Tbl K) : KTab K (He.ga K "PLAIN_STEPS") tab_PLAIN_STEPS := ⟨T.n_PLAIN_STEPS, fun z ds h => by
      unfold tab_PLAIN_STEPS at h
      simp only [List.mem_cons, List.not_mem_nil, or_false, Prod.mk.injEq] at h
      rcases h with ⟨rfl, rfl⟩ | ⟨rfl, rfl⟩ | ⟨rfl, rfl⟩ | ⟨rfl, rfl⟩ | ⟨rfl, rfl⟩ | ⟨rfl, rfl⟩ | ⟨rfl, rfl⟩ | ⟨rfl, rfl⟩ | ⟨rfl, rfl⟩ | ⟨rfl, rfl⟩ | ⟨rfl, rfl⟩ | ⟨rfl, rfl⟩ | ⟨rfl, rfl⟩ | ⟨rfl, rfl⟩
      · exact ⟨_, T.v_PLAIN_STEPS_look, _, T.t_PLAIN_STEPS_look, fun _ _ _ => (.cons (.str (by decide)) (.cons (.str (by decide)) (.cons (.str (by decide)) .nil)))⟩
      · exact ⟨_, T.v_PLAIN_STEPS_again, _, T.t_PLAIN_STEPS_again, fun _ _ _ => (.cons (.str (by decide)) (.cons (.str (by decide)) (.cons (.str (by decide)) .nil)))⟩
      · exact ⟨_, T.v_PLAIN_STEPS_border, _, T.t_PLAIN_STEPS_border, fun _ _ _ => (.cons (.str (by decide)) .nil)⟩
      · exact ⟨_, T.v_PLAIN_STEPS_key, _, T.t_PLAIN_STEPS_key, fun _ _ _ => (.cons (.str (by decide)) (.cons (.str (by decide)) .nil))⟩
      · exact ⟨_, T.v_PLAIN_STEPS_put, _, T.t_PLAIN_STEPS_put, fun _ _ _ => (.cons (.str (by decide)) (.cons (.str (by decide)) .nil))⟩
      · exact ⟨_, T.v_PLAIN_STEPS_claim, _, T.t_PLAIN_STEPS_claim, fun _ _ _ => (.cons (.str (by decide)) (.cons (.str (by decide)) .nil))⟩
      · exact ⟨_, T.v_PLAIN_STEPS_strike, _, T.t_PLAIN_STEPS_strike, fun _ _ _ => (.cons (.str (by decide)) .nil)⟩
      · exact ⟨_, T.v_PLAIN_STEPS_view, _, T.t_PLAIN_STEPS_view, fun _ _ _ => (.cons (.str (by decide)) .nil)⟩
      · exact ⟨_, T.v_PLAIN_STEPS_read, _, T.t_PLAIN_STEPS_read, fun _ _ _ => (.cons (.str (by decide)) .nil)⟩
      · exact ⟨_, T.v_PLAIN_STEPS_move, _, T.t_PLAIN_STEPS_move, fun _ _ _ => (.cons (.str (by decide)) (.cons (.str (by decide)) .nil))⟩
      · exact ⟨_, T.v_PLAIN_STEPS_switch, _, T.t_PLAIN_STEPS_switch, fun _ _ _ => (.cons (.str (by decide)) (.cons (.str (by decide)) (.cons (.str (by decide)) (.cons (.str (by decide)) .nil))))⟩
      · exact ⟨_, T.v_PLAIN_STEPS_wait, _, T.t_PLAIN_STEPS_wait, fun _ _ _ => (.cons (.str (by decide)) (.cons (.str (by decide)) (.cons (.str (by decide)) (.cons (.str (by decide)) .nil))))⟩
      · exact ⟨_, T.v_PLAIN_STEPS_close, _, T.t_PLAIN_STEPS_close, fun _ _ _ => (.cons (.str (by decide)) (.cons (.str (by decide)) (.cons (.str (by decide)) (.cons (.str (by decide)) .nil))))⟩
      · exact ⟨_, T.v_PLAIN_STEPS_end, _, T.t_PLAIN_STEPS_end, fun _ _ _ => (.cons (.str (by decide)) (.cons (.str (by decide)) (.cons (.str (by decide)) (.cons (.str (by decide)) (.cons (.str (by decide)) (.cons (.str (by decide)) (.cons (.str (by decide)) (.cons (.str (by decide)) .nil))))))))⟩⟩
theorem Tbl.da {K : PySem.W.Frag} (T : Tbl K) : TabD K := ⟨⟨_, T.t_CHANGES, fun _ _ _ => (.cons (.str (by decide)) (.cons (.str (by decide)) (.cons (.str (by decide)) (.cons (.str (by decide)) .nil))))⟩, ⟨_, T.t_CHECKS, fun _ _ _ => (.cons (.str (by decide)) (.cons (.str (by decide)) .nil))⟩, ⟨_, T.t_DEEDS, fun _ _ _ => (.cons (.str (by decide)) (.cons (.str (by decide)) (.cons (.str (by decide)) (.cons (.str (by decide)) .nil))))⟩, ⟨_, T.t_KINDS, fun _ _ _ => (.cons (.str (by decide)) (.cons (.str (by decide)) (.cons (.str (by decide)) (.cons (.str (by decide)) (.cons (.str (by decide)) (.cons (.str (by decide)) (.cons (.str (by decide)) (.cons (.str (by decide)) .nil))))))))⟩, T.d_LOCKED, T.d_PLAIN_STEPS⟩
def exT : ExT := [(("NoProgram", "NoProgram"), true)]
theorem Exm.da {K : PySem.W.Frag} (X : Exm K) : ExOk K exT := (.cons X.e_NoProgram_NoProgram ExOk.nil)
def m_is_name : MS :=
  (mSeq (mIfS ((mOr (mNot (mB (mCB nIsi (mCons (mVar 0) (mCons (mC (.ty "str")) mNil))))) (mOr (mB (mOp nEq (mVar 0) (mC (.str "table")))) (mNot (mB (mChain nLe nLe (mC (.int 1)) (mCB nLen (mCons (mVar 0) mNil)) (mC (.int 8)))))))) (mRet (mC (.bl false))) mNext)
    (mRet (mCB nAll (mCons (mLc (mAny (mVar 0)) (hName 1) mYes (mOp nIn (mVar 1) (mC (.str "abcdefghijklmnopqrstuvwxyz"))) [1]) mNil))))
def f_is_name : MP := dfn 2 1 (fun _ => m_is_name)
abbrev sp_is_name (K : PySem.W.Frag) : Sp := up K f_is_name
def t_is_name (K : PySem.W.Frag) : TS :=
  (tSeq (tIfS ((tOr (tNot (tB (tCB (rIsi K) (tCons (tVar 0) (tCons (tC (.ty "str")) tNil))))) (tOr (tTest (tOp (rEqA K) (tVar 0) (tC (.str "table")))) (tNot (tTest (tChain rLeA rLeA (tC (.int 1)) (tCB (rLenB K) (tCons (tVar 0) tNil)) (tC (.int 8)))))))) (tRet (tC (.bl false))) tNext)
    (tRet (tCB (rAll K) (tCons (tLc (iSeq K (tVar 0)) (gName 1) tYes (tOp (rInB K) (tVar 1) (tC (.str "abcdefghijklmnopqrstuvwxyz"))) [1]) tNil))))
theorem c_is_name {K : PySem.W.Frag} : SS K (fun _ => t_is_name K) (fun _ => m_is_name) := by
  unfold t_is_name m_is_name 
  exact (S_seq (S_if ((E_or (E_not (E_B (E_cb C_isi (E_cons (E_var 0) (E_cons (E_ty _) E_nil))))) (E_or (E_test (E_op O_eq (E_var 0) (E_str (by decide)))) (E_not (E_test (E_chain O_le O_le (E_int 1) (E_cb C_len (E_cons (E_var 0) E_nil)) (E_int 8))))))) (S_ret (E_bl false)) S_next)
    (S_ret (E_cb C_all (E_cons (E_lc (I_seq (E_var 0)) (V_name 1 (by decide)) E_yes (E_op O_in (E_var 1) (E_str (by decide)))) E_nil))))
theorem len_is_name (K : PySem.W.Frag) : ∀ vs H Q E, sp_is_name K vs H Q E → vs.length = (["value"] : List Str).length := fun _ _ _ _ h => up_len h
theorem pure_is_name (K : PySem.W.Frag) (vs : List V) (H : Hp) (Q : VK) (E : XK) (h : sp_is_name K vs H Q E) : t_is_name K { nx := fun _ H' => Q .non H', rt := Q } (start ["value", "sign"] vs) H := up_run (tw := fun _ => t_is_name K) (c_is_name) (N := ["value", "sign"]) rfl h
def m_need_kind (W : WD) : MS :=
  (mIfS (mB (mOp nNin (mVar 0) (mC (.kt tab_KINDS)))) (mRaise "NoProgram" "kind" (mCons (mVar 0) mNil) W) mNext)
def f_need_kind : MP := dfn 1 1 (fun W => m_need_kind W)
abbrev sp_need_kind (K : PySem.W.Frag) : Sp := up K f_need_kind
def tw_need_kind (K : PySem.W.Frag) (W : WX) : TS :=
  (tIfS (tTest (tOp (rNinB K) (tVar 0) (tC (.ref (He.ga K "KINDS"))))) (tRaisekind (He.ga K "NoProgram") W (tCons (tVar 0) tNil)) tNext)
def t_need_kind (K : PySem.W.Frag) (E : XK) : TS := tw_need_kind K (fun cls d _ H => E cls d H)
theorem c_need_kind {K : PySem.W.Frag} (T : TabD K) : SS K (fun W => tw_need_kind K W) (fun W => m_need_kind W) := by
  unfold tw_need_kind m_need_kind 
  exact (S_if (E_test (E_op O_nin (E_var 0) (E_kt T.t_KINDS))) (S_raisekind "NoProgram" (E_cons (E_var 0) E_nil)) S_next)
theorem len_need_kind (K : PySem.W.Frag) : ∀ vs H Q E, sp_need_kind K vs H Q E → vs.length = (["kind"] : List Str).length := fun _ _ _ _ h => up_len h
theorem pure_need_kind (K : PySem.W.Frag) (vs : List V) (H : Hp) (Q : VK) (E : XK) (T : Tbl K) (h : sp_need_kind K vs H Q E) : t_need_kind K E { nx := fun _ H' => Q .non H', rt := Q } (start ["kind"] vs) H := up_run (tw := fun W => tw_need_kind K W) (c_need_kind T.da) (N := ["kind"]) rfl h
def m_has_step : MS :=
  (mSeq (mIfS ((mOr (mNot (mB (mCB nIsi (mCons (mVar 0) (mCons (mC (.ty "tuple")) mNil))))) (mOr (mB (mOp nEq (mCB nLen (mCons (mVar 0) mNil)) (mC (.int 0)))) (mNot (mB (mCB nAll (mCons (mLc (mAny (mVar 0)) (hName 2) mYes (mCB nIsi (mCons (mVar 2) (mCons (mC (.ty "str")) mNil))) [2]) mNil))))))) (mRet (mC (.bl false))) mNext)
    (mSeq (mIfS (mB (mOp nEq (mCB nLen (mCons (mVar 0) mNil)) (mC (.int 1)))) (mRet ((mAndV (mOpR (nInK tab_PLAIN_STEPS) (mOp nIx (mVar 0) (mC (.int 0)))) (mOp nIn (mVar 1) (mOpL (nIxK tab_PLAIN_STEPS) (mOp nIx (mVar 0) (mC (.int 0)))))))) mNext)
    (mSeq (mIfS (mB (mOp nEq (mOp nIx (mVar 0) (mC (.int 0))) (mC (.str "scan")))) (mRet ((mAndV (mOp nEq (mVar 1) (mC (.str "hang"))) (mAndV (mOp nEq (mCB nLen (mCons (mVar 0) mNil)) (mC (.int 2))) (mOp nIn (mOp nIx (mVar 0) (mC (.int 1))) (mTup (mCons (mC (.str "new")) (mCons (mC (.str "rest")) mNil)))))))) mNext)
    (mSeq (mIfS ((mOr (mB (mOp nNe (mOp nIx (mVar 0) (mC (.int 0))) (mC (.str "lock")))) (mOr (mB (mOp nNe (mCB nLen (mCons (mVar 0) mNil)) (mC (.int 3)))) (mB (mOpR (nNinK tab_LOCKED) (mOp nIx (mVar 0) (mC (.int 1)))))))) (mRet (mC (.bl false))) mNext)
    (mRet ((mAndV (mOp nIn (mVar 1) (mOpL (nIxK tab_LOCKED) (mOp nIx (mVar 0) (mC (.int 1))))) (mCall f_is_name (mCons (mOp nIx (mVar 0) (mC (.int 2))) mNil)))))))))
def f_has_step : MP := dfn 3 2 (fun _ => m_has_step)
abbrev sp_has_step (K : PySem.W.Frag) : Sp := up K f_has_step
def t_has_step (K : PySem.W.Frag) : TS :=
  (tSeq (tIfS ((tOr (tNot (tB (tCB (rIsi K) (tCons (tVar 0) (tCons (tC (.ty "tuple")) tNil))))) (tOr (tTest (tOp (rEqA K) (tCB (rLenB K) (tCons (tVar 0) tNil)) (tC (.int 0)))) (tNot (tB (tCB (rAll K) (tCons (tLc (iSeq K (tVar 0)) (gName 2) tYes (tCB (rIsi K) (tCons (tVar 2) (tCons (tC (.ty "str")) tNil))) [2]) tNil))))))) (tRet (tC (.bl false))) tNext)
    (tSeq (tIfS (tTest (tOp (rEqA K) (tCB (rLenB K) (tCons (tVar 0) tNil)) (tC (.int 1)))) (tRet ((tAndV (tOp (rInK K (He.ga K "PLAIN_STEPS")) (tOp (rIxB K) (tVar 0) (tC (.int 0))) (tC (.ref (He.ga K "PLAIN_STEPS")))) (tOp (rInB K) (tVar 1) (tOp (rIxK K (He.ga K "PLAIN_STEPS")) (tC (.ref (He.ga K "PLAIN_STEPS"))) (tOp (rIxB K) (tVar 0) (tC (.int 0)))))))) tNext)
    (tSeq (tIfS (tTest (tOp (rEqA K) (tOp (rIxB K) (tVar 0) (tC (.int 0))) (tC (.str "scan")))) (tRet ((tAndV (tOp (rEqA K) (tVar 1) (tC (.str "hang"))) (tAndV (tOp (rEqA K) (tCB (rLenB K) (tCons (tVar 0) tNil)) (tC (.int 2))) (tOp (rInB K) (tOp (rIxB K) (tVar 0) (tC (.int 1))) (tTup (tCons (tC (.str "new")) (tCons (tC (.str "rest")) tNil)))))))) tNext)
    (tSeq (tIfS ((tOr (tTest (tOp (rNeA K) (tOp (rIxB K) (tVar 0) (tC (.int 0))) (tC (.str "lock")))) (tOr (tTest (tOp (rNeA K) (tCB (rLenB K) (tCons (tVar 0) tNil)) (tC (.int 3)))) (tTest (tOp (rNinK K (He.ga K "LOCKED")) (tOp (rIxB K) (tVar 0) (tC (.int 1))) (tC (.ref (He.ga K "LOCKED")))))))) (tRet (tC (.bl false))) tNext)
    (tRet ((tAndV (tOp (rInB K) (tVar 1) (tOp (rIxK K (He.ga K "LOCKED")) (tC (.ref (He.ga K "LOCKED"))) (tOp (rIxB K) (tVar 0) (tC (.int 1))))) (tCall (sp_is_name K) [] E0 (tCons (tOp (rIxB K) (tVar 0) (tC (.int 2))) tNil)))))))))
theorem c_has_step {K : PySem.W.Frag} (T : TabD K) : SS K (fun _ => t_has_step K) (fun _ => m_has_step) := by
  unfold t_has_step m_has_step 
  exact (S_seq (S_if ((E_or (E_not (E_B (E_cb C_isi (E_cons (E_var 0) (E_cons (E_ty _) E_nil))))) (E_or (E_test (E_op O_eq (E_cb C_len (E_cons (E_var 0) E_nil)) (E_int 0))) (E_not (E_B (E_cb C_all (E_cons (E_lc (I_seq (E_var 0)) (V_name 2 (by decide)) E_yes (E_cb C_isi (E_cons (E_var 2) (E_cons (E_ty _) E_nil)))) E_nil))))))) (S_ret (E_bl false)) S_next)
    (S_seq (S_if (E_test (E_op O_eq (E_cb C_len (E_cons (E_var 0) E_nil)) (E_int 1))) (S_ret ((E_andV (E_opR (O_inK T.k_PLAIN_STEPS) (E_op O_ix (E_var 0) (E_int 0))) (E_op O_in (E_var 1) (E_opL (O_ixK T.k_PLAIN_STEPS) (E_op O_ix (E_var 0) (E_int 0))))))) S_next)
    (S_seq (S_if (E_test (E_op O_eq (E_op O_ix (E_var 0) (E_int 0)) (E_str (by decide)))) (S_ret ((E_andV (E_op O_eq (E_var 1) (E_str (by decide))) (E_andV (E_op O_eq (E_cb C_len (E_cons (E_var 0) E_nil)) (E_int 2)) (E_op O_in (E_op O_ix (E_var 0) (E_int 1)) (E_tup (E_cons (E_str (by decide)) (E_cons (E_str (by decide)) E_nil)))))))) S_next)
    (S_seq (S_if ((E_or (E_test (E_op O_ne (E_op O_ix (E_var 0) (E_int 0)) (E_str (by decide)))) (E_or (E_test (E_op O_ne (E_cb C_len (E_cons (E_var 0) E_nil)) (E_int 3))) (E_test (E_opR (O_ninK T.k_LOCKED) (E_op O_ix (E_var 0) (E_int 1))))))) (S_ret (E_bl false)) S_next)
    (S_ret ((E_andV (E_op O_in (E_var 1) (E_opL (O_ixK T.k_LOCKED) (E_op O_ix (E_var 0) (E_int 1)))) (E_call f_is_name (E_cons (E_op O_ix (E_var 0) (E_int 2)) E_nil)))))))))
theorem len_has_step (K : PySem.W.Frag) : ∀ vs H Q E, sp_has_step K vs H Q E → vs.length = (["value", "kind"] : List Str).length := fun _ _ _ _ h => up_len h
theorem pure_has_step (K : PySem.W.Frag) (vs : List V) (H : Hp) (Q : VK) (E : XK) (T : Tbl K) (h : sp_has_step K vs H Q E) : t_has_step K { nx := fun _ H' => Q .non H', rt := Q } (start ["value", "kind", "item"] vs) H := up_run (tw := fun _ => t_has_step K) (c_has_step T.da) (N := ["value", "kind", "item"]) rfl h
def m_words_of : MS :=
  (mRet (mLc (mAny (mVar 0)) (hName 1) mYes (mOp nIx (mVar 1) (mC (.int 0))) [1]))
def f_words_of : MP := dfn 2 1 (fun _ => m_words_of)
abbrev sp_words_of (K : PySem.W.Frag) : Sp := up K f_words_of
def t_words_of (K : PySem.W.Frag) : TS :=
  (tRet (tLc (iSeq K (tVar 0)) (gName 1) tYes (tOp (rIxB K) (tVar 1) (tC (.int 0))) [1]))
theorem c_words_of {K : PySem.W.Frag} : SS K (fun _ => t_words_of K) (fun _ => m_words_of) := by
  unfold t_words_of m_words_of 
  exact (S_ret (E_lc (I_seq (E_var 0)) (V_name 1 (by decide)) E_yes (E_op O_ix (E_var 1) (E_int 0))))
theorem len_words_of (K : PySem.W.Frag) : ∀ vs H Q E, sp_words_of K vs H Q E → vs.length = (["program"] : List Str).length := fun _ _ _ _ h => up_len h
theorem pure_words_of (K : PySem.W.Frag) (vs : List V) (H : Hp) (Q : VK) (E : XK) (h : sp_words_of K vs H Q E) : t_words_of K { nx := fun _ H' => Q .non H', rt := Q } (start ["program", "step"] vs) H := up_run (tw := fun _ => t_words_of K) (c_words_of) (N := ["program", "step"]) rfl h
def m_ends_well : MS :=
  (mSeq (mAsg (mCall f_words_of (mCons (mVar 0) mNil)) (hName 2))
    (mSeq (mAsg (mIf (mB (mOp nIn (mVar 1) (mC (.kt tab_CHANGES)))) (mTup (mCons (mC (.str "end")) (mCons (mC (.str "close")) mNil))) (mTup (mCons (mC (.str "end")) mNil))) (hName 3))
    (mRet ((mAndV (mOp nIn (mOp nIx (mVar 2) (mNeg (mC (.int 1)))) (mVar 3)) (mNotV (mCB nAny (mCons (mLc (mAny (mSl nSl (mVar 2) mNoPart (mPart (mNeg (mC (.int 1)))))) (hName 4) mYes (mOp nIn (mVar 4) (mTup (mCons (mC (.str "end")) (mCons (mC (.str "close")) mNil)))) [4]) mNil))))))))
def f_ends_well : MP := dfn 5 2 (fun _ => m_ends_well)
abbrev sp_ends_well (K : PySem.W.Frag) : Sp := up K f_ends_well
def t_ends_well (K : PySem.W.Frag) : TS :=
  (tSeq (tAsg (tCall (sp_words_of K) [] E0 (tCons (tVar 0) tNil)) (gName 2))
    (tSeq (tAsg (tIf (tTest (tOp (rInB K) (tVar 1) (tC (.ref (He.ga K "CHANGES"))))) (tTup (tCons (tC (.str "end")) (tCons (tC (.str "close")) tNil))) (tTup (tCons (tC (.str "end")) tNil))) (gName 3))
    (tRet ((tAndV (tOp (rInB K) (tOp (rIxB K) (tVar 2) (tUn (rU fun i => .int (-i)) (tC (.int 1)))) (tVar 3)) (tNotV (tCB (rAny K) (tCons (tLc (iSeq K (tSl (rSlA K) (tVar 2) tNoPart (tPart (tUn (rU fun i => .int (-i)) (tC (.int 1)))))) (gName 4) tYes (tOp (rInB K) (tVar 4) (tTup (tCons (tC (.str "end")) (tCons (tC (.str "close")) tNil)))) [4]) tNil))))))))
theorem c_ends_well {K : PySem.W.Frag} (T : TabD K) : SS K (fun _ => t_ends_well K) (fun _ => m_ends_well) := by
  unfold t_ends_well m_ends_well 
  exact (S_seq (S_asg (E_call f_words_of (E_cons (E_var 0) E_nil)) (G_name 2))
    (S_seq (S_asg (E_if (E_test (E_op O_in (E_var 1) (E_kt T.t_CHANGES))) (E_tup (E_cons (E_str (by decide)) (E_cons (E_str (by decide)) E_nil))) (E_tup (E_cons (E_str (by decide)) E_nil))) (G_name 3))
    (S_ret ((E_andV (E_op O_in (E_op O_ix (E_var 2) (E_neg (E_int 1))) (E_var 3)) (E_notV (E_cb C_any (E_cons (E_lc (I_seq (E_sl O_sl (E_var 2) E_nopart (E_part (E_neg (E_int 1))))) (V_name 4 (by decide)) E_yes (E_op O_in (E_var 4) (E_tup (E_cons (E_str (by decide)) (E_cons (E_str (by decide)) E_nil))))) E_nil))))))))
theorem len_ends_well (K : PySem.W.Frag) : ∀ vs H Q E, sp_ends_well K vs H Q E → vs.length = (["program", "kind"] : List Str).length := fun _ _ _ _ h => up_len h
theorem pure_ends_well (K : PySem.W.Frag) (vs : List V) (H : Hp) (Q : VK) (E : XK) (T : Tbl K) (h : sp_ends_well K vs H Q E) : t_ends_well K { nx := fun _ H' => Q .non H', rt := Q } (start ["program", "kind", "words", "last", "word"] vs) H := up_run (tw := fun _ => t_ends_well K) (c_ends_well T.da) (N := ["program", "kind", "words", "last", "word"]) rfl h
def m_stand_ahead : MS :=
  (mRet (mNotV (mCB nAny (mCons (mLc (mAny (mSl nSl (mVar 0) (mPart (mVar 2)) mNoPart)) (hName 3) mYes (mOp nIn (mVar 3) (mVar 1)) [3]) mNil))))
def f_stand_ahead : MP := dfn 4 3 (fun _ => m_stand_ahead)
abbrev sp_stand_ahead (K : PySem.W.Frag) : Sp := up K f_stand_ahead
def t_stand_ahead (K : PySem.W.Frag) : TS :=
  (tRet (tNotV (tCB (rAny K) (tCons (tLc (iSeq K (tSl (rSlA K) (tVar 0) (tPart (tVar 2)) tNoPart)) (gName 3) tYes (tOp (rInB K) (tVar 3) (tVar 1)) [3]) tNil))))
theorem c_stand_ahead {K : PySem.W.Frag} : SS K (fun _ => t_stand_ahead K) (fun _ => m_stand_ahead) := by
  unfold t_stand_ahead m_stand_ahead 
  exact (S_ret (E_notV (E_cb C_any (E_cons (E_lc (I_seq (E_sl O_sl (E_var 0) (E_part (E_var 2)) E_nopart)) (V_name 3 (by decide)) E_yes (E_op O_in (E_var 3) (E_var 1))) E_nil))))
theorem len_stand_ahead (K : PySem.W.Frag) : ∀ vs H Q E, sp_stand_ahead K vs H Q E → vs.length = (["words", "wanted", "at"] : List Str).length := fun _ _ _ _ h => up_len h
theorem pure_stand_ahead (K : PySem.W.Frag) (vs : List V) (H : Hp) (Q : VK) (E : XK) (h : sp_stand_ahead K vs H Q E) : t_stand_ahead K { nx := fun _ H' => Q .non H', rt := Q } (start ["words", "wanted", "at", "word"] vs) H := up_run (tw := fun _ => t_stand_ahead K) (c_stand_ahead) (N := ["words", "wanted", "at", "word"]) rfl h
def b_asks_well_7 : MS :=
  (mRet (mNotV (mCB nAny (mCons (mLc (mAny (mVar 4)) (hName 7) mYes ((mOrV (mOp nIn (mOp nIx (mVar 7) (mC (.int 0))) (mTup (mCons (mC (.str "again")) (mCons (mC (.str "key")) (mStar (mC (.kt tab_DEEDS)) mNil))))) (mOp nEq (mSl nSl (mVar 7) mNoPart (mPart (mC (.int 2)))) (mTup (mCons (mC (.str "lock")) (mCons (mC (.str "part")) mNil)))))) [7]) mNil))))
def b_asks_well_6 : MS :=
  mSeq (mAsg (mSl nSl (mVar 0) mNoPart (mPart (mBM "list" nIndex (mVar 2) (mCons (mC (.str "look")) mNil)))) (hName 4)) b_asks_well_7
def b_asks_well_5 : MS :=
  mSeq (mIfS ((mOr (mB (mOp nNe (mBM "list" nCount (mVar 2) (mCons (mC (.str "look")) mNil)) (mC (.int 1)))) ((mAnd (mB (mOp nEq (mVar 1) (mC (.str "read")))) (mB (mOp nNe (mBM "list" nCount (mVar 2) (mCons (mC (.str "view")) mNil)) (mC (.int 1)))))))) (mRet (mC (.bl false))) mNext) b_asks_well_6
def b_asks_well_4 : MS :=
  mSeq (mIfS (mB (mOp nEq (mVar 1) (mC (.str "direct")))) (mRet (mC (.bl true))) mNext) b_asks_well_5
def b_asks_well_3 : MS :=
  mSeq (mIfS (mNot (mB (mCall f_stand_ahead (mCons (mVar 2) (mCons (mTup (mCons (mC (.str "border")) (mCons (mC (.str "key")) (mCons (mC (.str "again")) (mCons (mC (.str "view")) mNil))))) (mCons (mOp nIx (mVar 3) (mC (.int 0))) mNil)))))) (mRet (mC (.bl false))) mNext) b_asks_well_4
def b_asks_well_2 : MS :=
  mSeq (mIfS ((mOr (mB (mOp nNe (mCB nLen (mCons (mVar 3) mNil)) (mC (.int 1)))) (mB (mCB nAny (mCons (mLc (mAny (mC (.kt tab_CHECKS))) (hName 6) mYes (mOp nGt (mBM "list" nCount (mVar 2) (mCons (mVar 6) mNil)) (mC (.int 1))) [6]) mNil))))) (mRet (mC (.bl false))) mNext) b_asks_well_3
def b_asks_well_1 : MS :=
  mSeq (mAsg (mLc (mEnum (mCons (mVar 2) mNil)) (hTup 2 (hCons (hName 5) (hCons (hName 6) hNil))) (mB (mOp nIn (mVar 6) (mC (.kt tab_DEEDS)))) (mVar 5) [5, 6]) (hName 3)) b_asks_well_2
def m_asks_well : MS :=
  mSeq (mAsg (mCall f_words_of (mCons (mVar 0) mNil)) (hName 2)) b_asks_well_1
def f_asks_well : MP := dfn 8 2 (fun _ => m_asks_well)
abbrev sp_asks_well (K : PySem.W.Frag) : Sp := up K f_asks_well
def t_asks_well (K : PySem.W.Frag) : TS :=
  (tSeq (tAsg (tCall (sp_words_of K) [] E0 (tCons (tVar 0) tNil)) (gName 2))
    (tSeq (tAsg (tLc (iEnum K (tCons (tVar 2) tNil)) (gTup K 2 (gCons (gName 5) (gCons (gName 6) gNil))) (tTest (tOp (rInB K) (tVar 6) (tC (.ref (He.ga K "DEEDS"))))) (tVar 5) [5, 6]) (gName 3))
    (tSeq (tIfS ((tOr (tTest (tOp (rNeA K) (tCB (rLenB K) (tCons (tVar 3) tNil)) (tC (.int 1)))) (tB (tCB (rAny K) (tCons (tLc (iSeq K (tC (.ref (He.ga K "CHECKS")))) (gName 6) tYes (tOp rGtA (tBMW K "list" (rCountG K) (tVar 2) (tCons (tVar 6) tNil)) (tC (.int 1))) [6]) tNil))))) (tRet (tC (.bl false))) tNext)
    (tSeq (tIfS (tNot (tB (tCall (sp_stand_ahead K) [] E0 (tCons (tVar 2) (tCons (tTup (tCons (tC (.str "border")) (tCons (tC (.str "key")) (tCons (tC (.str "again")) (tCons (tC (.str "view")) tNil))))) (tCons (tOp (rIxB K) (tVar 3) (tC (.int 0))) tNil)))))) (tRet (tC (.bl false))) tNext)
    (tSeq (tIfS (tTest (tOp (rEqA K) (tVar 1) (tC (.str "direct")))) (tRet (tC (.bl true))) tNext)
    (tSeq (tIfS ((tOr (tTest (tOp (rNeA K) (tBMW K "list" (rCountG K) (tVar 2) (tCons (tC (.str "look")) tNil)) (tC (.int 1)))) ((tAnd (tTest (tOp (rEqA K) (tVar 1) (tC (.str "read")))) (tTest (tOp (rNeA K) (tBMW K "list" (rCountG K) (tVar 2) (tCons (tC (.str "view")) tNil)) (tC (.int 1)))))))) (tRet (tC (.bl false))) tNext)
    (tSeq (tAsg (tSl (rSlA K) (tVar 0) tNoPart (tPart (tBMW K "list" (rIndexG K) (tVar 2) (tCons (tC (.str "look")) tNil)))) (gName 4))
    (tRet (tNotV (tCB (rAny K) (tCons (tLc (iSeq K (tVar 4)) (gName 7) tYes ((tOrV (tOp (rInB K) (tOp (rIxB K) (tVar 7) (tC (.int 0))) (tTup (tCons (tC (.str "again")) (tCons (tC (.str "key")) (StX.tStar K (tC (.ref (He.ga K "DEEDS"))) tNil))))) (tOp (rEqA K) (tSl (rSlA K) (tVar 7) tNoPart (tPart (tC (.int 2)))) (tTup (tCons (tC (.str "lock")) (tCons (tC (.str "part")) tNil)))))) [7]) tNil)))))))))))
theorem c_asks_well {K : PySem.W.Frag} (T : TabD K) : SS K (fun _ => t_asks_well K) (fun _ => m_asks_well) := by
  unfold t_asks_well m_asks_well b_asks_well_1 b_asks_well_2 b_asks_well_3 b_asks_well_4 b_asks_well_5 b_asks_well_6 b_asks_well_7
  exact (S_seq (S_asg (E_call f_words_of (E_cons (E_var 0) E_nil)) (G_name 2))
    (S_seq (S_asg (E_lc (I_enum (E_cons (E_var 2) E_nil)) (V_tup (V_cons (V_name 5 (by decide)) (V_cons (V_name 6 (by decide)) V_nil))) (E_test (E_op O_in (E_var 6) (E_kt T.t_DEEDS))) (E_var 5)) (G_name 3))
    (S_seq (S_if ((E_or (E_test (E_op O_ne (E_cb C_len (E_cons (E_var 3) E_nil)) (E_int 1))) (E_B (E_cb C_any (E_cons (E_lc (I_seq (E_kt T.t_CHECKS)) (V_name 6 (by decide)) E_yes (E_op O_gt (E_bm M_count (E_var 2) (E_cons (E_var 6) E_nil)) (E_int 1))) E_nil))))) (S_ret (E_bl false)) S_next)
    (S_seq (S_if (E_not (E_B (E_call f_stand_ahead (E_cons (E_var 2) (E_cons (E_tup (E_cons (E_str (by decide)) (E_cons (E_str (by decide)) (E_cons (E_str (by decide)) (E_cons (E_str (by decide)) E_nil))))) (E_cons (E_op O_ix (E_var 3) (E_int 0)) E_nil)))))) (S_ret (E_bl false)) S_next)
    (S_seq (S_if (E_test (E_op O_eq (E_var 1) (E_str (by decide)))) (S_ret (E_bl true)) S_next)
    (S_seq (S_if ((E_or (E_test (E_op O_ne (E_bm M_count (E_var 2) (E_cons (E_str (by decide)) E_nil)) (E_int 1))) ((E_and (E_test (E_op O_eq (E_var 1) (E_str (by decide)))) (E_test (E_op O_ne (E_bm M_count (E_var 2) (E_cons (E_str (by decide)) E_nil)) (E_int 1))))))) (S_ret (E_bl false)) S_next)
    (S_seq (S_asg (E_sl O_sl (E_var 0) E_nopart (E_part (E_bm M_index (E_var 2) (E_cons (E_str (by decide)) E_nil)))) (G_name 4))
    (S_ret (E_notV (E_cb C_any (E_cons (E_lc (I_seq (E_var 4)) (V_name 7 (by decide)) E_yes ((E_orV (E_op O_in (E_op O_ix (E_var 7) (E_int 0)) (E_tup (E_cons (E_str (by decide)) (E_cons (E_str (by decide)) (E_star (E_kt T.t_DEEDS) E_nil))))) (E_op O_eq (E_sl O_sl (E_var 7) E_nopart (E_part (E_int 2))) (E_tup (E_cons (E_str (by decide)) (E_cons (E_str (by decide)) E_nil))))))) E_nil)))))))))))
theorem len_asks_well (K : PySem.W.Frag) : ∀ vs H Q E, sp_asks_well K vs H Q E → vs.length = (["program", "kind"] : List Str).length := fun _ _ _ _ h => up_len h
theorem pure_asks_well (K : PySem.W.Frag) (vs : List V) (H : Hp) (Q : VK) (E : XK) (T : Tbl K) (h : sp_asks_well K vs H Q E) : t_asks_well K { nx := fun _ H' => Q .non H', rt := Q } (start ["program", "kind", "words", "deeds", "early", "at", "word", "step"] vs) H := up_run (tw := fun _ => t_asks_well K) (c_asks_well T.da) (N := ["program", "kind", "words", "deeds", "early", "at", "word", "step"]) rfl h
def b_changes_well_5 : MS :=
  (mRet (mCB nAll (mCons (mLc (mAny (mTup (mCons (mC (.str "new")) (mCons (mC (.str "rest")) mNil)))) (hName 6) mYes (mOp nLe (mBM "list" nCount (mVar 0) (mCons (mTup (mCons (mC (.str "scan")) (mCons (mVar 6) mNil))) mNil)) (mC (.int 1))) [6]) mNil)))
def b_changes_well_4 : MS :=
  mSeq (mIfS (mB (mOp nIn (mVar 1) (mTup (mCons (mC (.str "split")) (mCons (mC (.str "join")) mNil))))) (mRet (mOp nEq (mBM "list" nCount (mVar 2) (mCons (mC (.str "move")) mNil)) (mC (.int 1)))) mNext) b_changes_well_5
def b_changes_well_3 : MS :=
  mSeq (mIfS ((mAnd (mB (mOp nIn (mC (.str "wait")) (mVar 2))) (mB (mOp nLt (mBM "list" nIndex (mVar 2) (mCons (mC (.str "wait")) mNil)) (mOp nIx (mVar 3) (mC (.int 0))))))) (mRet (mC (.bl false))) mNext) b_changes_well_4
def b_changes_well_2 : MS :=
  mSeq (mIfS ((mOr (mB (mOp nNe (mCB nLen (mCons (mVar 3) mNil)) (mC (.int 1)))) (mNot (mB (mCall f_stand_ahead (mCons (mVar 2) (mCons (mTup (mCons (mC (.str "move")) (mCons (mC (.str "scan")) mNil))) (mCons (mOp nIx (mVar 3) (mC (.int 0))) mNil)))))))) (mRet (mC (.bl false))) mNext) b_changes_well_3
def b_changes_well_1 : MS :=
  mSeq (mAsg (mLc (mEnum (mCons (mVar 2) mNil)) (hTup 2 (hCons (hName 4) (hCons (hName 5) hNil))) (mB (mOp nIn (mVar 5) (mTup (mCons (mC (.str "switch")) (mCons (mC (.str "close")) mNil))))) (mVar 4) [4, 5]) (hName 3)) b_changes_well_2
def m_changes_well : MS :=
  mSeq (mAsg (mCall f_words_of (mCons (mVar 0) mNil)) (hName 2)) b_changes_well_1
def f_changes_well : MP := dfn 7 2 (fun _ => m_changes_well)
abbrev sp_changes_well (K : PySem.W.Frag) : Sp := up K f_changes_well
def t_changes_well (K : PySem.W.Frag) : TS :=
  (tSeq (tAsg (tCall (sp_words_of K) [] E0 (tCons (tVar 0) tNil)) (gName 2))
    (tSeq (tAsg (tLc (iEnum K (tCons (tVar 2) tNil)) (gTup K 2 (gCons (gName 4) (gCons (gName 5) gNil))) (tTest (tOp (rInB K) (tVar 5) (tTup (tCons (tC (.str "switch")) (tCons (tC (.str "close")) tNil))))) (tVar 4) [4, 5]) (gName 3))
    (tSeq (tIfS ((tOr (tTest (tOp (rNeA K) (tCB (rLenB K) (tCons (tVar 3) tNil)) (tC (.int 1)))) (tNot (tB (tCall (sp_stand_ahead K) [] E0 (tCons (tVar 2) (tCons (tTup (tCons (tC (.str "move")) (tCons (tC (.str "scan")) tNil))) (tCons (tOp (rIxB K) (tVar 3) (tC (.int 0))) tNil)))))))) (tRet (tC (.bl false))) tNext)
    (tSeq (tIfS ((tAnd (tTest (tOp (rInB K) (tC (.str "wait")) (tVar 2))) (tTest (tOp rLtA (tBMW K "list" (rIndexG K) (tVar 2) (tCons (tC (.str "wait")) tNil)) (tOp (rIxB K) (tVar 3) (tC (.int 0))))))) (tRet (tC (.bl false))) tNext)
    (tSeq (tIfS (tTest (tOp (rInB K) (tVar 1) (tTup (tCons (tC (.str "split")) (tCons (tC (.str "join")) tNil))))) (tRet (tOp (rEqA K) (tBMW K "list" (rCountG K) (tVar 2) (tCons (tC (.str "move")) tNil)) (tC (.int 1)))) tNext)
    (tRet (tCB (rAll K) (tCons (tLc (iSeq K (tTup (tCons (tC (.str "new")) (tCons (tC (.str "rest")) tNil)))) (gName 6) tYes (tOp rLeA (tBMW K "list" (rCountG K) (tVar 0) (tCons (tTup (tCons (tC (.str "scan")) (tCons (tVar 6) tNil))) tNil)) (tC (.int 1))) [6]) tNil))))))))
theorem c_changes_well {K : PySem.W.Frag} : SS K (fun _ => t_changes_well K) (fun _ => m_changes_well) := by
  unfold t_changes_well m_changes_well b_changes_well_1 b_changes_well_2 b_changes_well_3 b_changes_well_4 b_changes_well_5
  exact (S_seq (S_asg (E_call f_words_of (E_cons (E_var 0) E_nil)) (G_name 2))
    (S_seq (S_asg (E_lc (I_enum (E_cons (E_var 2) E_nil)) (V_tup (V_cons (V_name 4 (by decide)) (V_cons (V_name 5 (by decide)) V_nil))) (E_test (E_op O_in (E_var 5) (E_tup (E_cons (E_str (by decide)) (E_cons (E_str (by decide)) E_nil))))) (E_var 4)) (G_name 3))
    (S_seq (S_if ((E_or (E_test (E_op O_ne (E_cb C_len (E_cons (E_var 3) E_nil)) (E_int 1))) (E_not (E_B (E_call f_stand_ahead (E_cons (E_var 2) (E_cons (E_tup (E_cons (E_str (by decide)) (E_cons (E_str (by decide)) E_nil))) (E_cons (E_op O_ix (E_var 3) (E_int 0)) E_nil)))))))) (S_ret (E_bl false)) S_next)
    (S_seq (S_if ((E_and (E_test (E_op O_in (E_str (by decide)) (E_var 2))) (E_test (E_op O_lt (E_bm M_index (E_var 2) (E_cons (E_str (by decide)) E_nil)) (E_op O_ix (E_var 3) (E_int 0)))))) (S_ret (E_bl false)) S_next)
    (S_seq (S_if (E_test (E_op O_in (E_var 1) (E_tup (E_cons (E_str (by decide)) (E_cons (E_str (by decide)) E_nil))))) (S_ret (E_op O_eq (E_bm M_count (E_var 2) (E_cons (E_str (by decide)) E_nil)) (E_int 1))) S_next)
    (S_ret (E_cb C_all (E_cons (E_lc (I_seq (E_tup (E_cons (E_str (by decide)) (E_cons (E_str (by decide)) E_nil)))) (V_name 6 (by decide)) E_yes (E_op O_le (E_bm M_count (E_var 0) (E_cons (E_tup (E_cons (E_str (by decide)) (E_cons (E_var 6) E_nil))) E_nil)) (E_int 1))) E_nil))))))))
theorem len_changes_well (K : PySem.W.Frag) : ∀ vs H Q E, sp_changes_well K vs H Q E → vs.length = (["program", "kind"] : List Str).length := fun _ _ _ _ h => up_len h
theorem pure_changes_well (K : PySem.W.Frag) (vs : List V) (H : Hp) (Q : VK) (E : XK) (h : sp_changes_well K vs H Q E) : t_changes_well K { nx := fun _ H' => Q .non H', rt := Q } (start ["program", "kind", "words", "turns", "at", "word", "which"] vs) H := up_run (tw := fun _ => t_changes_well K) (c_changes_well) (N := ["program", "kind", "words", "turns", "at", "word", "which"]) rfl h
def m_has_program : MS :=
  (mSeq (mIfS ((mOr (mNot (mB (mCB nIsi (mCons (mVar 0) (mCons (mC (.ty "list")) mNil))))) (mNot (mB (mChain nLe nLe (mC (.int 1)) (mCB nLen (mCons (mVar 0) mNil)) (mC (.int 12))))))) (mRet (mC (.bl false))) mNext)
    (mSeq (mIfS ((mOr (mNot (mB (mCB nAll (mCons (mLc (mAny (mVar 0)) (hName 2) mYes (mCall f_has_step (mCons (mVar 2) (mCons (mVar 1) mNil))) [2]) mNil)))) (mNot (mB (mCall f_ends_well (mCons (mVar 0) (mCons (mVar 1) mNil))))))) (mRet (mC (.bl false))) mNext)
    (mRet (mIf (mB (mOp nIn (mVar 1) (mC (.kt tab_CHANGES)))) (mCall f_changes_well (mCons (mVar 0) (mCons (mVar 1) mNil))) (mCall f_asks_well (mCons (mVar 0) (mCons (mVar 1) mNil)))))))
def f_has_program : MP := dfn 3 2 (fun _ => m_has_program)
abbrev sp_has_program (K : PySem.W.Frag) : Sp := up K f_has_program
def t_has_program (K : PySem.W.Frag) : TS :=
  (tSeq (tIfS ((tOr (tNot (tB (tCB (rIsi K) (tCons (tVar 0) (tCons (tC (.ty "list")) tNil))))) (tNot (tTest (tChain rLeA rLeA (tC (.int 1)) (tCB (rLenB K) (tCons (tVar 0) tNil)) (tC (.int 12))))))) (tRet (tC (.bl false))) tNext)
    (tSeq (tIfS ((tOr (tNot (tB (tCB (rAll K) (tCons (tLc (iSeq K (tVar 0)) (gName 2) tYes (tCall (sp_has_step K) [] E0 (tCons (tVar 2) (tCons (tVar 1) tNil))) [2]) tNil)))) (tNot (tB (tCall (sp_ends_well K) [] E0 (tCons (tVar 0) (tCons (tVar 1) tNil))))))) (tRet (tC (.bl false))) tNext)
    (tRet (tIf (tTest (tOp (rInB K) (tVar 1) (tC (.ref (He.ga K "CHANGES"))))) (tCall (sp_changes_well K) [] E0 (tCons (tVar 0) (tCons (tVar 1) tNil))) (tCall (sp_asks_well K) [] E0 (tCons (tVar 0) (tCons (tVar 1) tNil)))))))
theorem c_has_program {K : PySem.W.Frag} (T : TabD K) : SS K (fun _ => t_has_program K) (fun _ => m_has_program) := by
  unfold t_has_program m_has_program 
  exact (S_seq (S_if ((E_or (E_not (E_B (E_cb C_isi (E_cons (E_var 0) (E_cons (E_ty _) E_nil))))) (E_not (E_test (E_chain O_le O_le (E_int 1) (E_cb C_len (E_cons (E_var 0) E_nil)) (E_int 12)))))) (S_ret (E_bl false)) S_next)
    (S_seq (S_if ((E_or (E_not (E_B (E_cb C_all (E_cons (E_lc (I_seq (E_var 0)) (V_name 2 (by decide)) E_yes (E_call f_has_step (E_cons (E_var 2) (E_cons (E_var 1) E_nil)))) E_nil)))) (E_not (E_B (E_call f_ends_well (E_cons (E_var 0) (E_cons (E_var 1) E_nil))))))) (S_ret (E_bl false)) S_next)
    (S_ret (E_if (E_test (E_op O_in (E_var 1) (E_kt T.t_CHANGES))) (E_call f_changes_well (E_cons (E_var 0) (E_cons (E_var 1) E_nil))) (E_call f_asks_well (E_cons (E_var 0) (E_cons (E_var 1) E_nil)))))))
theorem len_has_program (K : PySem.W.Frag) : ∀ vs H Q E, sp_has_program K vs H Q E → vs.length = (["value", "kind"] : List Str).length := fun _ _ _ _ h => up_len h
theorem pure_has_program (K : PySem.W.Frag) (vs : List V) (H : Hp) (Q : VK) (E : XK) (T : Tbl K) (h : sp_has_program K vs H Q E) : t_has_program K { nx := fun _ H' => Q .non H', rt := Q } (start ["value", "kind", "step"] vs) H := up_run (tw := fun _ => t_has_program K) (c_has_program T.da) (N := ["value", "kind", "step"]) rfl h
def m_is_program (W : WD) : MS :=
  (mSeq (mDrop (mCallS f_need_kind (mCons (mVar 1) mNil) W))
    (mRet (mCall f_has_program (mCons (mVar 0) (mCons (mVar 1) mNil)))))
def f_is_program : MP := dfn 2 2 (fun W => m_is_program W)
abbrev sp_is_program (K : PySem.W.Frag) : Sp := up K f_is_program
def tw_is_program (K : PySem.W.Frag) (W : WX) : TS :=
  (tSeq (tDrop (tCallS (sp_need_kind K) (WE W) (tCons (tVar 1) tNil)))
    (tRet (tCall (sp_has_program K) [] E0 (tCons (tVar 0) (tCons (tVar 1) tNil)))))
def t_is_program (K : PySem.W.Frag) (E : XK) : TS := tw_is_program K (fun cls d _ H => E cls d H)
theorem c_is_program {K : PySem.W.Frag} : SS K (fun W => tw_is_program K W) (fun W => m_is_program W) := by
  unfold tw_is_program m_is_program 
  exact (S_seq (S_drop (E_callS f_need_kind (E_cons (E_var 1) E_nil)))
    (S_ret (E_call f_has_program (E_cons (E_var 0) (E_cons (E_var 1) E_nil)))))
theorem len_is_program (K : PySem.W.Frag) : ∀ vs H Q E, sp_is_program K vs H Q E → vs.length = (["value", "kind"] : List Str).length := fun _ _ _ _ h => up_len h
theorem pure_is_program (K : PySem.W.Frag) (vs : List V) (H : Hp) (Q : VK) (E : XK) (h : sp_is_program K vs H Q E) : t_is_program K E { nx := fun _ H' => Q .non H', rt := Q } (start ["value", "kind"] vs) H := up_run (tw := fun W => tw_is_program K W) (c_is_program) (N := ["value", "kind"]) rfl h
def m_law_cell : MS :=
  (mSeq (mIfS (mB (mOp nLt (mVar 1) (mCB nLen (mCons (mVar 0) mNil)))) (mRet (mOp nIx (mVar 0) (mVar 1))) mNext)
    (mRet (mOp nAdd (mOp nMul (mC (.int 7919)) (mVar 1)) (mC (.int 131)))))
def f_law_cell : MP := dfn 2 2 (fun _ => m_law_cell)
abbrev sp_law_cell (K : PySem.W.Frag) : Sp := up K f_law_cell
def t_law_cell (K : PySem.W.Frag) : TS :=
  (tSeq (tIfS (tTest (tOp rLtA (tVar 1) (tCB (rLenB K) (tCons (tVar 0) tNil)))) (tRet (tOp (rIxB K) (tVar 0) (tVar 1))) tNext)
    (tRet (tOp (rAddA K) (tOp rMulA (tC (.int 7919)) (tVar 1)) (tC (.int 131)))))
theorem c_law_cell {K : PySem.W.Frag} : SS K (fun _ => t_law_cell K) (fun _ => m_law_cell) := by
  unfold t_law_cell m_law_cell 
  exact (S_seq (S_if (E_test (E_op O_lt (E_var 1) (E_cb C_len (E_cons (E_var 0) E_nil)))) (S_ret (E_op O_ix (E_var 0) (E_var 1))) S_next)
    (S_ret (E_op O_add (E_op O_mul (E_int 7919) (E_var 1)) (E_int 131))))
theorem len_law_cell (K : PySem.W.Frag) : ∀ vs H Q E, sp_law_cell K vs H Q E → vs.length = (["script", "k"] : List Str).length := fun _ _ _ _ h => up_len h
theorem pure_law_cell (K : PySem.W.Frag) (vs : List V) (H : Hp) (Q : VK) (E : XK) (h : sp_law_cell K vs H Q E) : t_law_cell K { nx := fun _ H' => Q .non H', rt := Q } (start ["script", "k"] vs) H := up_run (tw := fun _ => t_law_cell K) (c_law_cell) (N := ["script", "k"]) rfl h
def m_law_box : MS :=
  (mRet (mCell (mLst (mCons (mCB nMax (mCons (mC (.int 0)) (mCons (mOp nSub (mVar 0) (mOp nPow (mC (.int 10)) (mC (.int 18)))) mNil))) (mCons (mOp nMod (mVar 0) (mC (.int 2147483629))) (mCons (mC (.int 0)) mNil))))))
def f_law_box : MP := dfn 1 1 (fun _ => m_law_box)
abbrev sp_law_box (K : PySem.W.Frag) : Sp := up K f_law_box
def t_law_box (K : PySem.W.Frag) : TS :=
  (tRet (tLst (tCons (tCB (rMaxA K) (tCons (tC (.int 0)) (tCons (tOp rSubA (tVar 0) (tOp rPowA (tC (.int 10)) (tC (.int 18)))) tNil))) (tCons (tOp rModA (tVar 0) (tC (.int 2147483629))) (tCons (tC (.int 0)) tNil)))))
theorem c_law_box {K : PySem.W.Frag} : SS K (fun _ => t_law_box K) (fun _ => m_law_box) := by
  unfold t_law_box m_law_box 
  exact (S_ret (E_cell (N_lst (E_cons (E_cb C_max (E_cons (E_int 0) (E_cons (E_op O_sub (E_var 0) (E_op O_pow (E_int 10) (E_int 18))) E_nil))) (E_cons (E_op O_mod (E_var 0) (E_int 2147483629)) (E_cons (E_int 0) E_nil))))))
theorem len_law_box (K : PySem.W.Frag) : ∀ vs H Q E, sp_law_box K vs H Q E → vs.length = (["cell"] : List Str).length := fun _ _ _ _ h => up_len h
theorem pure_law_box (K : PySem.W.Frag) (vs : List V) (H : Hp) (Q : VK) (E : XK) (h : sp_law_box K vs H Q E) : t_law_box K { nx := fun _ H' => Q .non H', rt := Q } (start ["cell"] vs) H := up_run (tw := fun _ => t_law_box K) (c_law_box) (N := ["cell"]) rfl h
def m_law_take : MS :=
  (mSeq (mIfS (mB (mOp nGt (mOp nIx (mVar 0) (mC (.int 0))) (mC (.int 0)))) (mSeq (mAsg (mOp nMod (mOp nIx (mVar 0) (mC (.int 0))) (mVar 1)) (hName 2))
    (mSeq (mAsg (mOp nDiv (mOp nIx (mVar 0) (mC (.int 0))) (mVar 1)) (hSub (mVar 0) (mC (.int 0)) nSet))
    (mRet (mVar 2)))) mNext)
    (mSeq (mAsg (mOp nAdd (mOp nIx (mVar 0) (mC (.int 2))) (mC (.int 1))) (hSub (mVar 0) (mC (.int 2)) nSet))
    (mSeq (mAsg (mOp nMod (mOp nPow (mOp nAdd (mOp nAdd (mOp nIx (mVar 0) (mC (.int 1))) (mOp nMul (mC (.int 7919)) (mOp nIx (mVar 0) (mC (.int 2))))) (mC (.int 43))) (mC (.int 5))) (mC (.int 2147483647))) (hName 3))
    (mSeq (mAsg (mOp nMod (mOp nPow (mOp nAdd (mVar 3) (mOp nMul (mC (.int 104729)) (mOp nIx (mVar 0) (mC (.int 2))))) (mC (.int 3))) (mC (.int 2147483587))) (hName 3))
    (mRet (mOp nMod (mOp nDiv (mVar 3) (mC (.int 8))) (mVar 1)))))))
def f_law_take : MP := dfn 4 2 (fun _ => m_law_take)
abbrev sp_law_take (K : PySem.W.Frag) : Sp := up K f_law_take
def t_law_take (K : PySem.W.Frag) : TS :=
  (tSeq (tIfS (tTest (tOp rGtA (tOp (rIxB K) (tVar 0) (tC (.int 0))) (tC (.int 0)))) (tSeq (tAsg (tOp rModA (tOp (rIxB K) (tVar 0) (tC (.int 0))) (tVar 1)) (gName 2))
    (tSeq (tAsg (tOp rDivA (tOp (rIxB K) (tVar 0) (tC (.int 0))) (tVar 1)) (gSub (tVar 0) (tC (.int 0)) rSetB))
    (tRet (tVar 2)))) tNext)
    (tSeq (tAsg (tOp (rAddA K) (tOp (rIxB K) (tVar 0) (tC (.int 2))) (tC (.int 1))) (gSub (tVar 0) (tC (.int 2)) rSetB))
    (tSeq (tAsg (tOp rModA (tOp rPowA (tOp (rAddA K) (tOp (rAddA K) (tOp (rIxB K) (tVar 0) (tC (.int 1))) (tOp rMulA (tC (.int 7919)) (tOp (rIxB K) (tVar 0) (tC (.int 2))))) (tC (.int 43))) (tC (.int 5))) (tC (.int 2147483647))) (gName 3))
    (tSeq (tAsg (tOp rModA (tOp rPowA (tOp (rAddA K) (tVar 3) (tOp rMulA (tC (.int 104729)) (tOp (rIxB K) (tVar 0) (tC (.int 2))))) (tC (.int 3))) (tC (.int 2147483587))) (gName 3))
    (tRet (tOp rModA (tOp rDivA (tVar 3) (tC (.int 8))) (tVar 1)))))))
theorem c_law_take {K : PySem.W.Frag} : SS K (fun _ => t_law_take K) (fun _ => m_law_take) := by
  unfold t_law_take m_law_take 
  exact (S_seq (S_if (E_test (E_op O_gt (E_op O_ix (E_var 0) (E_int 0)) (E_int 0))) (S_seq (S_asg (E_op O_mod (E_op O_ix (E_var 0) (E_int 0)) (E_var 1)) (G_name 2))
    (S_seq (S_asg (E_op O_div (E_op O_ix (E_var 0) (E_int 0)) (E_var 1)) (G_sub O_set (E_var 0) (E_int 0)))
    (S_ret (E_var 2)))) S_next)
    (S_seq (S_asg (E_op O_add (E_op O_ix (E_var 0) (E_int 2)) (E_int 1)) (G_sub O_set (E_var 0) (E_int 2)))
    (S_seq (S_asg (E_op O_mod (E_op O_pow (E_op O_add (E_op O_add (E_op O_ix (E_var 0) (E_int 1)) (E_op O_mul (E_int 7919) (E_op O_ix (E_var 0) (E_int 2)))) (E_int 43)) (E_int 5)) (E_int 2147483647)) (G_name 3))
    (S_seq (S_asg (E_op O_mod (E_op O_pow (E_op O_add (E_var 3) (E_op O_mul (E_int 104729) (E_op O_ix (E_var 0) (E_int 2)))) (E_int 3)) (E_int 2147483587)) (G_name 3))
    (S_ret (E_op O_mod (E_op O_div (E_var 3) (E_int 8)) (E_var 1)))))))
theorem len_law_take (K : PySem.W.Frag) : ∀ vs H Q E, sp_law_take K vs H Q E → vs.length = (["box", "many"] : List Str).length := fun _ _ _ _ h => up_len h
theorem pure_law_take (K : PySem.W.Frag) (vs : List V) (H : Hp) (Q : VK) (E : XK) (h : sp_law_take K vs H Q E) : t_law_take K { nx := fun _ H' => Q .non H', rt := Q } (start ["box", "many", "digit", "number"] vs) H := up_run (tw := fun _ => t_law_take K) (c_law_take) (N := ["box", "many", "digit", "number"]) rfl h
def m_law_mixed : MS :=
  (mSeq (mAsg (mCell (mCB nList (mCons (mVar 1) mNil))) (hName 2))
    (mRet (mLc (mRng1 (mCons (mCB nLen (mCons (mVar 1) mNil)) mNil)) (hName 3) mYes (mBM "list" nPop (mVar 2) (mCons (mCall f_law_take (mCons (mVar 0) (mCons (mCB nLen (mCons (mVar 2) mNil)) mNil))) mNil)) [3])))
def f_law_mixed : MP := dfn 4 2 (fun _ => m_law_mixed)
abbrev sp_law_mixed (K : PySem.W.Frag) : Sp := up K f_law_mixed
def t_law_mixed (K : PySem.W.Frag) : TS :=
  (tSeq (tAsg (tCB (rListA K) (tCons (tVar 1) tNil)) (gName 2))
    (tRet (tLc (iRng1 (tCons (tCB (rLenB K) (tCons (tVar 1) tNil)) tNil)) (gName 3) tYes (tBMW K "list" rPopA (tVar 2) (tCons (tCall (sp_law_take K) [] E0 (tCons (tVar 0) (tCons (tCB (rLenB K) (tCons (tVar 2) tNil)) tNil))) tNil)) [3])))
theorem c_law_mixed {K : PySem.W.Frag} : SS K (fun _ => t_law_mixed K) (fun _ => m_law_mixed) := by
  unfold t_law_mixed m_law_mixed 
  exact (S_seq (S_asg (E_cell (N_list (E_cons (E_var 1) E_nil))) (G_name 2))
    (S_ret (E_lc (I_rng1 (E_cons (E_cb C_len (E_cons (E_var 1) E_nil)) E_nil)) (V_name 3 (by decide)) E_yes (E_bm M_pop (E_var 2) (E_cons (E_call f_law_take (E_cons (E_var 0) (E_cons (E_cb C_len (E_cons (E_var 2) E_nil)) E_nil))) E_nil)))))
theorem len_law_mixed (K : PySem.W.Frag) : ∀ vs H Q E, sp_law_mixed K vs H Q E → vs.length = (["box", "some"] : List Str).length := fun _ _ _ _ h => up_len h
theorem pure_law_mixed (K : PySem.W.Frag) (vs : List V) (H : Hp) (Q : VK) (E : XK) (h : sp_law_mixed K vs H Q E) : t_law_mixed K { nx := fun _ H' => Q .non H', rt := Q } (start ["box", "some", "left", "k"] vs) H := up_run (tw := fun _ => t_law_mixed K) (c_law_mixed) (N := ["box", "some", "left", "k"]) rfl h
def m_law_names : MS :=
  (mSeq (mAsg (mC (.str "abcdefghijklmnopqrstuvwxyz")) (hName 2))
    (mSeq (mIfS (mB (mOp nEq (mCall f_law_take (mCons (mVar 0) (mCons (mC (.int 7)) mNil))) (mC (.int 0)))) (mSeq (mAsg (mLst (mCons (mC (.str "begin")) (mCons (mC (.str "empty")) (mCons (mC (.str "rest")) (mCons (mC (.str "step")) (mCons (mC (.str "end")) (mCons (mC (.str "look")) (mCons (mC (.str "old")) (mCons (mC (.str "new")) (mCons (mC (.str "put")) (mCons (mC (.str "part")) (mCons (mC (.str "move")) (mCons (mC (.str "split")) (mCons (mC (.str "lock")) mNil)))))))))))))) (hName 3))
    (mRet (mSl nSl (mCall f_law_mixed (mCons (mVar 0) (mCons (mVar 3) mNil))) mNoPart (mPart (mVar 1))))) mNext)
    (mSeq (mAsg (mOp nIx (mLst (mCons (mC (.str "")) (mCons (mC (.str "a")) (mCons (mC (.str "tabl")) (mCons (mC (.str "rest")) (mCons (mC (.str "part")) (mCons (mC (.str "zzzzzzz")) mNil))))))) (mCall f_law_take (mCons (mVar 0) (mCons (mC (.int 6)) mNil)))) (hName 4))
    (mSeq (mPar3 5 6 7 (mCons (mCall f_law_take (mCons (mVar 0) (mCons (mC (.int 26)) mNil))) (mCons (mOp nIx (mLst (mCons (mC (.int 1)) (mCons (mC (.int 3)) (mCons (mC (.int 5)) (mCons (mC (.int 7)) (mCons (mC (.int 9)) (mCons (mC (.int 11)) mNil))))))) (mCall f_law_take (mCons (mVar 0) (mCons (mC (.int 6)) mNil)))) (mCons (mCall f_law_take (mCons (mVar 0) (mCons (mC (.int 3)) mNil))) mNil))))
    (mSeq (mAsg (mCell (mLst mNil)) (hName 8))
    (mSeq (mFor (mRng1 (mCons (mVar 1) mNil)) (hName 9) (mSeq (mAsg (mOp nIx (mVar 2) (mOp nMod (mOp nAdd (mVar 5) (mOp nMul (mVar 6) (mVar 9))) (mC (.int 26)))) (hName 10))
    (mSeq (mAsg (mOp nIx (mLst (mCons (mOp nAdd (mVar 4) (mVar 10)) (mCons (mOp nAdd (mVar 10) (mVar 4)) (mCons (mVar 10) mNil)))) (mIf (mB (mOp nGt (mVar 9) (mC (.int 0)))) (mVar 7) (mC (.int 0)))) (hName 11))
    (mDrop (mBM "list" nAppend (mVar 8) (mCons (mIf (mB (mOp nEq (mVar 11) (mC (.str "table")))) (mC (.str "tables")) (mVar 11)) mNil))))))
    (mRet (mVar 8))))))))
def f_law_names : MP := dfn 12 2 (fun _ => m_law_names)
abbrev sp_law_names (K : PySem.W.Frag) : Sp := up K f_law_names
def t_law_names (K : PySem.W.Frag) : TS :=
  (tSeq (tAsg (tC (.str "abcdefghijklmnopqrstuvwxyz")) (gName 2))
    (tSeq (tIfS (tTest (tOp (rEqA K) (tCall (sp_law_take K) [] E0 (tCons (tVar 0) (tCons (tC (.int 7)) tNil))) (tC (.int 0)))) (tSeq (tAsg (tLst (tCons (tC (.str "begin")) (tCons (tC (.str "empty")) (tCons (tC (.str "rest")) (tCons (tC (.str "step")) (tCons (tC (.str "end")) (tCons (tC (.str "look")) (tCons (tC (.str "old")) (tCons (tC (.str "new")) (tCons (tC (.str "put")) (tCons (tC (.str "part")) (tCons (tC (.str "move")) (tCons (tC (.str "split")) (tCons (tC (.str "lock")) tNil)))))))))))))) (gName 3))
    (tRet (tSl (rSlA K) (tCall (sp_law_mixed K) [] E0 (tCons (tVar 0) (tCons (tVar 3) tNil))) tNoPart (tPart (tVar 1))))) tNext)
    (tSeq (tAsg (tOp (rIxB K) (tLst (tCons (tC (.str "")) (tCons (tC (.str "a")) (tCons (tC (.str "tabl")) (tCons (tC (.str "rest")) (tCons (tC (.str "part")) (tCons (tC (.str "zzzzzzz")) tNil))))))) (tCall (sp_law_take K) [] E0 (tCons (tVar 0) (tCons (tC (.int 6)) tNil)))) (gName 4))
    (tSeq (tPar3 5 6 7 (tCons (tCall (sp_law_take K) [] E0 (tCons (tVar 0) (tCons (tC (.int 26)) tNil))) (tCons (tOp (rIxB K) (tLst (tCons (tC (.int 1)) (tCons (tC (.int 3)) (tCons (tC (.int 5)) (tCons (tC (.int 7)) (tCons (tC (.int 9)) (tCons (tC (.int 11)) tNil))))))) (tCall (sp_law_take K) [] E0 (tCons (tVar 0) (tCons (tC (.int 6)) tNil)))) (tCons (tCall (sp_law_take K) [] E0 (tCons (tVar 0) (tCons (tC (.int 3)) tNil))) tNil))))
    (tSeq (tAsg (tLst tNil) (gName 8))
    (tSeq (tFor (iRng1 (tCons (tVar 1) tNil)) (gName 9) (tSeq (tAsg (tOp (rIxB K) (tVar 2) (tOp rModA (tOp (rAddA K) (tVar 5) (tOp rMulA (tVar 6) (tVar 9))) (tC (.int 26)))) (gName 10))
    (tSeq (tAsg (tOp (rIxB K) (tLst (tCons (tOp (rAddA K) (tVar 4) (tVar 10)) (tCons (tOp (rAddA K) (tVar 10) (tVar 4)) (tCons (tVar 10) tNil)))) (tIf (tTest (tOp rGtA (tVar 9) (tC (.int 0)))) (tVar 7) (tC (.int 0)))) (gName 11))
    (tDrop (tBMW K "list" rAppend (tVar 8) (tCons (tIf (tTest (tOp (rEqA K) (tVar 11) (tC (.str "table")))) (tC (.str "tables")) (tVar 11)) tNil))))))
    (tRet (tVar 8))))))))
theorem c_law_names {K : PySem.W.Frag} : SS K (fun _ => t_law_names K) (fun _ => m_law_names) := by
  unfold t_law_names m_law_names 
  exact (S_seq (S_asg (E_str (by decide)) (G_name 2))
    (S_seq (S_if (E_test (E_op O_eq (E_call f_law_take (E_cons (E_var 0) (E_cons (E_int 7) E_nil))) (E_int 0))) (S_seq (S_asg (E_lst (E_cons (E_str (by decide)) (E_cons (E_str (by decide)) (E_cons (E_str (by decide)) (E_cons (E_str (by decide)) (E_cons (E_str (by decide)) (E_cons (E_str (by decide)) (E_cons (E_str (by decide)) (E_cons (E_str (by decide)) (E_cons (E_str (by decide)) (E_cons (E_str (by decide)) (E_cons (E_str (by decide)) (E_cons (E_str (by decide)) (E_cons (E_str (by decide)) E_nil)))))))))))))) (G_name 3))
    (S_ret (E_sl O_sl (E_call f_law_mixed (E_cons (E_var 0) (E_cons (E_var 3) E_nil))) E_nopart (E_part (E_var 1))))) S_next)
    (S_seq (S_asg (E_op O_ix (E_lst (E_cons (E_str (by decide)) (E_cons (E_str (by decide)) (E_cons (E_str (by decide)) (E_cons (E_str (by decide)) (E_cons (E_str (by decide)) (E_cons (E_str (by decide)) E_nil))))))) (E_call f_law_take (E_cons (E_var 0) (E_cons (E_int 6) E_nil)))) (G_name 4))
    (S_seq (S_par3 (E_cons (E_call f_law_take (E_cons (E_var 0) (E_cons (E_int 26) E_nil))) (E_cons (E_op O_ix (E_lst (E_cons (E_int 1) (E_cons (E_int 3) (E_cons (E_int 5) (E_cons (E_int 7) (E_cons (E_int 9) (E_cons (E_int 11) E_nil))))))) (E_call f_law_take (E_cons (E_var 0) (E_cons (E_int 6) E_nil)))) (E_cons (E_call f_law_take (E_cons (E_var 0) (E_cons (E_int 3) E_nil))) E_nil))))
    (S_seq (S_asg (E_cell (N_lst E_nil)) (G_name 8))
    (S_seq (S_for (I_rng1 (E_cons (E_var 1) E_nil)) (G_name 9) (S_seq (S_asg (E_op O_ix (E_var 2) (E_op O_mod (E_op O_add (E_var 5) (E_op O_mul (E_var 6) (E_var 9))) (E_int 26))) (G_name 10))
    (S_seq (S_asg (E_op O_ix (E_lst (E_cons (E_op O_add (E_var 4) (E_var 10)) (E_cons (E_op O_add (E_var 10) (E_var 4)) (E_cons (E_var 10) E_nil)))) (E_if (E_test (E_op O_gt (E_var 9) (E_int 0))) (E_var 7) (E_int 0))) (G_name 11))
    (S_drop (E_bm M_append (E_var 8) (E_cons (E_if (E_test (E_op O_eq (E_var 11) (E_str (by decide)))) (E_str (by decide)) (E_var 11)) E_nil))))))
    (S_ret (E_var 8))))))))
theorem len_law_names (K : PySem.W.Frag) : ∀ vs H Q E, sp_law_names K vs H Q E → vs.length = (["box", "many"] : List Str).length := fun _ _ _ _ h => up_len h
theorem pure_law_names (K : PySem.W.Frag) (vs : List V) (H : Hp) (Q : VK) (E : XK) (h : sp_law_names K vs H Q E) : t_law_names K { nx := fun _ H' => Q .non H', rt := Q } (start ["box", "many", "letters", "words", "stem", "first", "step", "way", "found", "k", "sign", "name"] vs) H := up_run (tw := fun _ => t_law_names K) (c_law_names) (N := ["box", "many", "letters", "words", "stem", "first", "step", "way", "found", "k", "sign", "name"]) rfl h
def m_law_kinds : MS :=
  (mRet (mLst (mCons (mC (.str "put")) (mCons (mC (.str "strike")) (mCons (mC (.str "read")) (mCons (mC (.str "direct")) (mCons (mC (.str "hang")) (mCons (mC (.str "take")) (mCons (mC (.str "split")) (mCons (mC (.str "join")) mNil))))))))))
def f_law_kinds : MP := dfn 0 0 (fun _ => m_law_kinds)
abbrev sp_law_kinds (K : PySem.W.Frag) : Sp := up K f_law_kinds
def t_law_kinds (K : PySem.W.Frag) : TS :=
  (tRet (tLst (tCons (tC (.str "put")) (tCons (tC (.str "strike")) (tCons (tC (.str "read")) (tCons (tC (.str "direct")) (tCons (tC (.str "hang")) (tCons (tC (.str "take")) (tCons (tC (.str "split")) (tCons (tC (.str "join")) tNil))))))))))
theorem c_law_kinds {K : PySem.W.Frag} : SS K (fun _ => t_law_kinds K) (fun _ => m_law_kinds) := by
  unfold t_law_kinds m_law_kinds 
  exact (S_ret (E_lst (E_cons (E_str (by decide)) (E_cons (E_str (by decide)) (E_cons (E_str (by decide)) (E_cons (E_str (by decide)) (E_cons (E_str (by decide)) (E_cons (E_str (by decide)) (E_cons (E_str (by decide)) (E_cons (E_str (by decide)) E_nil))))))))))
theorem len_law_kinds (K : PySem.W.Frag) : ∀ vs H Q E, sp_law_kinds K vs H Q E → vs.length = ([] : List Str).length := fun _ _ _ _ h => up_len h
theorem pure_law_kinds (K : PySem.W.Frag) (vs : List V) (H : Hp) (Q : VK) (E : XK) (h : sp_law_kinds K vs H Q E) : t_law_kinds K { nx := fun _ H' => Q .non H', rt := Q } (start [] vs) H := up_run (tw := fun _ => t_law_kinds K) (c_law_kinds) (N := []) rfl h
def m_law_is_name : MS :=
  (mSeq (mIfS ((mOr (mNot (mB (mCB nIsi (mCons (mVar 0) (mCons (mC (.ty "str")) mNil))))) (mOr (mB (mOp nEq (mVar 0) (mC (.str "table")))) (mOr (mB (mOp nLt (mCB nLen (mCons (mVar 0) mNil)) (mC (.int 1)))) (mB (mOp nGt (mCB nLen (mCons (mVar 0) mNil)) (mC (.int 8)))))))) (mRet (mC (.bl false))) mNext)
    (mRet (mOp nEq (mLc (mAny (mVar 0)) (hName 1) (mB (mOp nNin (mVar 1) (mC (.str "abcdefghijklmnopqrstuvwxyz")))) (mVar 1) [1]) (mLst mNil))))
def f_law_is_name : MP := dfn 2 1 (fun _ => m_law_is_name)
abbrev sp_law_is_name (K : PySem.W.Frag) : Sp := up K f_law_is_name
def t_law_is_name (K : PySem.W.Frag) : TS :=
  (tSeq (tIfS ((tOr (tNot (tB (tCB (rIsi K) (tCons (tVar 0) (tCons (tC (.ty "str")) tNil))))) (tOr (tTest (tOp (rEqA K) (tVar 0) (tC (.str "table")))) (tOr (tTest (tOp rLtA (tCB (rLenB K) (tCons (tVar 0) tNil)) (tC (.int 1)))) (tTest (tOp rGtA (tCB (rLenB K) (tCons (tVar 0) tNil)) (tC (.int 8)))))))) (tRet (tC (.bl false))) tNext)
    (tRet (tOp (rEqA K) (tLc (iSeq K (tVar 0)) (gName 1) (tTest (tOp (rNinB K) (tVar 1) (tC (.str "abcdefghijklmnopqrstuvwxyz")))) (tVar 1) [1]) (tLst tNil))))
theorem c_law_is_name {K : PySem.W.Frag} : SS K (fun _ => t_law_is_name K) (fun _ => m_law_is_name) := by
  unfold t_law_is_name m_law_is_name 
  exact (S_seq (S_if ((E_or (E_not (E_B (E_cb C_isi (E_cons (E_var 0) (E_cons (E_ty _) E_nil))))) (E_or (E_test (E_op O_eq (E_var 0) (E_str (by decide)))) (E_or (E_test (E_op O_lt (E_cb C_len (E_cons (E_var 0) E_nil)) (E_int 1))) (E_test (E_op O_gt (E_cb C_len (E_cons (E_var 0) E_nil)) (E_int 8))))))) (S_ret (E_bl false)) S_next)
    (S_ret (E_op O_eq (E_lc (I_seq (E_var 0)) (V_name 1 (by decide)) (E_test (E_op O_nin (E_var 1) (E_str (by decide)))) (E_var 1)) (E_lst E_nil))))
theorem len_law_is_name (K : PySem.W.Frag) : ∀ vs H Q E, sp_law_is_name K vs H Q E → vs.length = (["value"] : List Str).length := fun _ _ _ _ h => up_len h
theorem pure_law_is_name (K : PySem.W.Frag) (vs : List V) (H : Hp) (Q : VK) (E : XK) (h : sp_law_is_name K vs H Q E) : t_law_is_name K { nx := fun _ H' => Q .non H', rt := Q } (start ["value", "sign"] vs) H := up_run (tw := fun _ => t_law_is_name K) (c_law_is_name) (N := ["value", "sign"]) rfl h
def l_law_is_step_1 : MS :=
  (mAsg (mLst (mCons (mC (.str "put")) (mCons (mC (.str "direct")) mNil))) (hSub (mVar 5) (mVar 6) nSet))
def l_law_is_step_2 : MS :=
  (mAsg (mLst (mCons (mC (.str "read")) mNil)) (hSub (mVar 5) (mVar 6) nSet))
def l_law_is_step_3 : MS :=
  (mAsg (mVar 3) (hSub (mVar 5) (mVar 6) nSet))
def b_law_is_step_10 : MS :=
  (mRet (mOp nIn (mVar 1) (mBM "dict" nGet (mVar 5) (mCons (mOp nIx (mVar 0) (mC (.int 0))) (mCons (mLst mNil) mNil)))))
def b_law_is_step_9 : MS :=
  mSeq (mAsg (mLst (mCons (mC (.str "split")) (mCons (mC (.str "join")) mNil))) (hSub (mVar 5) (mC (.str "move")) nSet)) b_law_is_step_10
def b_law_is_step_8 : MS :=
  mSeq (mFor (mAny (mLst (mCons (mC (.str "switch")) (mCons (mC (.str "wait")) (mCons (mC (.str "close")) mNil))))) (hName 6) l_law_is_step_3) b_law_is_step_9
def b_law_is_step_7 : MS :=
  mSeq (mFor (mAny (mLst (mCons (mC (.str "view")) (mCons (mC (.str "read")) mNil)))) (hName 6) l_law_is_step_2) b_law_is_step_8
def b_law_is_step_6 : MS :=
  mSeq (mFor (mAny (mLst (mCons (mC (.str "key")) (mCons (mC (.str "put")) (mCons (mC (.str "claim")) mNil))))) (hName 6) l_law_is_step_1) b_law_is_step_7
def b_law_is_step_5 : MS :=
  mSeq (mAsg (mCell (mDisp (((mC (.str "look")), (mVar 2)) :: ((mC (.str "again")), (mVar 2)) :: ((mC (.str "border")), (mLst (mCons (mC (.str "direct")) mNil))) :: ((mC (.str "strike")), (mLst (mCons (mC (.str "strike")) mNil))) :: ((mC (.str "end")), (mCallP [] 0 0 f_law_kinds mNil mNil)) :: []))) (hName 5)) b_law_is_step_6
def b_law_is_step_4 : MS :=
  mSeq (mIfS (mB (mOp nNe (mCB nLen (mCons (mVar 0) mNil)) (mC (.int 1)))) (mRet (mC (.bl false))) mNext) b_law_is_step_5
def b_law_is_step_3 : MS :=
  mSeq (mIfS (mB (mOp nEq (mOp nIx (mVar 0) (mC (.int 0))) (mC (.str "scan")))) (mRet ((mAndV (mOp nEq (mVar 1) (mC (.str "hang"))) (mOp nIn (mSl nSl (mVar 0) (mPart (mC (.int 1))) mNoPart) (mLst (mCons (mTup (mCons (mC (.str "new")) mNil)) (mCons (mTup (mCons (mC (.str "rest")) mNil)) mNil))))))) mNext) b_law_is_step_4
def b_law_is_step_2 : MS :=
  mSeq (mIfS (mB (mOp nEq (mOp nIx (mVar 0) (mC (.int 0))) (mC (.str "lock")))) (mSeq (mIfS ((mOr (mB (mOp nNe (mCB nLen (mCons (mVar 0) mNil)) (mC (.int 3)))) (mNot (mB (mCall f_law_is_name (mCons (mOp nIx (mVar 0) (mC (.int 2))) mNil)))))) (mRet (mC (.bl false))) mNext)
    (mSeq (mAsg (mCell (mDisp (((mC (.str "table")), (mOp nAdd (mVar 2) (mVar 3))) :: ((mC (.str "part")), (mOp nAdd (mVar 2) (mLst (mCons (mC (.str "direct")) mNil)))) :: ((mC (.str "old")), (mSl nSl (mVar 3) (mPart (mC (.int 1))) mNoPart)) :: ((mC (.str "rest")), (mVar 3)) :: []))) (hName 4))
    (mSeq (mAsg (mLst (mCons (mC (.str "hang")) (mCons (mC (.str "split")) (mCons (mC (.str "join")) mNil)))) (hSub (mVar 4) (mC (.str "new")) nSet))
    (mRet (mOp nIn (mVar 1) (mBM "dict" nGet (mVar 4) (mCons (mOp nIx (mVar 0) (mC (.int 1))) (mCons (mLst mNil) mNil)))))))) mNext) b_law_is_step_3
def b_law_is_step_1 : MS :=
  mSeq (mIfS ((mOr (mNot (mB (mCB nIsi (mCons (mVar 0) (mCons (mC (.ty "tuple")) mNil))))) (mOr (mB (mOp nEq (mVar 0) (mTup mNil))) (mB (mOp nNe (mLc (mAny (mVar 0)) (hName 7) (mNot (mB (mCB nIsi (mCons (mVar 7) (mCons (mC (.ty "str")) mNil))))) (mVar 7) [7]) (mLst mNil)))))) (mRet (mC (.bl false))) mNext) b_law_is_step_2
def m_law_is_step : MS :=
  mSeq (mPar 2 3 (mCons (mLst (mCons (mC (.str "put")) (mCons (mC (.str "strike")) (mCons (mC (.str "read")) mNil)))) (mCons (mLst (mCons (mC (.str "hang")) (mCons (mC (.str "take")) (mCons (mC (.str "split")) (mCons (mC (.str "join")) mNil))))) mNil))) b_law_is_step_1
def f_law_is_step : MP := dfn 8 2 (fun _ => m_law_is_step)
abbrev sp_law_is_step (K : PySem.W.Frag) : Sp := up K f_law_is_step
def t_law_is_step (K : PySem.W.Frag) : TS :=
  (tSeq (tPar 2 3 (tCons (tLst (tCons (tC (.str "put")) (tCons (tC (.str "strike")) (tCons (tC (.str "read")) tNil)))) (tCons (tLst (tCons (tC (.str "hang")) (tCons (tC (.str "take")) (tCons (tC (.str "split")) (tCons (tC (.str "join")) tNil))))) tNil)))
    (tSeq (tIfS ((tOr (tNot (tB (tCB (rIsi K) (tCons (tVar 0) (tCons (tC (.ty "tuple")) tNil))))) (tOr (tTest (tOp (rEqA K) (tVar 0) (tTup tNil))) (tTest (tOp (rNeA K) (tLc (iSeq K (tVar 0)) (gName 7) (tNot (tB (tCB (rIsi K) (tCons (tVar 7) (tCons (tC (.ty "str")) tNil))))) (tVar 7) [7]) (tLst tNil)))))) (tRet (tC (.bl false))) tNext)
    (tSeq (tIfS (tTest (tOp (rEqA K) (tOp (rIxB K) (tVar 0) (tC (.int 0))) (tC (.str "lock")))) (tSeq (tIfS ((tOr (tTest (tOp (rNeA K) (tCB (rLenB K) (tCons (tVar 0) tNil)) (tC (.int 3)))) (tNot (tB (tCall (sp_law_is_name K) [] E0 (tCons (tOp (rIxB K) (tVar 0) (tC (.int 2))) tNil)))))) (tRet (tC (.bl false))) tNext)
    (tSeq (tAsg (tDisp (((tC (.str "table")), (tOp (rAddA K) (tVar 2) (tVar 3))) :: ((tC (.str "part")), (tOp (rAddA K) (tVar 2) (tLst (tCons (tC (.str "direct")) tNil)))) :: ((tC (.str "old")), (tSl (rSlA K) (tVar 3) (tPart (tC (.int 1))) tNoPart)) :: ((tC (.str "rest")), (tVar 3)) :: [])) (gName 4))
    (tSeq (tAsg (tLst (tCons (tC (.str "hang")) (tCons (tC (.str "split")) (tCons (tC (.str "join")) tNil)))) (gSub (tVar 4) (tC (.str "new")) rSetB))
    (tRet (tOp (rInB K) (tVar 1) (tBMW K "dict" rDGet (tVar 4) (tCons (tOp (rIxB K) (tVar 0) (tC (.int 1))) (tCons (tLst tNil) tNil)))))))) tNext)
    (tSeq (tIfS (tTest (tOp (rEqA K) (tOp (rIxB K) (tVar 0) (tC (.int 0))) (tC (.str "scan")))) (tRet ((tAndV (tOp (rEqA K) (tVar 1) (tC (.str "hang"))) (tOp (rInB K) (tSl (rSlA K) (tVar 0) (tPart (tC (.int 1))) tNoPart) (tLst (tCons (tTup (tCons (tC (.str "new")) tNil)) (tCons (tTup (tCons (tC (.str "rest")) tNil)) tNil))))))) tNext)
    (tSeq (tIfS (tTest (tOp (rNeA K) (tCB (rLenB K) (tCons (tVar 0) tNil)) (tC (.int 1)))) (tRet (tC (.bl false))) tNext)
    (tSeq (tAsg (tDisp (((tC (.str "look")), (tVar 2)) :: ((tC (.str "again")), (tVar 2)) :: ((tC (.str "border")), (tLst (tCons (tC (.str "direct")) tNil))) :: ((tC (.str "strike")), (tLst (tCons (tC (.str "strike")) tNil))) :: ((tC (.str "end")), (tCallP [] 0 0 (sp_law_kinds K) (fun _ => E0) tNil tNil)) :: [])) (gName 5))
    (tSeq (tFor (iSeq K (tLst (tCons (tC (.str "key")) (tCons (tC (.str "put")) (tCons (tC (.str "claim")) tNil))))) (gName 6) (tAsg (tLst (tCons (tC (.str "put")) (tCons (tC (.str "direct")) tNil))) (gSub (tVar 5) (tVar 6) rSetB)))
    (tSeq (tFor (iSeq K (tLst (tCons (tC (.str "view")) (tCons (tC (.str "read")) tNil)))) (gName 6) (tAsg (tLst (tCons (tC (.str "read")) tNil)) (gSub (tVar 5) (tVar 6) rSetB)))
    (tSeq (tFor (iSeq K (tLst (tCons (tC (.str "switch")) (tCons (tC (.str "wait")) (tCons (tC (.str "close")) tNil))))) (gName 6) (tAsg (tVar 3) (gSub (tVar 5) (tVar 6) rSetB)))
    (tSeq (tAsg (tLst (tCons (tC (.str "split")) (tCons (tC (.str "join")) tNil))) (gSub (tVar 5) (tC (.str "move")) rSetB))
    (tRet (tOp (rInB K) (tVar 1) (tBMW K "dict" rDGet (tVar 5) (tCons (tOp (rIxB K) (tVar 0) (tC (.int 0))) (tCons (tLst tNil) tNil)))))))))))))))
theorem c_law_is_step {K : PySem.W.Frag} : SS K (fun _ => t_law_is_step K) (fun _ => m_law_is_step) := by
  unfold t_law_is_step m_law_is_step b_law_is_step_1 b_law_is_step_2 b_law_is_step_3 b_law_is_step_4 b_law_is_step_5 b_law_is_step_6 b_law_is_step_7 b_law_is_step_8 b_law_is_step_9 b_law_is_step_10 l_law_is_step_3 l_law_is_step_2 l_law_is_step_1
  exact (S_seq (S_par (E_cons (E_lst (E_cons (E_str (by decide)) (E_cons (E_str (by decide)) (E_cons (E_str (by decide)) E_nil)))) (E_cons (E_lst (E_cons (E_str (by decide)) (E_cons (E_str (by decide)) (E_cons (E_str (by decide)) (E_cons (E_str (by decide)) E_nil))))) E_nil)))
    (S_seq (S_if ((E_or (E_not (E_B (E_cb C_isi (E_cons (E_var 0) (E_cons (E_ty _) E_nil))))) (E_or (E_test (E_op O_eq (E_var 0) (E_tup E_nil))) (E_test (E_op O_ne (E_lc (I_seq (E_var 0)) (V_name 7 (by decide)) (E_not (E_B (E_cb C_isi (E_cons (E_var 7) (E_cons (E_ty _) E_nil))))) (E_var 7)) (E_lst E_nil)))))) (S_ret (E_bl false)) S_next)
    (S_seq (S_if (E_test (E_op O_eq (E_op O_ix (E_var 0) (E_int 0)) (E_str (by decide)))) (S_seq (S_if ((E_or (E_test (E_op O_ne (E_cb C_len (E_cons (E_var 0) E_nil)) (E_int 3))) (E_not (E_B (E_call f_law_is_name (E_cons (E_op O_ix (E_var 0) (E_int 2)) E_nil)))))) (S_ret (E_bl false)) S_next)
    (S_seq (S_asg (E_cell (N_disp (.cons (E_str (by decide)) (E_op O_add (E_var 2) (E_var 3)) (.cons (E_str (by decide)) (E_op O_add (E_var 2) (E_lst (E_cons (E_str (by decide)) E_nil))) (.cons (E_str (by decide)) (E_sl O_sl (E_var 3) (E_part (E_int 1)) E_nopart) (.cons (E_str (by decide)) (E_var 3) .nil)))))) (G_name 4))
    (S_seq (S_asg (E_lst (E_cons (E_str (by decide)) (E_cons (E_str (by decide)) (E_cons (E_str (by decide)) E_nil)))) (G_sub O_set (E_var 4) (E_str (by decide))))
    (S_ret (E_op O_in (E_var 1) (E_bm M_get (E_var 4) (E_cons (E_op O_ix (E_var 0) (E_int 1)) (E_cons (E_lst E_nil) E_nil)))))))) S_next)
    (S_seq (S_if (E_test (E_op O_eq (E_op O_ix (E_var 0) (E_int 0)) (E_str (by decide)))) (S_ret ((E_andV (E_op O_eq (E_var 1) (E_str (by decide))) (E_op O_in (E_sl O_sl (E_var 0) (E_part (E_int 1)) E_nopart) (E_lst (E_cons (E_tup (E_cons (E_str (by decide)) E_nil)) (E_cons (E_tup (E_cons (E_str (by decide)) E_nil)) E_nil))))))) S_next)
    (S_seq (S_if (E_test (E_op O_ne (E_cb C_len (E_cons (E_var 0) E_nil)) (E_int 1))) (S_ret (E_bl false)) S_next)
    (S_seq (S_asg (E_cell (N_disp (.cons (E_str (by decide)) (E_var 2) (.cons (E_str (by decide)) (E_var 2) (.cons (E_str (by decide)) (E_lst (E_cons (E_str (by decide)) E_nil)) (.cons (E_str (by decide)) (E_lst (E_cons (E_str (by decide)) E_nil)) (.cons (E_str (by decide)) (E_callP [] 0 0 f_law_kinds E_nil E_nil) .nil))))))) (G_name 5))
    (S_seq (S_for (I_seq (E_lst (E_cons (E_str (by decide)) (E_cons (E_str (by decide)) (E_cons (E_str (by decide)) E_nil))))) (G_name 6) (S_asg (E_lst (E_cons (E_str (by decide)) (E_cons (E_str (by decide)) E_nil))) (G_sub O_set (E_var 5) (E_var 6))))
    (S_seq (S_for (I_seq (E_lst (E_cons (E_str (by decide)) (E_cons (E_str (by decide)) E_nil)))) (G_name 6) (S_asg (E_lst (E_cons (E_str (by decide)) E_nil)) (G_sub O_set (E_var 5) (E_var 6))))
    (S_seq (S_for (I_seq (E_lst (E_cons (E_str (by decide)) (E_cons (E_str (by decide)) (E_cons (E_str (by decide)) E_nil))))) (G_name 6) (S_asg (E_var 3) (G_sub O_set (E_var 5) (E_var 6))))
    (S_seq (S_asg (E_lst (E_cons (E_str (by decide)) (E_cons (E_str (by decide)) E_nil))) (G_sub O_set (E_var 5) (E_str (by decide))))
    (S_ret (E_op O_in (E_var 1) (E_bm M_get (E_var 5) (E_cons (E_op O_ix (E_var 0) (E_int 0)) (E_cons (E_lst E_nil) E_nil)))))))))))))))
theorem len_law_is_step (K : PySem.W.Frag) : ∀ vs H Q E, sp_law_is_step K vs H Q E → vs.length = (["value", "kind"] : List Str).length := fun _ _ _ _ h => up_len h
theorem pure_law_is_step (K : PySem.W.Frag) (vs : List V) (H : Hp) (Q : VK) (E : XK) (h : sp_law_is_step K vs H Q E) : t_law_is_step K { nx := fun _ H' => Q .non H', rt := Q } (start ["value", "kind", "askers", "changes", "at", "where", "word", "item"] vs) H := up_run (tw := fun _ => t_law_is_step K) (c_law_is_step) (N := ["value", "kind", "askers", "changes", "at", "where", "word", "item"]) rfl h
def m_law_count : MS :=
  (mRet (mCB nLen (mCons (mLc (mAny (mVar 0)) (hName 2) (mB (mOp nIn (mVar 2) (mVar 1))) (mVar 2) [2]) mNil)))
def f_law_count : MP := dfn 3 2 (fun _ => m_law_count)
abbrev sp_law_count (K : PySem.W.Frag) : Sp := up K f_law_count
def t_law_count (K : PySem.W.Frag) : TS :=
  (tRet (tCB (rLenB K) (tCons (tLc (iSeq K (tVar 0)) (gName 2) (tTest (tOp (rInB K) (tVar 2) (tVar 1))) (tVar 2) [2]) tNil)))
theorem c_law_count {K : PySem.W.Frag} : SS K (fun _ => t_law_count K) (fun _ => m_law_count) := by
  unfold t_law_count m_law_count 
  exact (S_ret (E_cb C_len (E_cons (E_lc (I_seq (E_var 0)) (V_name 2 (by decide)) (E_test (E_op O_in (E_var 2) (E_var 1))) (E_var 2)) E_nil)))
theorem len_law_count (K : PySem.W.Frag) : ∀ vs H Q E, sp_law_count K vs H Q E → vs.length = (["words", "some"] : List Str).length := fun _ _ _ _ h => up_len h
theorem pure_law_count (K : PySem.W.Frag) (vs : List V) (H : Hp) (Q : VK) (E : XK) (h : sp_law_count K vs H Q E) : t_law_count K { nx := fun _ H' => Q .non H', rt := Q } (start ["words", "some", "word"] vs) H := up_run (tw := fun _ => t_law_count K) (c_law_count) (N := ["words", "some", "word"]) rfl h
def m_law_order : MS :=
  (mSeq (mAsg (mLc (mRng1 (mCons (mCB nLen (mCons (mVar 0) mNil)) mNil)) (hName 4) (mB (mOp nIn (mOp nIx (mVar 0) (mVar 4)) (mVar 1))) (mVar 4) [4]) (hName 3))
    (mRet (mOp nEq (mLc (mRng1 (mCons (mCB nLen (mCons (mVar 0) mNil)) mNil)) (hName 4) ((mAnd (mB (mOp nIn (mOp nIx (mVar 0) (mVar 4)) (mVar 2))) (mAnd (mB (mOp nNe (mVar 3) (mLst mNil))) (mB (mOp nLt (mVar 4) (mCB nMax (mCons (mVar 3) mNil))))))) (mVar 4) [4]) (mLst mNil))))
def f_law_order : MP := dfn 5 3 (fun _ => m_law_order)
abbrev sp_law_order (K : PySem.W.Frag) : Sp := up K f_law_order
def t_law_order (K : PySem.W.Frag) : TS :=
  (tSeq (tAsg (tLc (iRng1 (tCons (tCB (rLenB K) (tCons (tVar 0) tNil)) tNil)) (gName 4) (tTest (tOp (rInB K) (tOp (rIxB K) (tVar 0) (tVar 4)) (tVar 1))) (tVar 4) [4]) (gName 3))
    (tRet (tOp (rEqA K) (tLc (iRng1 (tCons (tCB (rLenB K) (tCons (tVar 0) tNil)) tNil)) (gName 4) ((tAnd (tTest (tOp (rInB K) (tOp (rIxB K) (tVar 0) (tVar 4)) (tVar 2))) (tAnd (tTest (tOp (rNeA K) (tVar 3) (tLst tNil))) (tTest (tOp rLtA (tVar 4) (tCB (rMaxA K) (tCons (tVar 3) tNil))))))) (tVar 4) [4]) (tLst tNil))))
theorem c_law_order {K : PySem.W.Frag} : SS K (fun _ => t_law_order K) (fun _ => m_law_order) := by
  unfold t_law_order m_law_order 
  exact (S_seq (S_asg (E_lc (I_rng1 (E_cons (E_cb C_len (E_cons (E_var 0) E_nil)) E_nil)) (V_name 4 (by decide)) (E_test (E_op O_in (E_op O_ix (E_var 0) (E_var 4)) (E_var 1))) (E_var 4)) (G_name 3))
    (S_ret (E_op O_eq (E_lc (I_rng1 (E_cons (E_cb C_len (E_cons (E_var 0) E_nil)) E_nil)) (V_name 4 (by decide)) ((E_and (E_test (E_op O_in (E_op O_ix (E_var 0) (E_var 4)) (E_var 2))) (E_and (E_test (E_op O_ne (E_var 3) (E_lst E_nil))) (E_test (E_op O_lt (E_var 4) (E_cb C_max (E_cons (E_var 3) E_nil))))))) (E_var 4)) (E_lst E_nil))))
theorem len_law_order (K : PySem.W.Frag) : ∀ vs H Q E, sp_law_order K vs H Q E → vs.length = (["words", "first", "later"] : List Str).length := fun _ _ _ _ h => up_len h
theorem pure_law_order (K : PySem.W.Frag) (vs : List V) (H : Hp) (Q : VK) (E : XK) (h : sp_law_order K vs H Q E) : t_law_order K { nx := fun _ H' => Q .non H', rt := Q } (start ["words", "first", "later", "ends", "at"] vs) H := up_run (tw := fun _ => t_law_order K) (c_law_order) (N := ["words", "first", "later", "ends", "at"]) rfl h
def b_law_is_program_11 : MS :=
  (mRet (mOp nEq (mLc (mRng1 (mCons (mCB nLen (mCons (mVar 5) mNil)) mNil)) (hName 7) (mB (mOp nIn (mOp nIx (mVar 5) (mVar 7)) (mSl nSl (mVar 5) mNoPart (mPart (mVar 7))))) (mVar 7) [7]) (mLst mNil)))
def b_law_is_program_10 : MS :=
  mSeq (mAsg (mLc (mAny (mVar 0)) (hName 6) (mB (mOp nEq (mOp nIx (mVar 6) (mC (.int 0))) (mC (.str "scan")))) (mVar 6) [6]) (hName 5)) b_law_is_program_11
def b_law_is_program_9 : MS :=
  mSeq (mIfS ((mAnd (mB (mOp nIn (mVar 1) (mLst (mCons (mC (.str "split")) (mCons (mC (.str "join")) mNil))))) (mB (mOp nNe (mCall f_law_count (mCons (mVar 2) (mCons (mLst (mCons (mC (.str "move")) mNil)) mNil))) (mC (.int 1)))))) (mRet (mC (.bl false))) mNext) b_law_is_program_10
def b_law_is_program_8 : MS :=
  mSeq (mIfS ((mOr (mNot (mB (mCall f_law_order (mCons (mVar 2) (mCons (mLst (mCons (mC (.str "switch")) (mCons (mC (.str "close")) mNil))) (mCons (mLst (mCons (mC (.str "wait")) mNil)) mNil)))))) ((mAnd (mB (mOp nIn (mC (.str "wait")) (mVar 2))) (mB (mOp nIn (mC (.str "close")) (mVar 2))))))) (mRet (mC (.bl false))) mNext) b_law_is_program_9
def b_law_is_program_7 : MS :=
  mSeq (mIfS ((mOr (mB (mOp nNe (mCall f_law_count (mCons (mVar 2) (mCons (mLst (mCons (mC (.str "switch")) (mCons (mC (.str "close")) mNil))) mNil))) (mC (.int 1)))) (mNot (mB (mCall f_law_order (mCons (mVar 2) (mCons (mLst (mCons (mC (.str "move")) (mCons (mC (.str "scan")) mNil))) (mCons (mLst (mCons (mC (.str "switch")) (mCons (mC (.str "close")) mNil))) mNil)))))))) (mRet (mC (.bl false))) mNext) b_law_is_program_8
def b_law_is_program_6 : MS :=
  mSeq (mIfS (mB (mOp nIn (mVar 1) (mSl nSl (mCallP [] 0 0 f_law_kinds mNil mNil) mNoPart (mPart (mC (.int 4)))))) (mSeq (mIfS ((mOr (mB (mOp nNe (mCall f_law_count (mCons (mVar 2) (mCons (mVar 4) mNil))) (mC (.int 1)))) (mOr (mB (mOp nGt (mCall f_law_count (mCons (mVar 2) (mCons (mLst (mCons (mC (.str "border")) mNil)) mNil))) (mC (.int 1)))) (mB (mOp nGt (mCall f_law_count (mCons (mVar 2) (mCons (mLst (mCons (mC (.str "key")) mNil)) mNil))) (mC (.int 1))))))) (mRet (mC (.bl false))) mNext)
    (mSeq (mIfS (mNot (mB (mCall f_law_order (mCons (mVar 2) (mCons (mLst (mCons (mC (.str "border")) (mCons (mC (.str "key")) (mCons (mC (.str "again")) (mCons (mC (.str "view")) mNil))))) (mCons (mVar 4) mNil)))))) (mRet (mC (.bl false))) mNext)
    (mSeq (mIfS (mB (mOp nEq (mVar 1) (mC (.str "direct")))) (mRet (mC (.bl true))) mNext)
    (mSeq (mIfS ((mOr (mB (mOp nNe (mCall f_law_count (mCons (mVar 2) (mCons (mLst (mCons (mC (.str "look")) mNil)) mNil))) (mC (.int 1)))) ((mAnd (mB (mOp nEq (mVar 1) (mC (.str "read")))) (mB (mOp nNe (mCall f_law_count (mCons (mVar 2) (mCons (mLst (mCons (mC (.str "view")) mNil)) mNil))) (mC (.int 1)))))))) (mRet (mC (.bl false))) mNext)
    (mRet (mCall f_law_order (mCons (mVar 2) (mCons (mLst (mCons (mC (.str "look")) mNil)) (mCons (mOp nAdd (mLst (mCons (mC (.str "part")) (mCons (mC (.str "again")) (mCons (mC (.str "key")) mNil)))) (mVar 4)) mNil))))))))) mNext) b_law_is_program_7
def b_law_is_program_5 : MS :=
  mSeq (mAsg (mLst (mCons (mC (.str "put")) (mCons (mC (.str "claim")) (mCons (mC (.str "strike")) (mCons (mC (.str "read")) mNil))))) (hName 4)) b_law_is_program_6
def b_law_is_program_4 : MS :=
  mSeq (mIfS ((mOr (mB (mOp nNin (mOp nIx (mVar 2) (mNeg (mC (.int 1)))) (mVar 3))) (mB (mOp nGt (mCall f_law_count (mCons (mSl nSl (mVar 2) mNoPart (mPart (mNeg (mC (.int 1))))) (mCons (mLst (mCons (mC (.str "end")) (mCons (mC (.str "close")) mNil))) mNil))) (mC (.int 0)))))) (mRet (mC (.bl false))) mNext) b_law_is_program_5
def b_law_is_program_3 : MS :=
  mSeq (mAsg (mIf (mB (mOp nIn (mVar 1) (mSl nSl (mCallP [] 0 0 f_law_kinds mNil mNil) mNoPart (mPart (mC (.int 4)))))) (mLst (mCons (mC (.str "end")) mNil)) (mLst (mCons (mC (.str "end")) (mCons (mC (.str "close")) mNil)))) (hName 3)) b_law_is_program_4
def b_law_is_program_2 : MS :=
  mSeq (mAsg (mLc (mAny (mVar 0)) (hName 6) mYes (mIf (mB (mOp nEq (mSl nSl (mVar 6) mNoPart (mPart (mC (.int 2)))) (mTup (mCons (mC (.str "lock")) (mCons (mC (.str "part")) mNil))))) (mC (.str "part")) (mOp nIx (mVar 6) (mC (.int 0)))) [6]) (hName 2)) b_law_is_program_3
def b_law_is_program_1 : MS :=
  mSeq (mIfS (mB (mOp nNe (mLc (mAny (mVar 0)) (hName 6) (mNot (mB (mCall f_law_is_step (mCons (mVar 6) (mCons (mVar 1) mNil))))) (mVar 6) [6]) (mLst mNil))) (mRet (mC (.bl false))) mNext) b_law_is_program_2
def m_law_is_program : MS :=
  mSeq (mIfS ((mOr (mNot (mB (mCB nIsi (mCons (mVar 0) (mCons (mC (.ty "list")) mNil))))) (mOr (mB (mOp nLt (mCB nLen (mCons (mVar 0) mNil)) (mC (.int 1)))) (mB (mOp nGt (mCB nLen (mCons (mVar 0) mNil)) (mC (.int 12))))))) (mRet (mC (.bl false))) mNext) b_law_is_program_1
def f_law_is_program : MP := dfn 8 2 (fun _ => m_law_is_program)
abbrev sp_law_is_program (K : PySem.W.Frag) : Sp := up K f_law_is_program
def t_law_is_program (K : PySem.W.Frag) : TS :=
  (tSeq (tIfS ((tOr (tNot (tB (tCB (rIsi K) (tCons (tVar 0) (tCons (tC (.ty "list")) tNil))))) (tOr (tTest (tOp rLtA (tCB (rLenB K) (tCons (tVar 0) tNil)) (tC (.int 1)))) (tTest (tOp rGtA (tCB (rLenB K) (tCons (tVar 0) tNil)) (tC (.int 12))))))) (tRet (tC (.bl false))) tNext)
    (tSeq (tIfS (tTest (tOp (rNeA K) (tLc (iSeq K (tVar 0)) (gName 6) (tNot (tB (tCall (sp_law_is_step K) [] E0 (tCons (tVar 6) (tCons (tVar 1) tNil))))) (tVar 6) [6]) (tLst tNil))) (tRet (tC (.bl false))) tNext)
    (tSeq (tAsg (tLc (iSeq K (tVar 0)) (gName 6) tYes (tIf (tTest (tOp (rEqA K) (tSl (rSlA K) (tVar 6) tNoPart (tPart (tC (.int 2)))) (tTup (tCons (tC (.str "lock")) (tCons (tC (.str "part")) tNil))))) (tC (.str "part")) (tOp (rIxB K) (tVar 6) (tC (.int 0)))) [6]) (gName 2))
    (tSeq (tAsg (tIf (tTest (tOp (rInB K) (tVar 1) (tSl (rSlA K) (tCallP [] 0 0 (sp_law_kinds K) (fun _ => E0) tNil tNil) tNoPart (tPart (tC (.int 4)))))) (tLst (tCons (tC (.str "end")) tNil)) (tLst (tCons (tC (.str "end")) (tCons (tC (.str "close")) tNil)))) (gName 3))
    (tSeq (tIfS ((tOr (tTest (tOp (rNinB K) (tOp (rIxB K) (tVar 2) (tUn (rU fun i => .int (-i)) (tC (.int 1)))) (tVar 3))) (tTest (tOp rGtA (tCall (sp_law_count K) [] E0 (tCons (tSl (rSlA K) (tVar 2) tNoPart (tPart (tUn (rU fun i => .int (-i)) (tC (.int 1))))) (tCons (tLst (tCons (tC (.str "end")) (tCons (tC (.str "close")) tNil))) tNil))) (tC (.int 0)))))) (tRet (tC (.bl false))) tNext)
    (tSeq (tAsg (tLst (tCons (tC (.str "put")) (tCons (tC (.str "claim")) (tCons (tC (.str "strike")) (tCons (tC (.str "read")) tNil))))) (gName 4))
    (tSeq (tIfS (tTest (tOp (rInB K) (tVar 1) (tSl (rSlA K) (tCallP [] 0 0 (sp_law_kinds K) (fun _ => E0) tNil tNil) tNoPart (tPart (tC (.int 4)))))) (tSeq (tIfS ((tOr (tTest (tOp (rNeA K) (tCall (sp_law_count K) [] E0 (tCons (tVar 2) (tCons (tVar 4) tNil))) (tC (.int 1)))) (tOr (tTest (tOp rGtA (tCall (sp_law_count K) [] E0 (tCons (tVar 2) (tCons (tLst (tCons (tC (.str "border")) tNil)) tNil))) (tC (.int 1)))) (tTest (tOp rGtA (tCall (sp_law_count K) [] E0 (tCons (tVar 2) (tCons (tLst (tCons (tC (.str "key")) tNil)) tNil))) (tC (.int 1))))))) (tRet (tC (.bl false))) tNext)
    (tSeq (tIfS (tNot (tB (tCall (sp_law_order K) [] E0 (tCons (tVar 2) (tCons (tLst (tCons (tC (.str "border")) (tCons (tC (.str "key")) (tCons (tC (.str "again")) (tCons (tC (.str "view")) tNil))))) (tCons (tVar 4) tNil)))))) (tRet (tC (.bl false))) tNext)
    (tSeq (tIfS (tTest (tOp (rEqA K) (tVar 1) (tC (.str "direct")))) (tRet (tC (.bl true))) tNext)
    (tSeq (tIfS ((tOr (tTest (tOp (rNeA K) (tCall (sp_law_count K) [] E0 (tCons (tVar 2) (tCons (tLst (tCons (tC (.str "look")) tNil)) tNil))) (tC (.int 1)))) ((tAnd (tTest (tOp (rEqA K) (tVar 1) (tC (.str "read")))) (tTest (tOp (rNeA K) (tCall (sp_law_count K) [] E0 (tCons (tVar 2) (tCons (tLst (tCons (tC (.str "view")) tNil)) tNil))) (tC (.int 1)))))))) (tRet (tC (.bl false))) tNext)
    (tRet (tCall (sp_law_order K) [] E0 (tCons (tVar 2) (tCons (tLst (tCons (tC (.str "look")) tNil)) (tCons (tOp (rAddA K) (tLst (tCons (tC (.str "part")) (tCons (tC (.str "again")) (tCons (tC (.str "key")) tNil)))) (tVar 4)) tNil))))))))) tNext)
    (tSeq (tIfS ((tOr (tTest (tOp (rNeA K) (tCall (sp_law_count K) [] E0 (tCons (tVar 2) (tCons (tLst (tCons (tC (.str "switch")) (tCons (tC (.str "close")) tNil))) tNil))) (tC (.int 1)))) (tNot (tB (tCall (sp_law_order K) [] E0 (tCons (tVar 2) (tCons (tLst (tCons (tC (.str "move")) (tCons (tC (.str "scan")) tNil))) (tCons (tLst (tCons (tC (.str "switch")) (tCons (tC (.str "close")) tNil))) tNil)))))))) (tRet (tC (.bl false))) tNext)
    (tSeq (tIfS ((tOr (tNot (tB (tCall (sp_law_order K) [] E0 (tCons (tVar 2) (tCons (tLst (tCons (tC (.str "switch")) (tCons (tC (.str "close")) tNil))) (tCons (tLst (tCons (tC (.str "wait")) tNil)) tNil)))))) ((tAnd (tTest (tOp (rInB K) (tC (.str "wait")) (tVar 2))) (tTest (tOp (rInB K) (tC (.str "close")) (tVar 2))))))) (tRet (tC (.bl false))) tNext)
    (tSeq (tIfS ((tAnd (tTest (tOp (rInB K) (tVar 1) (tLst (tCons (tC (.str "split")) (tCons (tC (.str "join")) tNil))))) (tTest (tOp (rNeA K) (tCall (sp_law_count K) [] E0 (tCons (tVar 2) (tCons (tLst (tCons (tC (.str "move")) tNil)) tNil))) (tC (.int 1)))))) (tRet (tC (.bl false))) tNext)
    (tSeq (tAsg (tLc (iSeq K (tVar 0)) (gName 6) (tTest (tOp (rEqA K) (tOp (rIxB K) (tVar 6) (tC (.int 0))) (tC (.str "scan")))) (tVar 6) [6]) (gName 5))
    (tRet (tOp (rEqA K) (tLc (iRng1 (tCons (tCB (rLenB K) (tCons (tVar 5) tNil)) tNil)) (gName 7) (tTest (tOp (rInB K) (tOp (rIxB K) (tVar 5) (tVar 7)) (tSl (rSlA K) (tVar 5) tNoPart (tPart (tVar 7))))) (tVar 7) [7]) (tLst tNil))))))))))))))
theorem c_law_is_program {K : PySem.W.Frag} : SS K (fun _ => t_law_is_program K) (fun _ => m_law_is_program) := by
  unfold t_law_is_program m_law_is_program b_law_is_program_1 b_law_is_program_2 b_law_is_program_3 b_law_is_program_4 b_law_is_program_5 b_law_is_program_6 b_law_is_program_7 b_law_is_program_8 b_law_is_program_9 b_law_is_program_10 b_law_is_program_11
  exact (S_seq (S_if ((E_or (E_not (E_B (E_cb C_isi (E_cons (E_var 0) (E_cons (E_ty _) E_nil))))) (E_or (E_test (E_op O_lt (E_cb C_len (E_cons (E_var 0) E_nil)) (E_int 1))) (E_test (E_op O_gt (E_cb C_len (E_cons (E_var 0) E_nil)) (E_int 12)))))) (S_ret (E_bl false)) S_next)
    (S_seq (S_if (E_test (E_op O_ne (E_lc (I_seq (E_var 0)) (V_name 6 (by decide)) (E_not (E_B (E_call f_law_is_step (E_cons (E_var 6) (E_cons (E_var 1) E_nil))))) (E_var 6)) (E_lst E_nil))) (S_ret (E_bl false)) S_next)
    (S_seq (S_asg (E_lc (I_seq (E_var 0)) (V_name 6 (by decide)) E_yes (E_if (E_test (E_op O_eq (E_sl O_sl (E_var 6) E_nopart (E_part (E_int 2))) (E_tup (E_cons (E_str (by decide)) (E_cons (E_str (by decide)) E_nil))))) (E_str (by decide)) (E_op O_ix (E_var 6) (E_int 0)))) (G_name 2))
    (S_seq (S_asg (E_if (E_test (E_op O_in (E_var 1) (E_sl O_sl (E_callP [] 0 0 f_law_kinds E_nil E_nil) E_nopart (E_part (E_int 4))))) (E_lst (E_cons (E_str (by decide)) E_nil)) (E_lst (E_cons (E_str (by decide)) (E_cons (E_str (by decide)) E_nil)))) (G_name 3))
    (S_seq (S_if ((E_or (E_test (E_op O_nin (E_op O_ix (E_var 2) (E_neg (E_int 1))) (E_var 3))) (E_test (E_op O_gt (E_call f_law_count (E_cons (E_sl O_sl (E_var 2) E_nopart (E_part (E_neg (E_int 1)))) (E_cons (E_lst (E_cons (E_str (by decide)) (E_cons (E_str (by decide)) E_nil))) E_nil))) (E_int 0))))) (S_ret (E_bl false)) S_next)
    (S_seq (S_asg (E_lst (E_cons (E_str (by decide)) (E_cons (E_str (by decide)) (E_cons (E_str (by decide)) (E_cons (E_str (by decide)) E_nil))))) (G_name 4))
    (S_seq (S_if (E_test (E_op O_in (E_var 1) (E_sl O_sl (E_callP [] 0 0 f_law_kinds E_nil E_nil) E_nopart (E_part (E_int 4))))) (S_seq (S_if ((E_or (E_test (E_op O_ne (E_call f_law_count (E_cons (E_var 2) (E_cons (E_var 4) E_nil))) (E_int 1))) (E_or (E_test (E_op O_gt (E_call f_law_count (E_cons (E_var 2) (E_cons (E_lst (E_cons (E_str (by decide)) E_nil)) E_nil))) (E_int 1))) (E_test (E_op O_gt (E_call f_law_count (E_cons (E_var 2) (E_cons (E_lst (E_cons (E_str (by decide)) E_nil)) E_nil))) (E_int 1)))))) (S_ret (E_bl false)) S_next)
    (S_seq (S_if (E_not (E_B (E_call f_law_order (E_cons (E_var 2) (E_cons (E_lst (E_cons (E_str (by decide)) (E_cons (E_str (by decide)) (E_cons (E_str (by decide)) (E_cons (E_str (by decide)) E_nil))))) (E_cons (E_var 4) E_nil)))))) (S_ret (E_bl false)) S_next)
    (S_seq (S_if (E_test (E_op O_eq (E_var 1) (E_str (by decide)))) (S_ret (E_bl true)) S_next)
    (S_seq (S_if ((E_or (E_test (E_op O_ne (E_call f_law_count (E_cons (E_var 2) (E_cons (E_lst (E_cons (E_str (by decide)) E_nil)) E_nil))) (E_int 1))) ((E_and (E_test (E_op O_eq (E_var 1) (E_str (by decide)))) (E_test (E_op O_ne (E_call f_law_count (E_cons (E_var 2) (E_cons (E_lst (E_cons (E_str (by decide)) E_nil)) E_nil))) (E_int 1))))))) (S_ret (E_bl false)) S_next)
    (S_ret (E_call f_law_order (E_cons (E_var 2) (E_cons (E_lst (E_cons (E_str (by decide)) E_nil)) (E_cons (E_op O_add (E_lst (E_cons (E_str (by decide)) (E_cons (E_str (by decide)) (E_cons (E_str (by decide)) E_nil)))) (E_var 4)) E_nil))))))))) S_next)
    (S_seq (S_if ((E_or (E_test (E_op O_ne (E_call f_law_count (E_cons (E_var 2) (E_cons (E_lst (E_cons (E_str (by decide)) (E_cons (E_str (by decide)) E_nil))) E_nil))) (E_int 1))) (E_not (E_B (E_call f_law_order (E_cons (E_var 2) (E_cons (E_lst (E_cons (E_str (by decide)) (E_cons (E_str (by decide)) E_nil))) (E_cons (E_lst (E_cons (E_str (by decide)) (E_cons (E_str (by decide)) E_nil))) E_nil)))))))) (S_ret (E_bl false)) S_next)
    (S_seq (S_if ((E_or (E_not (E_B (E_call f_law_order (E_cons (E_var 2) (E_cons (E_lst (E_cons (E_str (by decide)) (E_cons (E_str (by decide)) E_nil))) (E_cons (E_lst (E_cons (E_str (by decide)) E_nil)) E_nil)))))) ((E_and (E_test (E_op O_in (E_str (by decide)) (E_var 2))) (E_test (E_op O_in (E_str (by decide)) (E_var 2))))))) (S_ret (E_bl false)) S_next)
    (S_seq (S_if ((E_and (E_test (E_op O_in (E_var 1) (E_lst (E_cons (E_str (by decide)) (E_cons (E_str (by decide)) E_nil))))) (E_test (E_op O_ne (E_call f_law_count (E_cons (E_var 2) (E_cons (E_lst (E_cons (E_str (by decide)) E_nil)) E_nil))) (E_int 1))))) (S_ret (E_bl false)) S_next)
    (S_seq (S_asg (E_lc (I_seq (E_var 0)) (V_name 6 (by decide)) (E_test (E_op O_eq (E_op O_ix (E_var 6) (E_int 0)) (E_str (by decide)))) (E_var 6)) (G_name 5))
    (S_ret (E_op O_eq (E_lc (I_rng1 (E_cons (E_cb C_len (E_cons (E_var 5) E_nil)) E_nil)) (V_name 7 (by decide)) (E_test (E_op O_in (E_op O_ix (E_var 5) (E_var 7)) (E_sl O_sl (E_var 5) E_nopart (E_part (E_var 7))))) (E_var 7)) (E_lst E_nil))))))))))))))
theorem len_law_is_program (K : PySem.W.Frag) : ∀ vs H Q E, sp_law_is_program K vs H Q E → vs.length = (["value", "kind"] : List Str).length := fun _ _ _ _ h => up_len h
theorem pure_law_is_program (K : PySem.W.Frag) (vs : List V) (H : Hp) (Q : VK) (E : XK) (h : sp_law_is_program K vs H Q E) : t_law_is_program K { nx := fun _ H' => Q .non H', rt := Q } (start ["value", "kind", "words", "last", "deeds", "scans", "step", "at"] vs) H := up_run (tw := fun _ => t_law_is_program K) (c_law_is_program) (N := ["value", "kind", "words", "last", "deeds", "scans", "step", "at"]) rfl h
def b_law_drawn_step_4 : MS :=
  (mRet (mTup (mCons (mOp nIx (mVar 2) (mCall f_law_take (mCons (mVar 0) (mCons (mC (.int 13)) mNil)))) mNil)))
def b_law_drawn_step_3 : MS :=
  mSeq (mIfS (mB (mOp nEq (mCall f_law_take (mCons (mVar 0) (mCons (mC (.int 6)) mNil))) (mC (.int 0)))) (mRet (mTup (mCons (mC (.str "scan")) (mCons (mOp nIx (mLst (mCons (mC (.str "new")) (mCons (mC (.str "rest")) mNil))) (mCall f_law_take (mCons (mVar 0) (mCons (mC (.int 2)) mNil)))) mNil)))) mNext) b_law_drawn_step_4
def b_law_drawn_step_2 : MS :=
  mSeq (mIfS (mB (mOp nEq (mCall f_law_take (mCons (mVar 0) (mCons (mC (.int 2)) mNil))) (mC (.int 0)))) (mSeq (mAsg (mOp nIx (mLst (mCons (mC (.str "table")) (mCons (mC (.str "part")) (mCons (mC (.str "old")) (mCons (mC (.str "new")) (mCons (mC (.str "rest")) mNil)))))) (mCall f_law_take (mCons (mVar 0) (mCons (mC (.int 5)) mNil)))) (hName 3))
    (mRet (mTup (mCons (mC (.str "lock")) (mCons (mVar 3) (mCons (mOp nIx (mVar 1) (mCall f_law_take (mCons (mVar 0) (mCons (mCB nLen (mCons (mVar 1) mNil)) mNil)))) mNil)))))) mNext) b_law_drawn_step_3
def b_law_drawn_step_1 : MS :=
  mSeq (mAsg (mOp nAdd (mVar 2) (mLst (mCons (mC (.str "view")) (mCons (mC (.str "read")) (mCons (mC (.str "move")) (mCons (mC (.str "switch")) (mCons (mC (.str "wait")) (mCons (mC (.str "close")) mNil)))))))) (hName 2)) b_law_drawn_step_2
def m_law_drawn_step : MS :=
  mSeq (mAsg (mLst (mCons (mC (.str "look")) (mCons (mC (.str "again")) (mCons (mC (.str "border")) (mCons (mC (.str "key")) (mCons (mC (.str "put")) (mCons (mC (.str "claim")) (mCons (mC (.str "strike")) mNil)))))))) (hName 2)) b_law_drawn_step_1
def f_law_drawn_step : MP := dfn 4 2 (fun _ => m_law_drawn_step)
abbrev sp_law_drawn_step (K : PySem.W.Frag) : Sp := up K f_law_drawn_step
def t_law_drawn_step (K : PySem.W.Frag) : TS :=
  (tSeq (tAsg (tLst (tCons (tC (.str "look")) (tCons (tC (.str "again")) (tCons (tC (.str "border")) (tCons (tC (.str "key")) (tCons (tC (.str "put")) (tCons (tC (.str "claim")) (tCons (tC (.str "strike")) tNil)))))))) (gName 2))
    (tSeq (tAsg (tOp (rAddA K) (tVar 2) (tLst (tCons (tC (.str "view")) (tCons (tC (.str "read")) (tCons (tC (.str "move")) (tCons (tC (.str "switch")) (tCons (tC (.str "wait")) (tCons (tC (.str "close")) tNil)))))))) (gName 2))
    (tSeq (tIfS (tTest (tOp (rEqA K) (tCall (sp_law_take K) [] E0 (tCons (tVar 0) (tCons (tC (.int 2)) tNil))) (tC (.int 0)))) (tSeq (tAsg (tOp (rIxB K) (tLst (tCons (tC (.str "table")) (tCons (tC (.str "part")) (tCons (tC (.str "old")) (tCons (tC (.str "new")) (tCons (tC (.str "rest")) tNil)))))) (tCall (sp_law_take K) [] E0 (tCons (tVar 0) (tCons (tC (.int 5)) tNil)))) (gName 3))
    (tRet (tTup (tCons (tC (.str "lock")) (tCons (tVar 3) (tCons (tOp (rIxB K) (tVar 1) (tCall (sp_law_take K) [] E0 (tCons (tVar 0) (tCons (tCB (rLenB K) (tCons (tVar 1) tNil)) tNil)))) tNil)))))) tNext)
    (tSeq (tIfS (tTest (tOp (rEqA K) (tCall (sp_law_take K) [] E0 (tCons (tVar 0) (tCons (tC (.int 6)) tNil))) (tC (.int 0)))) (tRet (tTup (tCons (tC (.str "scan")) (tCons (tOp (rIxB K) (tLst (tCons (tC (.str "new")) (tCons (tC (.str "rest")) tNil))) (tCall (sp_law_take K) [] E0 (tCons (tVar 0) (tCons (tC (.int 2)) tNil)))) tNil)))) tNext)
    (tRet (tTup (tCons (tOp (rIxB K) (tVar 2) (tCall (sp_law_take K) [] E0 (tCons (tVar 0) (tCons (tC (.int 13)) tNil)))) tNil)))))))
theorem c_law_drawn_step {K : PySem.W.Frag} : SS K (fun _ => t_law_drawn_step K) (fun _ => m_law_drawn_step) := by
  unfold t_law_drawn_step m_law_drawn_step b_law_drawn_step_1 b_law_drawn_step_2 b_law_drawn_step_3 b_law_drawn_step_4
  exact (S_seq (S_asg (E_lst (E_cons (E_str (by decide)) (E_cons (E_str (by decide)) (E_cons (E_str (by decide)) (E_cons (E_str (by decide)) (E_cons (E_str (by decide)) (E_cons (E_str (by decide)) (E_cons (E_str (by decide)) E_nil)))))))) (G_name 2))
    (S_seq (S_asg (E_op O_add (E_var 2) (E_lst (E_cons (E_str (by decide)) (E_cons (E_str (by decide)) (E_cons (E_str (by decide)) (E_cons (E_str (by decide)) (E_cons (E_str (by decide)) (E_cons (E_str (by decide)) E_nil)))))))) (G_name 2))
    (S_seq (S_if (E_test (E_op O_eq (E_call f_law_take (E_cons (E_var 0) (E_cons (E_int 2) E_nil))) (E_int 0))) (S_seq (S_asg (E_op O_ix (E_lst (E_cons (E_str (by decide)) (E_cons (E_str (by decide)) (E_cons (E_str (by decide)) (E_cons (E_str (by decide)) (E_cons (E_str (by decide)) E_nil)))))) (E_call f_law_take (E_cons (E_var 0) (E_cons (E_int 5) E_nil)))) (G_name 3))
    (S_ret (E_tup (E_cons (E_str (by decide)) (E_cons (E_var 3) (E_cons (E_op O_ix (E_var 1) (E_call f_law_take (E_cons (E_var 0) (E_cons (E_cb C_len (E_cons (E_var 1) E_nil)) E_nil)))) E_nil)))))) S_next)
    (S_seq (S_if (E_test (E_op O_eq (E_call f_law_take (E_cons (E_var 0) (E_cons (E_int 6) E_nil))) (E_int 0))) (S_ret (E_tup (E_cons (E_str (by decide)) (E_cons (E_op O_ix (E_lst (E_cons (E_str (by decide)) (E_cons (E_str (by decide)) E_nil))) (E_call f_law_take (E_cons (E_var 0) (E_cons (E_int 2) E_nil)))) E_nil)))) S_next)
    (S_ret (E_tup (E_cons (E_op O_ix (E_var 2) (E_call f_law_take (E_cons (E_var 0) (E_cons (E_int 13) E_nil)))) E_nil)))))))
theorem len_law_drawn_step (K : PySem.W.Frag) : ∀ vs H Q E, sp_law_drawn_step K vs H Q E → vs.length = (["box", "modes"] : List Str).length := fun _ _ _ _ h => up_len h
theorem pure_law_drawn_step (K : PySem.W.Frag) (vs : List V) (H : Hp) (Q : VK) (E : XK) (h : sp_law_drawn_step K vs H Q E) : t_law_drawn_step K { nx := fun _ H' => Q .non H', rt := Q } (start ["box", "modes", "plain", "where"] vs) H := up_run (tw := fun _ => t_law_drawn_step K) (c_law_drawn_step) (N := ["box", "modes", "plain", "where"]) rfl h
def b_law_base_5 : MS :=
  (mRet (mOp nAdd (mIf (mB (mOp nIn (mVar 1) (mLst (mCons (mC (.str "split")) (mCons (mC (.str "join")) mNil))))) (mLst (mCons (mTup (mCons (mC (.str "move")) mNil)) mNil)) (mLst mNil)) (mVar 3)))
def b_law_base_4 : MS :=
  mSeq (mIfS (mB (mOp nEq (mVar 1) (mC (.str "read")))) (mRet (mOp nAdd (mOp nIx (mLst (mCons (mLst (mCons (mTup (mCons (mC (.str "look")) mNil)) (mCons (mTup (mCons (mC (.str "view")) mNil)) mNil))) (mCons (mLst (mCons (mTup (mCons (mC (.str "view")) mNil)) (mCons (mTup (mCons (mC (.str "look")) mNil)) mNil))) mNil))) (mCall f_law_take (mCons (mVar 0) (mCons (mC (.int 2)) mNil)))) (mLst (mCons (mTup (mCons (mC (.str "read")) mNil)) (mCons (mTup (mCons (mC (.str "end")) mNil)) mNil))))) mNext) b_law_base_5
def b_law_base_3 : MS :=
  mSeq (mIfS (mB (mOp nEq (mVar 1) (mC (.str "strike")))) (mRet (mLst (mCons (mTup (mCons (mC (.str "look")) mNil)) (mCons (mTup (mCons (mC (.str "strike")) mNil)) (mCons (mTup (mCons (mC (.str "end")) mNil)) mNil))))) mNext) b_law_base_4
def b_law_base_2 : MS :=
  mSeq (mIfS (mB (mOp nIn (mVar 1) (mLst (mCons (mC (.str "put")) (mCons (mC (.str "direct")) mNil))))) (mRet (mOp nAdd (mIf (mB (mOp nEq (mVar 1) (mC (.str "put")))) (mLst (mCons (mTup (mCons (mC (.str "look")) mNil)) mNil)) (mLst mNil)) (mLst (mCons (mVar 2) (mCons (mTup (mCons (mC (.str "end")) mNil)) mNil))))) mNext) b_law_base_3
def b_law_base_1 : MS :=
  mSeq (mAsg (mOp nIx (mLst (mCons (mLst (mCons (mTup (mCons (mC (.str "close")) mNil)) mNil)) (mCons (mLst (mCons (mTup (mCons (mC (.str "switch")) mNil)) (mCons (mTup (mCons (mC (.str "end")) mNil)) mNil))) (mCons (mLst (mCons (mTup (mCons (mC (.str "switch")) mNil)) (mCons (mTup (mCons (mC (.str "wait")) mNil)) (mCons (mTup (mCons (mC (.str "end")) mNil)) mNil)))) mNil)))) (mCall f_law_take (mCons (mVar 0) (mCons (mC (.int 3)) mNil)))) (hName 3)) b_law_base_2
def m_law_base : MS :=
  mSeq (mAsg (mIf (mB (mOp nEq (mCall f_law_take (mCons (mVar 0) (mCons (mC (.int 2)) mNil))) (mC (.int 0)))) (mTup (mCons (mC (.str "claim")) mNil)) (mTup (mCons (mC (.str "put")) mNil))) (hName 2)) b_law_base_1
def f_law_base : MP := dfn 4 2 (fun _ => m_law_base)
abbrev sp_law_base (K : PySem.W.Frag) : Sp := up K f_law_base
def t_law_base (K : PySem.W.Frag) : TS :=
  (tSeq (tAsg (tIf (tTest (tOp (rEqA K) (tCall (sp_law_take K) [] E0 (tCons (tVar 0) (tCons (tC (.int 2)) tNil))) (tC (.int 0)))) (tTup (tCons (tC (.str "claim")) tNil)) (tTup (tCons (tC (.str "put")) tNil))) (gName 2))
    (tSeq (tAsg (tOp (rIxB K) (tLst (tCons (tLst (tCons (tTup (tCons (tC (.str "close")) tNil)) tNil)) (tCons (tLst (tCons (tTup (tCons (tC (.str "switch")) tNil)) (tCons (tTup (tCons (tC (.str "end")) tNil)) tNil))) (tCons (tLst (tCons (tTup (tCons (tC (.str "switch")) tNil)) (tCons (tTup (tCons (tC (.str "wait")) tNil)) (tCons (tTup (tCons (tC (.str "end")) tNil)) tNil)))) tNil)))) (tCall (sp_law_take K) [] E0 (tCons (tVar 0) (tCons (tC (.int 3)) tNil)))) (gName 3))
    (tSeq (tIfS (tTest (tOp (rInB K) (tVar 1) (tLst (tCons (tC (.str "put")) (tCons (tC (.str "direct")) tNil))))) (tRet (tOp (rAddA K) (tIf (tTest (tOp (rEqA K) (tVar 1) (tC (.str "put")))) (tLst (tCons (tTup (tCons (tC (.str "look")) tNil)) tNil)) (tLst tNil)) (tLst (tCons (tVar 2) (tCons (tTup (tCons (tC (.str "end")) tNil)) tNil))))) tNext)
    (tSeq (tIfS (tTest (tOp (rEqA K) (tVar 1) (tC (.str "strike")))) (tRet (tLst (tCons (tTup (tCons (tC (.str "look")) tNil)) (tCons (tTup (tCons (tC (.str "strike")) tNil)) (tCons (tTup (tCons (tC (.str "end")) tNil)) tNil))))) tNext)
    (tSeq (tIfS (tTest (tOp (rEqA K) (tVar 1) (tC (.str "read")))) (tRet (tOp (rAddA K) (tOp (rIxB K) (tLst (tCons (tLst (tCons (tTup (tCons (tC (.str "look")) tNil)) (tCons (tTup (tCons (tC (.str "view")) tNil)) tNil))) (tCons (tLst (tCons (tTup (tCons (tC (.str "view")) tNil)) (tCons (tTup (tCons (tC (.str "look")) tNil)) tNil))) tNil))) (tCall (sp_law_take K) [] E0 (tCons (tVar 0) (tCons (tC (.int 2)) tNil)))) (tLst (tCons (tTup (tCons (tC (.str "read")) tNil)) (tCons (tTup (tCons (tC (.str "end")) tNil)) tNil))))) tNext)
    (tRet (tOp (rAddA K) (tIf (tTest (tOp (rInB K) (tVar 1) (tLst (tCons (tC (.str "split")) (tCons (tC (.str "join")) tNil))))) (tLst (tCons (tTup (tCons (tC (.str "move")) tNil)) tNil)) (tLst tNil)) (tVar 3))))))))
theorem c_law_base {K : PySem.W.Frag} : SS K (fun _ => t_law_base K) (fun _ => m_law_base) := by
  unfold t_law_base m_law_base b_law_base_1 b_law_base_2 b_law_base_3 b_law_base_4 b_law_base_5
  exact (S_seq (S_asg (E_if (E_test (E_op O_eq (E_call f_law_take (E_cons (E_var 0) (E_cons (E_int 2) E_nil))) (E_int 0))) (E_tup (E_cons (E_str (by decide)) E_nil)) (E_tup (E_cons (E_str (by decide)) E_nil))) (G_name 2))
    (S_seq (S_asg (E_op O_ix (E_lst (E_cons (E_lst (E_cons (E_tup (E_cons (E_str (by decide)) E_nil)) E_nil)) (E_cons (E_lst (E_cons (E_tup (E_cons (E_str (by decide)) E_nil)) (E_cons (E_tup (E_cons (E_str (by decide)) E_nil)) E_nil))) (E_cons (E_lst (E_cons (E_tup (E_cons (E_str (by decide)) E_nil)) (E_cons (E_tup (E_cons (E_str (by decide)) E_nil)) (E_cons (E_tup (E_cons (E_str (by decide)) E_nil)) E_nil)))) E_nil)))) (E_call f_law_take (E_cons (E_var 0) (E_cons (E_int 3) E_nil)))) (G_name 3))
    (S_seq (S_if (E_test (E_op O_in (E_var 1) (E_lst (E_cons (E_str (by decide)) (E_cons (E_str (by decide)) E_nil))))) (S_ret (E_op O_add (E_if (E_test (E_op O_eq (E_var 1) (E_str (by decide)))) (E_lst (E_cons (E_tup (E_cons (E_str (by decide)) E_nil)) E_nil)) (E_lst E_nil)) (E_lst (E_cons (E_var 2) (E_cons (E_tup (E_cons (E_str (by decide)) E_nil)) E_nil))))) S_next)
    (S_seq (S_if (E_test (E_op O_eq (E_var 1) (E_str (by decide)))) (S_ret (E_lst (E_cons (E_tup (E_cons (E_str (by decide)) E_nil)) (E_cons (E_tup (E_cons (E_str (by decide)) E_nil)) (E_cons (E_tup (E_cons (E_str (by decide)) E_nil)) E_nil))))) S_next)
    (S_seq (S_if (E_test (E_op O_eq (E_var 1) (E_str (by decide)))) (S_ret (E_op O_add (E_op O_ix (E_lst (E_cons (E_lst (E_cons (E_tup (E_cons (E_str (by decide)) E_nil)) (E_cons (E_tup (E_cons (E_str (by decide)) E_nil)) E_nil))) (E_cons (E_lst (E_cons (E_tup (E_cons (E_str (by decide)) E_nil)) (E_cons (E_tup (E_cons (E_str (by decide)) E_nil)) E_nil))) E_nil))) (E_call f_law_take (E_cons (E_var 0) (E_cons (E_int 2) E_nil)))) (E_lst (E_cons (E_tup (E_cons (E_str (by decide)) E_nil)) (E_cons (E_tup (E_cons (E_str (by decide)) E_nil)) E_nil))))) S_next)
    (S_ret (E_op O_add (E_if (E_test (E_op O_in (E_var 1) (E_lst (E_cons (E_str (by decide)) (E_cons (E_str (by decide)) E_nil))))) (E_lst (E_cons (E_tup (E_cons (E_str (by decide)) E_nil)) E_nil)) (E_lst E_nil)) (E_var 3))))))))
theorem len_law_base (K : PySem.W.Frag) : ∀ vs H Q E, sp_law_base K vs H Q E → vs.length = (["box", "kind"] : List Str).length := fun _ _ _ _ h => up_len h
theorem pure_law_base (K : PySem.W.Frag) (vs : List V) (H : Hp) (Q : VK) (E : XK) (h : sp_law_base K vs H Q E) : t_law_base K { nx := fun _ H' => Q .non H', rt := Q } (start ["box", "kind", "deed", "last"] vs) H := up_run (tw := fun _ => t_law_base K) (c_law_base) (N := ["box", "kind", "deed", "last"]) rfl h
def b_law_program_L1_3 : MS :=
  (mIfS (mB (mCall f_law_is_program (mCons (mVar 7) (mCons (mVar 1) mNil)))) (mAsg (mVar 7) (hName 3)) mNext)
def b_law_program_L1_2 : MS :=
  mSeq (mAsg (mOp nAdd (mOp nAdd (mSl nSl (mVar 3) mNoPart (mPart (mVar 6))) (mLst (mCons (mVar 5) mNil))) (mSl nSl (mVar 3) (mPart (mVar 6)) mNoPart)) (hName 7)) b_law_program_L1_3
def b_law_program_L1_1 : MS :=
  mSeq (mAsg (mCall f_law_take (mCons (mVar 0) (mCons (mCB nLen (mCons (mVar 3) mNil)) mNil))) (hName 6)) b_law_program_L1_2
def l_law_program_1 : MS :=
  mSeq (mAsg (mCall f_law_drawn_step (mCons (mVar 0) (mCons (mVar 2) mNil))) (hName 5)) b_law_program_L1_1
def b_law_program_2 : MS :=
  (mRet (mVar 3))
def b_law_program_1 : MS :=
  mSeq (mFor (mRng1 (mCons (mCall f_law_take (mCons (mVar 0) (mCons (mC (.int 12)) mNil))) mNil)) (hName 4) l_law_program_1) b_law_program_2
def m_law_program : MS :=
  mSeq (mAsg (mCall f_law_base (mCons (mVar 0) (mCons (mVar 1) mNil))) (hName 3)) b_law_program_1
def f_law_program : MP := dfn 8 3 (fun _ => m_law_program)
abbrev sp_law_program (K : PySem.W.Frag) : Sp := up K f_law_program
def t_law_program (K : PySem.W.Frag) : TS :=
  (tSeq (tAsg (tCall (sp_law_base K) [] E0 (tCons (tVar 0) (tCons (tVar 1) tNil))) (gName 3))
    (tSeq (tFor (iRng1 (tCons (tCall (sp_law_take K) [] E0 (tCons (tVar 0) (tCons (tC (.int 12)) tNil))) tNil)) (gName 4) (tSeq (tAsg (tCall (sp_law_drawn_step K) [] E0 (tCons (tVar 0) (tCons (tVar 2) tNil))) (gName 5))
    (tSeq (tAsg (tCall (sp_law_take K) [] E0 (tCons (tVar 0) (tCons (tCB (rLenB K) (tCons (tVar 3) tNil)) tNil))) (gName 6))
    (tSeq (tAsg (tOp (rAddA K) (tOp (rAddA K) (tSl (rSlA K) (tVar 3) tNoPart (tPart (tVar 6))) (tLst (tCons (tVar 5) tNil))) (tSl (rSlA K) (tVar 3) (tPart (tVar 6)) tNoPart)) (gName 7))
    (tIfS (tB (tCall (sp_law_is_program K) [] E0 (tCons (tVar 7) (tCons (tVar 1) tNil)))) (tAsg (tVar 7) (gName 3)) tNext)))))
    (tRet (tVar 3))))
theorem c_law_program {K : PySem.W.Frag} : SS K (fun _ => t_law_program K) (fun _ => m_law_program) := by
  unfold t_law_program m_law_program b_law_program_1 b_law_program_2 l_law_program_1 b_law_program_L1_1 b_law_program_L1_2 b_law_program_L1_3
  exact (S_seq (S_asg (E_call f_law_base (E_cons (E_var 0) (E_cons (E_var 1) E_nil))) (G_name 3))
    (S_seq (S_for (I_rng1 (E_cons (E_call f_law_take (E_cons (E_var 0) (E_cons (E_int 12) E_nil))) E_nil)) (G_name 4) (S_seq (S_asg (E_call f_law_drawn_step (E_cons (E_var 0) (E_cons (E_var 2) E_nil))) (G_name 5))
    (S_seq (S_asg (E_call f_law_take (E_cons (E_var 0) (E_cons (E_cb C_len (E_cons (E_var 3) E_nil)) E_nil))) (G_name 6))
    (S_seq (S_asg (E_op O_add (E_op O_add (E_sl O_sl (E_var 3) E_nopart (E_part (E_var 6))) (E_lst (E_cons (E_var 5) E_nil))) (E_sl O_sl (E_var 3) (E_part (E_var 6)) E_nopart)) (G_name 7))
    (S_if (E_B (E_call f_law_is_program (E_cons (E_var 7) (E_cons (E_var 1) E_nil)))) (S_asg (E_var 7) (G_name 3)) S_next)))))
    (S_ret (E_var 3))))
theorem len_law_program (K : PySem.W.Frag) : ∀ vs H Q E, sp_law_program K vs H Q E → vs.length = (["box", "kind", "modes"] : List Str).length := fun _ _ _ _ h => up_len h
theorem pure_law_program (K : PySem.W.Frag) (vs : List V) (H : Hp) (Q : VK) (E : XK) (h : sp_law_program K vs H Q E) : t_law_program K { nx := fun _ H' => Q .non H', rt := Q } (start ["box", "kind", "modes", "found", "turn", "step", "at", "more"] vs) H := up_run (tw := fun _ => t_law_program K) (c_law_program) (N := ["box", "kind", "modes", "found", "turn", "step", "at", "more"]) rfl h
def b_law_bent_9 : MS :=
  (mRet (mVar 3))
def b_law_bent_8 : MS :=
  mCut (mIfS (mB (mOp nEq (mVar 6) (mC (.int 5)))) (mAsg (mCell (mOp nAdd (mOp nMul (mSl nSl (mVar 3) mNoPart (mPart (mC (.int 1)))) (mOp nIx (mLst (mCons (mC (.int 0)) (mCons (mC (.int 3)) (mCons (mC (.int 9)) mNil)))) (mCall f_law_take (mCons (mVar 0) (mCons (mC (.int 3)) mNil))))) (mVar 3))) (hName 3)) mNext) b_law_bent_9
def b_law_bent_7 : MS :=
  mCut (mIfS (mB (mOp nEq (mVar 6) (mC (.int 4)))) (mAsg (mOp nIx (mLst (mCons (mC .non) (mCons (mC (.int 5)) (mCons (mC (.str "look")) (mCons (mTup (mCons (mC (.str "end")) (mCons (mC (.str "end")) mNil))) (mCons (mTup mNil) (mCons (mLst (mCons (mTup (mCons (mC (.str "end")) mNil)) mNil)) mNil))))))) (mCall f_law_take (mCons (mVar 0) (mCons (mC (.int 6)) mNil)))) (hSub (mVar 3) (mVar 4) nSet)) mNext) b_law_bent_8
def b_law_bent_6 : MS :=
  mCut (mIfS (mB (mOp nEq (mVar 6) (mC (.int 3)))) (mDrop (mBM "list" nInsert (mVar 3) (mCons (mCall f_law_take (mCons (mVar 0) (mCons (mOp nAdd (mCB nLen (mCons (mVar 3) mNil)) (mC (.int 1))) mNil))) (mCons (mCall f_law_drawn_step (mCons (mVar 0) (mCons (mVar 2) mNil))) mNil)))) mNext) b_law_bent_7
def b_law_bent_5 : MS :=
  mCut (mIfS (mB (mOp nEq (mVar 6) (mC (.int 2)))) (mAsg (mTup (mCons (mOp nIx (mVar 3) (mVar 5)) (mCons (mOp nIx (mVar 3) (mVar 4)) mNil))) (hTup 2 (hCons (hSub (mVar 3) (mVar 4) nSet) (hCons (hSub (mVar 3) (mVar 5) nSet) hNil)))) mNext) b_law_bent_6
def b_law_bent_4 : MS :=
  mCut (mIfS (mB (mOp nEq (mVar 6) (mC (.int 1)))) (mDrop (mBM "list" nInsert (mVar 3) (mCons (mVar 4) (mCons (mOp nIx (mVar 3) (mVar 5)) mNil)))) mNext) b_law_bent_5
def b_law_bent_3 : MS :=
  mCut (mIfS (mB (mOp nEq (mVar 6) (mC (.int 0)))) (mDrop (mBM "list" nPop (mVar 3) (mCons (mVar 4) mNil))) mNext) b_law_bent_4
def b_law_bent_2 : MS :=
  mSeq (mAsg (mCall f_law_take (mCons (mVar 0) (mCons (mC (.int 6)) mNil))) (hName 6)) b_law_bent_3
def b_law_bent_1 : MS :=
  mSeq (mPar 4 5 (mCons (mCall f_law_take (mCons (mVar 0) (mCons (mCB nLen (mCons (mVar 3) mNil)) mNil))) (mCons (mCall f_law_take (mCons (mVar 0) (mCons (mCB nLen (mCons (mVar 3) mNil)) mNil))) mNil))) b_law_bent_2
def m_law_bent : MS :=
  mSeq (mAsg (mCell (mCB nList (mCons (mVar 1) mNil))) (hName 3)) b_law_bent_1
def f_law_bent : MP := dfn 7 3 (fun _ => m_law_bent)
abbrev sp_law_bent (K : PySem.W.Frag) : Sp := up K f_law_bent
def t_law_bent (K : PySem.W.Frag) : TS :=
  (tSeq (tAsg (tCB (rListA K) (tCons (tVar 1) tNil)) (gName 3))
    (tSeq (tPar 4 5 (tCons (tCall (sp_law_take K) [] E0 (tCons (tVar 0) (tCons (tCB (rLenB K) (tCons (tVar 3) tNil)) tNil))) (tCons (tCall (sp_law_take K) [] E0 (tCons (tVar 0) (tCons (tCB (rLenB K) (tCons (tVar 3) tNil)) tNil))) tNil)))
    (tSeq (tAsg (tCall (sp_law_take K) [] E0 (tCons (tVar 0) (tCons (tC (.int 6)) tNil))) (gName 6))
    (tCut (tIfS (tTest (tOp (rEqA K) (tVar 6) (tC (.int 0)))) (tDrop (tBMW K "list" rPopA (tVar 3) (tCons (tVar 4) tNil))) tNext)
    (tCut (tIfS (tTest (tOp (rEqA K) (tVar 6) (tC (.int 1)))) (tDrop (tBMW K "list" rInsert (tVar 3) (tCons (tVar 4) (tCons (tOp (rIxB K) (tVar 3) (tVar 5)) tNil)))) tNext)
    (tCut (tIfS (tTest (tOp (rEqA K) (tVar 6) (tC (.int 2)))) (tAsg (tTup (tCons (tOp (rIxB K) (tVar 3) (tVar 5)) (tCons (tOp (rIxB K) (tVar 3) (tVar 4)) tNil))) (gTup K 2 (gCons (gSub (tVar 3) (tVar 4) rSetB) (gCons (gSub (tVar 3) (tVar 5) rSetB) gNil)))) tNext)
    (tCut (tIfS (tTest (tOp (rEqA K) (tVar 6) (tC (.int 3)))) (tDrop (tBMW K "list" rInsert (tVar 3) (tCons (tCall (sp_law_take K) [] E0 (tCons (tVar 0) (tCons (tOp (rAddA K) (tCB (rLenB K) (tCons (tVar 3) tNil)) (tC (.int 1))) tNil))) (tCons (tCall (sp_law_drawn_step K) [] E0 (tCons (tVar 0) (tCons (tVar 2) tNil))) tNil)))) tNext)
    (tCut (tIfS (tTest (tOp (rEqA K) (tVar 6) (tC (.int 4)))) (tAsg (tOp (rIxB K) (tLst (tCons (tC .non) (tCons (tC (.int 5)) (tCons (tC (.str "look")) (tCons (tTup (tCons (tC (.str "end")) (tCons (tC (.str "end")) tNil))) (tCons (tTup tNil) (tCons (tLst (tCons (tTup (tCons (tC (.str "end")) tNil)) tNil)) tNil))))))) (tCall (sp_law_take K) [] E0 (tCons (tVar 0) (tCons (tC (.int 6)) tNil)))) (gSub (tVar 3) (tVar 4) rSetB)) tNext)
    (tCut (tIfS (tTest (tOp (rEqA K) (tVar 6) (tC (.int 5)))) (tAsg (tOp (rAddA K) (tOp rMulA (tSl (rSlA K) (tVar 3) tNoPart (tPart (tC (.int 1)))) (tOp (rIxB K) (tLst (tCons (tC (.int 0)) (tCons (tC (.int 3)) (tCons (tC (.int 9)) tNil)))) (tCall (sp_law_take K) [] E0 (tCons (tVar 0) (tCons (tC (.int 3)) tNil))))) (tVar 3)) (gName 3)) tNext)
    (tRet (tVar 3)))))))))))
theorem c_law_bent {K : PySem.W.Frag} : SS K (fun _ => t_law_bent K) (fun _ => m_law_bent) := by
  unfold t_law_bent m_law_bent b_law_bent_1 b_law_bent_2 b_law_bent_3 b_law_bent_4 b_law_bent_5 b_law_bent_6 b_law_bent_7 b_law_bent_8 b_law_bent_9
  exact (S_seq (S_asg (E_cell (N_list (E_cons (E_var 1) E_nil))) (G_name 3))
    (S_seq (S_par (E_cons (E_call f_law_take (E_cons (E_var 0) (E_cons (E_cb C_len (E_cons (E_var 3) E_nil)) E_nil))) (E_cons (E_call f_law_take (E_cons (E_var 0) (E_cons (E_cb C_len (E_cons (E_var 3) E_nil)) E_nil))) E_nil)))
    (S_seq (S_asg (E_call f_law_take (E_cons (E_var 0) (E_cons (E_int 6) E_nil))) (G_name 6))
    (S_cut (S_if (E_test (E_op O_eq (E_var 6) (E_int 0))) (S_drop (E_bm M_pop (E_var 3) (E_cons (E_var 4) E_nil))) S_next)
    (S_cut (S_if (E_test (E_op O_eq (E_var 6) (E_int 1))) (S_drop (E_bm M_insert (E_var 3) (E_cons (E_var 4) (E_cons (E_op O_ix (E_var 3) (E_var 5)) E_nil)))) S_next)
    (S_cut (S_if (E_test (E_op O_eq (E_var 6) (E_int 2))) (S_asg (E_tup (E_cons (E_op O_ix (E_var 3) (E_var 5)) (E_cons (E_op O_ix (E_var 3) (E_var 4)) E_nil))) (G_tup (G_cons (G_sub O_set (E_var 3) (E_var 4)) (G_cons (G_sub O_set (E_var 3) (E_var 5)) G_nil)))) S_next)
    (S_cut (S_if (E_test (E_op O_eq (E_var 6) (E_int 3))) (S_drop (E_bm M_insert (E_var 3) (E_cons (E_call f_law_take (E_cons (E_var 0) (E_cons (E_op O_add (E_cb C_len (E_cons (E_var 3) E_nil)) (E_int 1)) E_nil))) (E_cons (E_call f_law_drawn_step (E_cons (E_var 0) (E_cons (E_var 2) E_nil))) E_nil)))) S_next)
    (S_cut (S_if (E_test (E_op O_eq (E_var 6) (E_int 4))) (S_asg (E_op O_ix (E_lst (E_cons (E_non) (E_cons (E_int 5) (E_cons (E_str (by decide)) (E_cons (E_tup (E_cons (E_str (by decide)) (E_cons (E_str (by decide)) E_nil))) (E_cons (E_tup E_nil) (E_cons (E_lst (E_cons (E_tup (E_cons (E_str (by decide)) E_nil)) E_nil)) E_nil))))))) (E_call f_law_take (E_cons (E_var 0) (E_cons (E_int 6) E_nil)))) (G_sub O_set (E_var 3) (E_var 4))) S_next)
    (S_cut (S_if (E_test (E_op O_eq (E_var 6) (E_int 5))) (S_asg (E_cell (N_add (E_op O_mul (E_sl O_sl (E_var 3) E_nopart (E_part (E_int 1))) (E_op O_ix (E_lst (E_cons (E_int 0) (E_cons (E_int 3) (E_cons (E_int 9) E_nil)))) (E_call f_law_take (E_cons (E_var 0) (E_cons (E_int 3) E_nil))))) (E_var 3))) (G_name 3)) S_next)
    (S_ret (E_var 3)))))))))))
theorem len_law_bent (K : PySem.W.Frag) : ∀ vs H Q E, sp_law_bent K vs H Q E → vs.length = (["box", "program", "modes"] : List Str).length := fun _ _ _ _ h => up_len h
theorem pure_law_bent (K : PySem.W.Frag) (vs : List V) (H : Hp) (Q : VK) (E : XK) (h : sp_law_bent K vs H Q E) : t_law_bent K { nx := fun _ H' => Q .non H', rt := Q } (start ["box", "program", "modes", "found", "at", "other", "way"] vs) H := up_run (tw := fun _ => t_law_bent K) (c_law_bent) (N := ["box", "program", "modes", "found", "at", "other", "way"]) rfl h
def m_law_told : MS :=
  (mTry exT (("NoProgram", some 2, fun a dd => (mRet (mLst (mCons (mC (.str "kind")) (mCons (mXf a dd "NoProgram" "kind" 2) mNil))))) :: ([])) (fun W => (mRet (mLst (mCons (mC (.str "told")) (mCons (mCallS f_is_program (mCons (mVar 0) (mCons (mVar 1) mNil)) W) mNil))))) WD0)
def f_law_told : MP := dfn 3 2 (fun _ => m_law_told)
abbrev sp_law_told (K : PySem.W.Frag) : Sp := up K f_law_told
def t_law_told (K : PySem.W.Frag) : TS :=
  (tTry K (fun W => (tRet (tLst (tCons (tC (.str "told")) (tCons (tCallS (sp_is_program K) (WE W) (tCons (tVar 0) (tCons (tVar 1) tNil))) tNil))))) (fun _ _ _ _ => False) ((.ref (He.ga K "NoProgram"), some 2, fun a cls d => (tRet (tLst (tCons (tC (.str "kind")) (tCons (tXf a cls d (He.ga K "NoProgram") "kind" (tVar 2)) tNil))))) :: ([])))
theorem c_law_told {K : PySem.W.Frag} (X : ExOk K exT) : SS K (fun _ => t_law_told K) (fun _ => m_law_told) := by
  unfold t_law_told m_law_told 
  exact (S_try0 X (S_ret (E_lst (E_cons (E_str (by decide)) (E_cons (E_callS f_is_program (E_cons (E_var 0) (E_cons (E_var 1) E_nil))) E_nil)))) (.as_ (fun a dd => (S_ret (E_lst (E_cons (E_str (by decide)) (E_cons (E_xf a dd _ _ 2) E_nil))))) .nil))
theorem len_law_told (K : PySem.W.Frag) : ∀ vs H Q E, sp_law_told K vs H Q E → vs.length = (["value", "kind"] : List Str).length := fun _ _ _ _ h => up_len h
theorem pure_law_told (K : PySem.W.Frag) (vs : List V) (H : Hp) (Q : VK) (E : XK) (X : Exm K) (h : sp_law_told K vs H Q E) : t_law_told K { nx := fun _ H' => Q .non H', rt := Q } (start ["value", "kind", "e"] vs) H := up_run (tw := fun _ => t_law_told K) (c_law_told X.da) (N := ["value", "kind", "e"]) rfl h
def b_law_L4_1 : MS :=
  (mIfS ((mOr (mNot (mB (mCB nIsi (mCons (mVar 9) (mCons (mC (.ty "bool")) mNil))))) (mB (mOp nNe (mVar 9) (mCall f_law_is_program (mCons (mVar 7) (mCons (mVar 8) mNil))))))) (mRet (mC (.bl false))) mNext)
def l_law_4 : MS :=
  mSeq (mAsg (mCall f_is_program (mCons (mVar 7) (mCons (mVar 8) mNil))) (hName 9)) b_law_L4_1
def b_law_L3_2 : MS :=
  (mFor (mAny (mLst (mCons (mVar 4) (mCons (mOp nIx (mCallP [] 0 0 f_law_kinds mNil mNil) (mCall f_law_take (mCons (mVar 2) (mCons (mC (.int 8)) mNil)))) mNil)))) (hName 8) l_law_4)
def b_law_L3_1 : MS :=
  mCut (mIfS ((mAnd (mB (mOp nEq (mVar 6) (mC (.int 3)))) (mB (mOp nNe (mVar 7) (mLst mNil))))) (mAsg (mCall f_law_bent (mCons (mVar 2) (mCons (mVar 7) (mCons (mVar 3) mNil)))) (hName 7)) mNext) b_law_L3_2
def l_law_3 : MS :=
  mSeq (mAsg (mCall f_law_bent (mCons (mVar 2) (mCons (mVar 5) (mCons (mVar 3) mNil)))) (hName 7)) b_law_L3_1
def b_law_L2_4 : MS :=
  (mIfS ((mOr (mB (mCall f_is_program (mCons (mVar 10) (mCons (mVar 4) mNil)))) (mB (mOp nNe (mCall f_law_told (mCons (mVar 10) (mCons (mC (.str "")) mNil))) (mLst (mCons (mC (.str "kind")) (mCons (mC (.str "")) mNil))))))) (mRet (mC (.bl false))) mNext)
def b_law_L2_3 : MS :=
  mSeq (mAsg (mOp nIx (mLst (mCons (mC .non) (mCons (mC (.int 5)) (mCons (mC (.str "look")) (mCons (mTup mNil) (mCons (mCB nTupC (mCons (mVar 5) mNil)) (mCons (mDNew) (mCons (mLst mNil) (mCons (mLst (mCons (mC .non) mNil)) mNil))))))))) (mCall f_law_take (mCons (mVar 2) (mCons (mC (.int 8)) mNil)))) (hName 10)) b_law_L2_4
def b_law_L2_2 : MS :=
  mSeq (mFor (mRng1 (mCons (mC (.int 4)) mNil)) (hName 6) l_law_3) b_law_L2_3
def b_law_L2_1 : MS :=
  mSeq (mIfS ((mOr (mNot (mB (mCall f_is_program (mCons (mVar 5) (mCons (mVar 4) mNil))))) (mNot (mB (mCall f_law_is_program (mCons (mVar 5) (mCons (mVar 4) mNil))))))) (mRet (mC (.bl false))) mNext) b_law_L2_2
def l_law_2 : MS :=
  mSeq (mAsg (mCall f_law_program (mCons (mVar 2) (mCons (mVar 4) (mCons (mVar 3) mNil)))) (hName 5)) b_law_L2_1
def b_law_L1_2 : MS :=
  (mFor (mAny (mSl nSl (mCall f_law_mixed (mCons (mVar 2) (mCons (mCallP [] 0 0 f_law_kinds mNil mNil) mNil))) mNoPart (mPart (mC (.int 4))))) (hName 4) l_law_2)
def b_law_L1_1 : MS :=
  mSeq (mAsg (mCall f_law_names (mCons (mVar 2) (mCons (mC (.int 3)) mNil))) (hName 3)) b_law_L1_2
def l_law_1 : MS :=
  mSeq (mAsg (mCall f_law_box (mCons (mCall f_law_cell (mCons (mVar 0) (mCons (mVar 1) mNil))) mNil)) (hName 2)) b_law_L1_1
def b_law_1 : MS :=
  (mRet (mC (.bl true)))
def m_law : MS :=
  mSeq (mFor (mRng1 (mCons (mCB nMax (mCons (mC (.int 2)) (mCons (mCB nMin (mCons (mC (.int 12)) (mCons (mCB nLen (mCons (mVar 0) mNil)) mNil))) mNil))) mNil)) (hName 1) l_law_1) b_law_1
def f_law : MP := dfn 11 1 (fun _ => m_law)
abbrev sp_law (K : PySem.W.Frag) : Sp := up K f_law
def t_law (K : PySem.W.Frag) : TS :=
  (tSeq (tFor (iRng1 (tCons (tCB (rMaxA K) (tCons (tC (.int 2)) (tCons (tCB (rMinA K) (tCons (tC (.int 12)) (tCons (tCB (rLenB K) (tCons (tVar 0) tNil)) tNil))) tNil))) tNil)) (gName 1) (tSeq (tAsg (tCall (sp_law_box K) [] E0 (tCons (tCall (sp_law_cell K) [] E0 (tCons (tVar 0) (tCons (tVar 1) tNil))) tNil)) (gName 2))
    (tSeq (tAsg (tCall (sp_law_names K) [] E0 (tCons (tVar 2) (tCons (tC (.int 3)) tNil))) (gName 3))
    (tFor (iSeq K (tSl (rSlA K) (tCall (sp_law_mixed K) [] E0 (tCons (tVar 2) (tCons (tCallP [] 0 0 (sp_law_kinds K) (fun _ => E0) tNil tNil) tNil))) tNoPart (tPart (tC (.int 4))))) (gName 4) (tSeq (tAsg (tCall (sp_law_program K) [] E0 (tCons (tVar 2) (tCons (tVar 4) (tCons (tVar 3) tNil)))) (gName 5))
    (tSeq (tIfS ((tOr (tNot (tB (tCall (sp_is_program K) [] E0 (tCons (tVar 5) (tCons (tVar 4) tNil))))) (tNot (tB (tCall (sp_law_is_program K) [] E0 (tCons (tVar 5) (tCons (tVar 4) tNil))))))) (tRet (tC (.bl false))) tNext)
    (tSeq (tFor (iRng1 (tCons (tC (.int 4)) tNil)) (gName 6) (tSeq (tAsg (tCall (sp_law_bent K) [] E0 (tCons (tVar 2) (tCons (tVar 5) (tCons (tVar 3) tNil)))) (gName 7))
    (tCut (tIfS ((tAnd (tTest (tOp (rEqA K) (tVar 6) (tC (.int 3)))) (tTest (tOp (rNeA K) (tVar 7) (tLst tNil))))) (tAsg (tCall (sp_law_bent K) [] E0 (tCons (tVar 2) (tCons (tVar 7) (tCons (tVar 3) tNil)))) (gName 7)) tNext)
    (tFor (iSeq K (tLst (tCons (tVar 4) (tCons (tOp (rIxB K) (tCallP [] 0 0 (sp_law_kinds K) (fun _ => E0) tNil tNil) (tCall (sp_law_take K) [] E0 (tCons (tVar 2) (tCons (tC (.int 8)) tNil)))) tNil)))) (gName 8) (tSeq (tAsg (tCall (sp_is_program K) [] E0 (tCons (tVar 7) (tCons (tVar 8) tNil))) (gName 9))
    (tIfS ((tOr (tNot (tB (tCB (rIsi K) (tCons (tVar 9) (tCons (tC (.ty "bool")) tNil))))) (tTest (tOp (rNeA K) (tVar 9) (tCall (sp_law_is_program K) [] E0 (tCons (tVar 7) (tCons (tVar 8) tNil))))))) (tRet (tC (.bl false))) tNext))))))
    (tSeq (tAsg (tOp (rIxB K) (tLst (tCons (tC .non) (tCons (tC (.int 5)) (tCons (tC (.str "look")) (tCons (tTup tNil) (tCons (tCB (rTupA K) (tCons (tVar 5) tNil)) (tCons (tDNewK) (tCons (tLst tNil) (tCons (tLst (tCons (tC .non) tNil)) tNil))))))))) (tCall (sp_law_take K) [] E0 (tCons (tVar 2) (tCons (tC (.int 8)) tNil)))) (gName 10))
    (tIfS ((tOr (tB (tCall (sp_is_program K) [] E0 (tCons (tVar 10) (tCons (tVar 4) tNil)))) (tTest (tOp (rNeA K) (tCall (sp_law_told K) [] E0 (tCons (tVar 10) (tCons (tC (.str "")) tNil))) (tLst (tCons (tC (.str "kind")) (tCons (tC (.str "")) tNil))))))) (tRet (tC (.bl false))) tNext)))))))))
    (tRet (tC (.bl true))))
theorem c_law {K : PySem.W.Frag} : SS K (fun _ => t_law K) (fun _ => m_law) := by
  unfold t_law m_law b_law_1 l_law_1 b_law_L1_1 b_law_L1_2 l_law_2 b_law_L2_1 b_law_L2_2 b_law_L2_3 b_law_L2_4 l_law_3 b_law_L3_1 b_law_L3_2 l_law_4 b_law_L4_1
  exact (S_seq (S_for (I_rng1 (E_cons (E_cb C_max (E_cons (E_int 2) (E_cons (E_cb C_min (E_cons (E_int 12) (E_cons (E_cb C_len (E_cons (E_var 0) E_nil)) E_nil))) E_nil))) E_nil)) (G_name 1) (S_seq (S_asg (E_call f_law_box (E_cons (E_call f_law_cell (E_cons (E_var 0) (E_cons (E_var 1) E_nil))) E_nil)) (G_name 2))
    (S_seq (S_asg (E_call f_law_names (E_cons (E_var 2) (E_cons (E_int 3) E_nil))) (G_name 3))
    (S_for (I_seq (E_sl O_sl (E_call f_law_mixed (E_cons (E_var 2) (E_cons (E_callP [] 0 0 f_law_kinds E_nil E_nil) E_nil))) E_nopart (E_part (E_int 4)))) (G_name 4) (S_seq (S_asg (E_call f_law_program (E_cons (E_var 2) (E_cons (E_var 4) (E_cons (E_var 3) E_nil)))) (G_name 5))
    (S_seq (S_if ((E_or (E_not (E_B (E_call f_is_program (E_cons (E_var 5) (E_cons (E_var 4) E_nil))))) (E_not (E_B (E_call f_law_is_program (E_cons (E_var 5) (E_cons (E_var 4) E_nil))))))) (S_ret (E_bl false)) S_next)
    (S_seq (S_for (I_rng1 (E_cons (E_int 4) E_nil)) (G_name 6) (S_seq (S_asg (E_call f_law_bent (E_cons (E_var 2) (E_cons (E_var 5) (E_cons (E_var 3) E_nil)))) (G_name 7))
    (S_cut (S_if ((E_and (E_test (E_op O_eq (E_var 6) (E_int 3))) (E_test (E_op O_ne (E_var 7) (E_lst E_nil))))) (S_asg (E_call f_law_bent (E_cons (E_var 2) (E_cons (E_var 7) (E_cons (E_var 3) E_nil)))) (G_name 7)) S_next)
    (S_for (I_seq (E_lst (E_cons (E_var 4) (E_cons (E_op O_ix (E_callP [] 0 0 f_law_kinds E_nil E_nil) (E_call f_law_take (E_cons (E_var 2) (E_cons (E_int 8) E_nil)))) E_nil)))) (G_name 8) (S_seq (S_asg (E_call f_is_program (E_cons (E_var 7) (E_cons (E_var 8) E_nil))) (G_name 9))
    (S_if ((E_or (E_not (E_B (E_cb C_isi (E_cons (E_var 9) (E_cons (E_ty _) E_nil))))) (E_test (E_op O_ne (E_var 9) (E_call f_law_is_program (E_cons (E_var 7) (E_cons (E_var 8) E_nil))))))) (S_ret (E_bl false)) S_next))))))
    (S_seq (S_asg (E_op O_ix (E_lst (E_cons (E_non) (E_cons (E_int 5) (E_cons (E_str (by decide)) (E_cons (E_tup E_nil) (E_cons (E_cb C_tup (E_cons (E_var 5) E_nil)) (E_cons (E_dnew) (E_cons (E_lst E_nil) (E_cons (E_lst (E_cons (E_non) E_nil)) E_nil))))))))) (E_call f_law_take (E_cons (E_var 2) (E_cons (E_int 8) E_nil)))) (G_name 10))
    (S_if ((E_or (E_B (E_call f_is_program (E_cons (E_var 10) (E_cons (E_var 4) E_nil)))) (E_test (E_op O_ne (E_call f_law_told (E_cons (E_var 10) (E_cons (E_str (by decide)) E_nil))) (E_lst (E_cons (E_str (by decide)) (E_cons (E_str (by decide)) E_nil))))))) (S_ret (E_bl false)) S_next)))))))))
    (S_ret (E_bl true)))
theorem len_law (K : PySem.W.Frag) : ∀ vs H Q E, sp_law K vs H Q E → vs.length = (["script"] : List Str).length := fun _ _ _ _ h => up_len h
theorem pure_law (K : PySem.W.Frag) (vs : List V) (H : Hp) (Q : VK) (E : XK) (h : sp_law K vs H Q E) : t_law K { nx := fun _ H' => Q .non H', rt := Q } (start ["script", "k", "box", "modes", "kind", "program", "turn", "bent", "other", "told", "odd"] vs) H := up_run (tw := fun _ => t_law K) (c_law) (N := ["script", "k", "box", "modes", "kind", "program", "turn", "bent", "other", "told", "odd"]) rfl h

end Z

/-! simp sets over data: walk_at "m" reckons a reading, walk_at "m0" opens a def -/
section
open PySem PySem.Spec PyProof.Rows L2 Evl Z
end
open Z in
local macro_rules | `(tactic| walk_at "m") => `(tactic| simp only [Z.mSeq, Z.mIfS, Z.mRet, Z.mRetN, Z.mNext, Z.mDrop, Z.mAsg, Z.hName, Z.mVar, Z.mC, Z.mOp, Z.mOpR, Z.mOpL, Z.mNeg, Z.mNotV, Z.mAndV, Z.mOrV, Z.mChain, Z.mIf, Z.mB, Z.mNot, Z.mAnd, Z.mOr, Z.mYes, Z.mNil, Z.mCons, Z.mTup, Z.mLst, Z.mDNew,
  Z.mDisp, Z.mPairs, Z.keyD, Z.mSl, Z.mNoPart, Z.mPart, Z.mCB, Z.mBM, Z.mBM0, Z.mCall, Z.mCallS, Z.mCallP, Z.mCallPS, Z.mCell, Z.mPar, Z.mPar3, Z.mAny, Z.mEnum, Z.mStar, Z.nCount, Z.nIndex, Z.mRng1, Z.mRng2, Z.mLc, Z.wipeD, Z.mFor, Z.hTup, Z.hCons, Z.hNil, Z.hStar, Z.hSub, Z.mXf, Z.unbD, Z.bndD, List.lookup_cons, List.lookup_nil, Z.mRaise, Z.mTry,
  Z.nAdd, Z.nSub, Z.nMul, Z.nDiv, Z.nMod, Z.nPow, Z.nEq, Z.nNe, Z.nLt, Z.nLe, Z.nGt, Z.nGe, Z.nIs, Z.nIsnt, Z.nIn, Z.nNin, Z.nInR, Z.nIx, Z.nSl, Z.nIsi, Z.nLen, Z.nMax, Z.nMin, Z.nAll, Z.nAny, Z.nList, Z.nTupC, Z.nInt, Z.nStr, Z.nJoin, Z.nAppend, Z.nExtend, Z.nInsert, Z.nPop, Z.nGet, Z.nInK, Z.nNinK, Z.nIxK, Z.nSet,
  Z.pd, Z.pdL, Z.plD, Z.plL, Z.dpD, Z.dpL, Z.eqD, Z.eqL, Nat.max_self, Nat.zero_max, Nat.max_zero, decide_eq_true_eq, Bool.or_false, Bool.and_true, Bool.true_and, Bool.and_false, Bool.false_and, Z.tyB, Z.tyTs, List.mem_cons, List.not_mem_nil, or_false, false_or, or_true, true_or, Bool.or_true, Bool.true_or, Bool.false_or, Bool.not_eq_true', decide_eq_false_iff_not, String.reduceBEq, String.reduceEq, beq_self_eq_true, Z.natc_0, Z.natc_1, Z.natc_2, Z.natc_3, Z.natc_4, Z.natc_5, Z.natc_6, Z.natc_7, Z.natc_8, Z.natc_9, Z.natc_10, Z.natc_11, Z.natc_12, Z.natc_13, Z.natc_14, Z.natc_15, Z.natc_16, List.map_cons, List.map_nil, Z.chS, Z.get_last, Z.set_last, List.getD_eq_getElem?_getD, Option.getD_some, Option.getD_none, Z.ixN_0, Z.ixN_1, Z.ixN_2, Z.atI_0, Z.atI_1, Z.atI_2, Z.atI_3, Z.atI_4, Z.atI_m1, Z.look_non, Z.look_bl, Z.look_int, Z.look_str, Z.look_tup, Z.look_lst, Z.look_dct, Z.look_obj, Z.look_ty, Z.look_gl, Z.look_exv, Z.lookE_non, Z.lookE_bl, Z.lookE_int, Z.lookE_str, Z.lookE_tup, Z.lookE_lst, Z.lookE_dct, Z.lookE_obj, Z.lookE_ty, Z.lookE_gl, Z.lookE_exv, Z.look_cell, Z.lookE_cell, Z.look_kl, Z.look_kt, Z.tyDa_non, Z.tyDa_bl, Z.tyDa_int, Z.tyDa_str, Z.tyDa_tup, Z.tyDa_lst, Z.tyDa_dct, Z.tyDa_kt, Z.tyDa_cell, Z.nonD_non, Z.nonD_bl, Z.nonD_int, Z.nonD_str, Z.nonD_tup, Z.nonD_lst, Z.nonD_dct, Z.nonD_obj, Z.nonD_ty, Z.nonD_gl, Z.nonD_exv, Z.seqD, Z.itD, Z.cellL, Z.okM_list, Z.okM_str, Z.okM_dict, Z.okS_str, Z.okLs, Z.okDc, Z.perm,
  List.getElem?_cons_zero, List.getElem?_cons_succ, List.set_cons_zero, List.set_cons_succ, List.getD_cons_zero, List.getD_cons_succ, List.length_cons, List.length_nil, List.cons_append, List.nil_append, List.filterMap_cons, List.filterMap_nil,
  if_true, if_false, Bool.false_eq_true, and_true, true_and, Nat.reduceAdd, Nat.reduceLeDiff, Int.reduceEq, Int.reduceLT, Int.reduceLE, Int.reduceAdd, Int.reduceSub, Int.reduceMul, Int.reduceNeg, Int.reduceMod, Int.reduceDiv, Nat.reduceEqDiff, Nat.reduceSub, not_true_eq_false, not_false_eq_true, Option.some.injEq, reduceCtorEq, List.cons.injEq, exists_eq_left, exists_eq_left', Bool.not_true, Bool.not_false])
open Z in
local macro_rules | `(tactic| walk_at "m1") => `(tactic| simp only [Z.dfn, Z.startD, List.map_cons, List.map_nil, List.length_cons, List.length_nil, Nat.reduceAdd, Nat.reduceSub, List.replicate_succ, List.replicate_zero, List.cons_append, List.nil_append, List.append_nil, true_and, and_true])
open Z in
local macro_rules | `(tactic| walk_at "m0") => `(tactic| (walk_at "m1"; refine fun _ _ => ?_))

open Z in
local macro_rules | `(tactic| walk_at "in") => `(tactic| simp only [Z.anyEq, List.any_cons, List.any_nil, Z.eqD, Z.eqL, Bool.or_false, Bool.and_true, Bool.true_and, Bool.and_false, Bool.false_and, Bool.or_eq_true, Bool.and_eq_true, decide_eq_true_eq, Bool.or_eq_false_iff, decide_eq_false_iff_not, not_or])

namespace Z
open PySem PySem.Spec PyProof.Rows L2 Evl
theorem cell_ok {ns : List Int} {k : Int} {M : Mem} {Q : TK} {E : XD} (h0 : 0 ≤ k) (h1 : k < 1000) (q : ∀ n : Int, Q (.int n) M) : f_law_cell [.kl (ns.map Da.int), .int k] M Q E := by
  unfold f_law_cell m_law_cell
  walk_at "m0"
  walk_at "m"
  rw [List.length_map]
  by_cases c : k < (ns.length : Int)
  · rw [if_pos (by simpa using c)]
    obtain ⟨d, hd, e⟩ := atI_mem (xs := ns.map Da.int) h0 (by rw [List.length_map]; exact c)
    obtain ⟨n, _, rfl⟩ := List.mem_map.1 hd
    rw [e]
    exact leave_same (q n)
  · rw [if_neg (by simpa using c)]
    exact ⟨wide_mul (a := 13) (b := 10) (by decide) (by omega) (by decide) (by decide) (by decide), leave_same (q _)⟩
theorem box_ok {n : Int} {M : Mem} {Q : TK} {E : XD} (q : ∀ b, BoxD 0 b → Q (.cell M.length) (M ++ [b])) : f_law_box [.int n] M Q E := by
  unfold f_law_box m_law_box
  walk_at "m0"
  walk_at "m"
  refine ⟨⟨by decide, by decide, by decide⟩, leave_same (q _ ⟨_, _, _, rfl, Int.emod_nonneg _ (by decide), Int.lt_trans (Int.emod_lt_of_pos _ (by decide)) (by decide), Int.le_refl _, Int.le_refl _⟩)⟩
theorem take_ok {m : Int} {n : Nat} {b : Da} {R : Mem} {Q : TK} {E : XD} (B : BoxD n b) (hn : n < 4294967296) (hm : 0 < m) (hl : m.natAbs.log2 < 9000)
    (k : ∀ (d : Int) (b' : Da), BoxD (n + 1) b' → 0 ≤ d → d < m → Q (.int d) (b' :: R)) : f_law_take [.cell 0, .int m] (b :: R) Q E := by
  obtain ⟨a, b, c, rfl, hb0, hb1, hc0, hc1⟩ := B
  unfold f_law_take m_law_take
  walk_at "m0"
  walk_at "m"
  refine ite2 (fun ca => ?_) (fun ca => ?_)
  · refine ⟨hm, ⟨hm, hl⟩, leave_same (k _ _ ⟨_, _, _, rfl, hb0, hb1, hc0, ?_⟩ (Int.emod_nonneg _ (by omega)) (Int.emod_lt_of_pos _ hm))⟩
    omega
  · have q0 : 0 ≤ (b + 7919 * (c + 1) + 43) ^ (5 : Int).toNat % 2147483647 := Int.emod_nonneg _ (by decide)
    have q1 : (b + 7919 * (c + 1) + 43) ^ (5 : Int).toNat % 2147483647 < 2147483647 := Int.emod_lt_of_pos _ (by decide)
    refine ⟨wide_mul (a := 13) (b := 34) (by decide) (by omega) (by decide) (by decide) (by decide), ⟨by decide, by decide, by omega⟩, wide_mul (a := 17) (b := 34) (by decide) (by omega) (by decide) (by decide) (by decide), ?_⟩
    generalize (b + 7919 * (c + 1) + 43) ^ (5 : Int).toNat % 2147483647 = u at q0 q1 ⊢
    exact ⟨⟨by decide, by decide, by omega⟩, ⟨by decide, by decide⟩, hm, leave_same (k _ _ ⟨_, _, _, rfl, hb0, hb1, by omega, by omega⟩ (Int.emod_nonneg _ (by omega)) (Int.emod_lt_of_pos _ hm))⟩
end Z

/-! the law's draws: mixed lists, names (behind the law's readings) -/
namespace Z
open PySem PySem.Spec PyProof.Rows L2 Evl
theorem mixed_ok {n : Nat} {b : Da} {R : Mem} {Q : TK} {E : XD} {xs : List Da} (B : BoxD n b) (hn : n ≤ 1000000000) (hx : xs.length ≤ 1000) (px : cloL (R.length + 1) xs = true)
    (k : ∀ (ys : List Da) (b' : Da), BoxD (n + xs.length) b' → ys.Perm xs → Q (.lst ys) (b' :: R)) : f_law_mixed [.cell 0, .lst xs] (b :: R) Q E := by
  unfold f_law_mixed m_law_mixed
  walk_at "m1"
  intro cM cD
  walk_at "m"
  refine ⟨by omega, by omega, by rw [rngD_len]; omega, ?_⟩
  have go : ∀ (is left acc : List Da) (b : Da) (c : Nat), is.length = left.length → c + left.length ≤ xs.length → BoxD (n + c) b → (acc ++ left).Perm xs →
      lcL (fun _ => True) (hName 3) mYes (mBM "list" nPop (mVar 2) (mCons (mCall f_law_take (mCons (mVar 0) (mCons (mCB nLen (mCons (mVar 2) mNil)) mNil))) mNil)) [3] [some (Da.cell 0), some (Da.lst xs), some (Da.cell (List.length R + 1)), none] is acc (b :: (R ++ [Da.lst left])) (leave (List.length R + 1) Q) := by
    intro is
    induction is with
    | nil =>
      intro left acc b c h1 h2 B pm
      have hl : left = [] := List.length_eq_zero_iff.1 h1.symm
      subst hl
      rw [List.append_nil] at pm
      show leave _ Q (.lst acc) _
      refine leave_box B cM (frz_clo ?_) (k acc b (B.mono (by simp at h2; omega)) pm)
      unfold cloD
      rw [cloL_all] at px ⊢
      exact fun d hd => px d (pm.mem_iff.1 hd)
    | cons i is ih =>
      intro left acc b c h1 h2 B pm
      have hl : 0 < left.length := by rw [← h1]; simp
      unfold lcL
      walk_at "m"
      refine ⟨⟨left, rfl⟩, take_ok B (by omega) (by omega) (log_nat (by omega)) fun d b' B' d0 d1 => ?_⟩
      have hd : d.toNat < left.length := by omega
      walk_at "m"
      refine ⟨by omega, by omega, d.toNat, left[d.toNat], seqI d0 d1, by simp [hd], ?_⟩
      refine ih (left.eraseIdx d.toNat) (acc ++ [left[d.toNat]]) b' (c + 1) ?_ ?_ B' ?_
      · rw [List.length_eraseIdx_of_lt hd]
        rw [List.length_cons] at h1
        omega
      · rw [List.length_eraseIdx_of_lt hd]
        omega
      · refine List.Perm.trans ?_ pm
        rw [List.append_assoc]
        exact List.Perm.append_left acc (perm_erase hd)
  exact go _ xs [] b 0 (by rw [rngD_len]; omega) (by omega) B (by simp)
theorem mem13 : ∀ z ∈ (["begin", "empty", "rest", "step", "end", "look", "old", "new", "put", "part", "move", "split", "lock"] : List Str), nmS z = true := by decide +kernel
theorem nd13 : (["begin", "empty", "rest", "step", "end", "look", "old", "new", "put", "part", "move", "split", "lock"] : List Str).Nodup := by decide +kernel
theorem cutL_take {α : Type} (xs : List α) {m : Int} (h : 0 ≤ m) : cutL xs none (some m) = xs.take m.toNat := by
  have e1 : HT.sIx xs.length 0 none = 0 := rfl
  have e2 : HT.sIx xs.length xs.length (some m) = min m.toNat xs.length := by
    unfold HT.sIx
    show (if m < 0 then _ else _) = _
    rw [if_neg (by omega)]
  unfold cutL
  rw [e1, e2, List.drop_zero, Nat.sub_zero]
  rcases Nat.le_total m.toNat xs.length with q | q
  · rw [Nat.min_eq_left q]
  · rw [Nat.min_eq_right q, List.take_length, List.take_of_length_le q]
def strO : Da → Option Str
  | .str z => some z
  | _ => none
theorem strs_of_perm {ys : List Da} {zs : List Str} (p : ys.Perm (zs.map Da.str)) : ∃ ws : List Str, ys = ws.map Da.str ∧ ws.Perm zs := by
  refine ⟨ys.filterMap strO, ?_, ?_⟩
  · have h : ∀ d ∈ ys, ∃ z, d = Da.str z := fun d hd => by
      obtain ⟨z, _, e⟩ := List.mem_map.1 (p.mem_iff.1 hd)
      exact ⟨z, e.symm⟩
    clear p
    induction ys with
    | nil => rfl
    | cons y ys ih =>
      obtain ⟨z, rfl⟩ := h y (List.mem_cons_self ..)
      have e := ih fun d hd => h d (List.mem_cons_of_mem _ hd)
      show _ = Da.str z :: (ys.filterMap strO).map Da.str
      rw [← e]
  · have q := p.filterMap strO
    rw [List.filterMap_map] at q
    have e : zs.filterMap (strO ∘ Da.str) = zs := by
      induction zs with
      | nil => rfl
      | cons z zs ih =>
        clear q p
        induction (z :: zs) with
        | nil => rfl
        | cons a l ih2 => rw [List.filterMap_cons]; show a :: _ = _; rw [ih2]
    rw [e] at q
    exact q
theorem nms_len {z : Str} (h : nmS z = true) : z.length ≤ 8 := by
  simp only [nmS, Bool.and_eq_true, decide_eq_true_eq] at h
  exact h.2.2.1
theorem names_ok {n : Nat} {b : Da} {R : Mem} {Q : TK} {E : XD} {m : Int} (B : BoxD n b) (hn : n ≤ 1000000) (hm0 : 0 ≤ m) (hm1 : m ≤ 13)
    (k : ∀ (zs : List Str) (b' : Da), BoxD (n + 20) b' → (zs.length : Int) = m → zs.Nodup → (∀ z ∈ zs, nmS z = true) → Q (.lst (zs.map Da.str)) (b' :: R)) : f_law_names [.cell 0, .int m] (b :: R) Q E := by
  unfold f_law_names m_law_names
  walk_at "m1"
  intro cM cD
  walk_at "m"
  refine take_ok B (by omega) (by decide) (by decide +kernel) fun d0 b1 B1 e0 e1 => ?_
  walk_at "m"
  refine ite2 (fun c => ?_) (fun c => ?_)
  · refine mixed_ok (xs := (["begin", "empty", "rest", "step", "end", "look", "old", "new", "put", "part", "move", "split", "lock"] : List Str).map Da.str) B1 (by omega) (by decide) (by rfl) fun ys b2 B2 pm => ?_
    obtain ⟨ws, rfl, pw⟩ := strs_of_perm pm
    walk_at "m"
    rw [cutL_take _ hm0, ← List.map_take]
    have hl : ws.length = 13 := pw.length_eq
    refine leave_same (k _ b2 (B2.mono (by simp)) (by rw [List.length_take]; omega) ?_ fun z hz => mem13 z (pw.mem_iff.1 (List.mem_of_mem_take hz)))
    exact (pw.nodup_iff.2 nd13).sublist (List.take_sublist _ _)
  · refine take_ok B1 (by omega) (by decide) (by decide +kernel) fun d1 b2 B2 f0 f1 => ?_
    obtain ⟨stem, hs0, e⟩ := atI_mem (xs := stems.map Da.str) f0 f1
    obtain ⟨stem, hs, rfl⟩ := List.mem_map.1 hs0
    have e : atI [Da.str "", Da.str "a", Da.str "tabl", Da.str "rest", Da.str "part", Da.str "zzzzzzz"] d1 = some (Da.str stem) := e
    walk_at "m"
    rw [e]
    refine take_ok B2 (by omega) (by decide) (by decide +kernel) fun d2 b3 B3 g0 g1 => ?_
    refine take_ok B3 (by omega) (by decide) (by decide +kernel) fun d3 b4 B4 h0 h1 => ?_
    obtain ⟨st, hst0, e⟩ := atI_mem (xs := ([1, 3, 5, 7, 9, 11] : List Int).map Da.int) h0 h1
    obtain ⟨st, hst, rfl⟩ := List.mem_map.1 hst0
    have e : atI [Da.int 1, Da.int 3, Da.int 5, Da.int 7, Da.int 9, Da.int 11] d3 = some (Da.int st) := e
    walk_at "m"
    rw [e]
    refine take_ok B4 (by omega) (by decide) (by decide +kernel) fun way b5 B5 i0 i1 => ?_
    refine ⟨by omega, by omega, ?_⟩
    have hS : st.toNat ∈ [1, 3, 5, 7, 9, 11] ∧ (st.toNat : Int) = st := by
      simp only [List.mem_cons, List.not_mem_nil, or_false] at hst
      rcases hst with rfl | rfl | rfl | rfl | rfl | rfl <;> exact ⟨by decide, rfl⟩
    have hsb : 0 ≤ st ∧ st ≤ 11 := by
      simp only [List.mem_cons, List.not_mem_nil, or_false] at hst
      rcases hst with rfl | rfl | rfl | rfl | rfl | rfl <;> exact ⟨by decide, by decide⟩
    refine forL_ind (fun k ρ M => ∃ s9 s10 s11 : Option Da, ρ = [some (Da.cell 0), some (Da.int m), some (Da.str "abcdefghijklmnopqrstuvwxyz"), none, some (Da.str stem), some (Da.int d2), some (Da.int st), some (Da.int way), some (Da.cell (R.length + 1)), s9, s10, s11] ∧
      M = b5 :: (R ++ [.lst (((List.range k).map fun k => nameK stem d2.toNat st.toNat way.toNat k).map Da.str)])) ⟨_, _, _, rfl, rfl⟩ ?_ ?_
    · rintro k d _ _ ek ⟨s9, s10, s11, rfl, rfl⟩ C hC
      obtain ⟨hk, rfl⟩ := rngD_at ek
      have hi : (d2 + st * (0 + (k : Int))) % 26 = (((d2.toNat + st.toNat * k) % 26 : Nat) : Int) := by
        have h2 : (d2.toNat : Int) = d2 := by omega
        rw [Int.natCast_emod, Int.natCast_add, Int.natCast_mul, h2, hS.2, Int.zero_add]
        rfl
      have ec : atI ("abcdefghijklmnopqrstuvwxyz" : Str).cps.toList ((d2 + st * (0 + (k : Int))) % 26) = some (lett ((d2.toNat + st.toNat * k) % 26)) := by
        have hl : (d2.toNat + st.toNat * k) % 26 < letters.length := Nat.mod_lt _ (by decide)
        rw [hi, atI_nat']
        show letters[_]? = _
        unfold lett
        rw [List.getElem?_eq_getElem hl, List.getD_eq_getElem?_getD, List.getElem?_eq_getElem hl]
        rfl
      have ml : CMulW st (0 + (k : Int)) := wide_mul (a := 4) (b := 4) (by omega) (by omega) (by decide) (by decide) (by decide)
      walk_at "m"
      rw [ec]
      walk_at "m"
      have hL : (List.map Da.str (List.map (fun k => nameK stem d2.toNat st.toNat way.toNat k) (List.range k))).length < sizeLine := by
        rw [List.length_map, List.length_map, List.length_range, sizeLine_eq]
        omega
      have hsl : stem.length ≤ 8 := by
        simp only [stems, List.mem_cons, List.not_mem_nil, or_false] at hs
        rcases hs with rfl | rfl | rfl | rfl | rfl | rfl <;> decide
      have h1 : ({ cps := #[lett ((d2.toNat + st.toNat * k) % 26)] } : Str).length = 1 := rfl
      have fin : ∀ nm : Str, fixS nm = nameK stem d2.toNat st.toNat way.toNat k → ∀ s10 : Option Da, if nm = ("table" : Str) then
          (List.map Da.str (List.map (fun k => nameK stem d2.toNat st.toNat way.toNat k) (List.range k))).length < sizeLine ∧
            C [some (Da.cell 0), some (Da.int m), some (Da.str "abcdefghijklmnopqrstuvwxyz"), none, some (Da.str stem), some (Da.int d2), some (Da.int st), some (Da.int way), some (Da.cell (List.length R + 1)), some (Da.int (0 + (k : Int))), s10, some (Da.str nm)]
              (b5 :: (R ++ [Da.lst (List.map Da.str (List.map (fun k => nameK stem d2.toNat st.toNat way.toNat k) (List.range k)) ++ [Da.str "tables"])]))
          else (List.map Da.str (List.map (fun k => nameK stem d2.toNat st.toNat way.toNat k) (List.range k))).length < sizeLine ∧
            C [some (Da.cell 0), some (Da.int m), some (Da.str "abcdefghijklmnopqrstuvwxyz"), none, some (Da.str stem), some (Da.int d2), some (Da.int st), some (Da.int way), some (Da.cell (List.length R + 1)), some (Da.int (0 + (k : Int))), s10, some (Da.str nm)]
              (b5 :: (R ++ [Da.lst (List.map Da.str (List.map (fun k => nameK stem d2.toNat st.toNat way.toNat k) (List.range k)) ++ [Da.str nm])])) := by
        intro nm e s10
        have end_ : List.map Da.str (List.map (fun k => nameK stem d2.toNat st.toNat way.toNat k) (List.range (k + 1))) = List.map Da.str (List.map (fun k => nameK stem d2.toNat st.toNat way.toNat k) (List.range k)) ++ [Da.str (fixS nm)] := by
          rw [List.range_succ, List.map_append, List.map_append, e]
          rfl
        by_cases q : nm = ("table" : Str)
        · rw [if_pos q]
          refine ⟨hL, hC _ _ _ _ .same trivial ⟨_, _, _, rfl, ?_⟩⟩
          rw [end_, fixS, if_pos q]
        · rw [if_neg q]
          refine ⟨hL, hC _ _ _ _ .same trivial ⟨_, _, _, rfl, ?_⟩⟩
          rw [end_, fixS, if_neg q]
      refine ⟨ml, by rw [h1, sizeLine_eq]; omega, by rw [h1, sizeLine_eq]; omega, ite2 (fun ck => ?_) (fun ck => ?_)⟩
      · have k0 : k ≠ 0 := by omega
        have hw : way = 0 ∨ way = 1 ∨ way = 2 := by omega
        have e : ∀ w : Nat, nameK stem d2.toNat st.toNat w k = formS stem (lett ((d2.toNat + st.toNat * k) % 26)) w := fun w => by
          unfold nameK
          rw [if_neg k0]
        rcases hw with rfl | rfl | rfl
        · walk_at "m"
          exact ⟨⟨_, rfl⟩, fin _ (e 0).symm _⟩
        · walk_at "m"
          exact ⟨⟨_, rfl⟩, fin _ (e 1).symm _⟩
        · walk_at "m"
          exact ⟨⟨_, rfl⟩, fin _ (e 2).symm _⟩
      · have k0 : k = 0 := by omega
        refine ⟨⟨_, rfl⟩, fin _ ?_ _⟩
        unfold nameK
        rw [if_pos k0]
        rfl
    · rintro _ _ ⟨s9, s10, s11, rfl, rfl⟩
      rw [rngD_len]
      walk_at "m"
      refine leave_box B5 cM (d' := .lst (((List.range m.toNat).map fun k => nameK stem d2.toNat st.toNat way.toNat k).map Da.str)) ?_ (k _ b5 (B5.mono (by omega)) ?_ ?_ ?_)
      · exact frz_cell (by simp) (Nat.le_refl _) (clo_strs _ _)
      · rw [List.length_map, List.length_range]
        omega
      · refine names_nodup hs (by omega) hS.1 (by omega) _ (by omega)
      · intro z hz
        obtain ⟨j, _, rfl⟩ := List.mem_map.1 hz
        exact nameK_ok hs (by omega) j
end Z

namespace Z
open PySem PySem.Spec PyProof.Rows L2 Evl
def nmD : Da → Bool
  | .str z => nmS z
  | _ => false
theorem inS_ch (c : Nat) (z : Str) : inS ⟨#[c]⟩ z = decide (c ∈ z.cps.toList) := rfl
theorem filter_true {α : Type} (xs : List α) : xs.filter (fun _ => true) = xs := List.filter_eq_self.mpr fun _ _ => rfl
theorem len_cps (z : Str) : z.cps.toList.length = z.length := Array.length_toList
/-- a test over the signs of a text -/
theorem signs_all {z : Str} (P : Nat → Bool) : ((z.cps.toList.map chS).map fun d => match d with | .str s => (match s.cps.toList with | [c] => Da.bl (P c) | _ => .non) | _ => .non) = (z.cps.toList.map P).map Da.bl := by
  simp [List.map_map, Function.comp_def, chS]
theorem is_name_ok {d : Da} {M : Mem} {Q : TK} {E : XD} (h : pdd d = true) (q : Q (.bl (nmD d)) M) : f_is_name [d] M Q E := by
  unfold f_is_name m_is_name
  walk_at "m0"
  cases d with
  | str z =>
    walk_at "m"
    refine ite2 (fun c => leave_same ?_) (fun c => ?_)
    · have e : nmD (.str z) = false := by simp [nmD, nmS, c]
      rw [e] at q
      exact q
    · refine ite2 (fun c1 => ?_) (fun c1 => leave_same ?_)
      · refine ite2 (fun c2 => leave_same ?_) (fun c2 => ?_)
        · have e : nmD (.str z) = false := by
            have : ¬ z.length ≤ 8 := by omega
            simp [nmD, nmS, this]
          rw [e] at q
          exact q
        · refine ⟨by rw [List.length_map, len_cps]; omega, ?_⟩
          refine lcL_pure (fun _ => true) (fun d => match d with | .str s => (match s.cps.toList with | [c] => Da.bl (decide (c ∈ letters)) | _ => .non) | _ => .non) (fun d hd R r => r) (fun d hd _ R r => ?_) trivial ?_
          · obtain ⟨c, _, rfl⟩ := List.mem_map.1 hd
            walk_at "m"
            exact r
          · rw [filter_true, signs_all]
            walk_at "m"
            rw [blsD_map]
            refine leave_same ?_
            have e : nmD (.str z) = (z.cps.toList.map fun c => decide (c ∈ letters)).all id := by
              have h1 : 1 ≤ z.length := by omega
              have h2 : z.length ≤ 8 := by omega
              simp [nmD, nmS, c, h1, h2, List.all_map, Function.comp_def]
            rw [← e]
            exact q
      · have e : nmD (.str z) = false := by
          have : ¬ 1 ≤ z.length := by omega
          simp [nmD, nmS, this]
        rw [e] at q
        exact q
  | ty _ => cases h
  | gl _ => cases h
  | obj _ _ => cases h
  | kl _ => cases h
  | kt _ => cases h
  | cell _ => cases h
  | exv _ _ _ _ => cases h
  | _ =>
    walk_at "m"
    exact leave_same q
theorem all_filter {α β : Type} (P : α → Bool) (f : α → β) (l : List α) : l.all P = (List.map f (l.filter fun c => !P c)).isEmpty := by
  induction l with
  | nil => rfl
  | cons a l ih =>
    rw [List.all_cons, ih, List.filter_cons]
    cases P a <;> rfl
theorem law_is_name_ok {d : Da} {M : Mem} {Q : TK} {E : XD} (h : pdd d = true) (q : Q (.bl (nmD d)) M) : f_law_is_name [d] M Q E := by
  unfold f_law_is_name m_law_is_name
  walk_at "m0"
  cases d with
  | str z =>
    have no : nmD (.str z) = false → Q (.bl false) M := fun e => by rw [e] at q; exact q
    walk_at "m"
    refine ite2 (fun c => leave_same (no (by simp [nmD, nmS, c]))) (fun c => ?_)
    refine ite2 (fun c1 => leave_same (no ?_)) (fun c1 => ?_)
    · have : ¬ 1 ≤ z.length := by omega
      simp [nmD, nmS, this]
    refine ite2 (fun c2 => leave_same (no ?_)) (fun c2 => ?_)
    · have : ¬ z.length ≤ 8 := by omega
      simp [nmD, nmS, this]
    refine ⟨by rw [List.length_map, len_cps]; omega, ?_⟩
    refine lcL_pure (fun d => match d with | .str s => (match s.cps.toList with | [c] => !decide (c ∈ letters) | _ => false) | _ => false) id (fun d hd R r => ?_) (fun d hd _ R r => ?_) trivial ?_
    · obtain ⟨c, _, rfl⟩ := List.mem_map.1 hd
      walk_at "m"
      exact r
    · obtain ⟨c, _, rfl⟩ := List.mem_map.1 hd
      walk_at "m"
      exact r
    · rw [List.map_id, List.filter_map]
      walk_at "m"
      rw [eqL_nil]
      refine ⟨⟨plL_map (fun _ => rfl) _, by rw [dpL_map (fun _ => rfl)]; omega⟩, leave_same ?_⟩
      have e : nmD (.str z) = (List.map chS (List.filter ((fun d => match d with | .str s => (match s.cps.toList with | [c] => !decide (c ∈ letters) | _ => false) | _ => false) ∘ chS) z.cps.toList)).isEmpty := by
        have h1 : 1 ≤ z.length := by omega
        have h2 : z.length ≤ 8 := by omega
        simp only [nmD, nmS, c, h1, h2, decide_true, decide_false, Bool.not_false, Bool.true_and]
        exact all_filter (fun c => decide (c ∈ letters)) chS _
      rw [← e]
      exact q
  | ty _ => cases h
  | gl _ => cases h
  | obj _ _ => cases h
  | kl _ => cases h
  | kt _ => cases h
  | cell _ => cases h
  | exv _ _ _ _ => cases h
  | _ =>
    walk_at "m"
    exact leave_same q
def kinds8 : List Str := ["put", "strike", "read", "direct", "hang", "take", "split", "join"]
theorem law_kinds_ok {M : Mem} {Q : TK} {E : XD} (q : Q (.lst (kinds8.map Da.str)) M) : f_law_kinds [] M Q E := by
  unfold f_law_kinds m_law_kinds
  walk_at "m0"
  walk_at "m"
  exact leave_same q
theorem anyEq_kinds {d : Da} (h : plD d = true) : anyEq d (kinds8.map Da.str) = true ↔ ∃ k ∈ kinds8, d = .str k := by
  unfold anyEq
  rw [List.any_map, List.any_eq_true]
  constructor
  · rintro ⟨k, hk, e⟩
    refine ⟨k, hk, ?_⟩
    cases d <;> first | (cases e; done) | skip
    have e2 : decide (k = _) = true := e
    rw [of_decide_eq_true e2]
  · rintro ⟨k, hk, rfl⟩
    exact ⟨k, hk, by show decide (k = k) = true; simp⟩
theorem kinds_tab : tab_KINDS = kinds8.map Da.str := rfl
theorem need_kind_ok {k : Str} {M : Mem} {Q : TK} {E : XD} (hk : k ∈ kinds8) (q : Q .non M) : f_need_kind [.str k] M Q E := by
  unfold f_need_kind m_need_kind
  walk_at "m0"
  walk_at "m"
  refine ⟨by decide, ?_⟩
  have e : anyEq (.str k) tab_KINDS = true := (anyEq_kinds rfl).2 ⟨k, hk, rfl⟩
  rw [e]
  exact leave_same q
theorem need_kind_no {d : Da} {M : Mem} {Q : TK} {E : XD} (hp : plD d = true) (hd : dpD d ≤ 30) (hk : ∀ k ∈ kinds8, d ≠ .str k) (q : E "NoProgram" [("kind", d)] M) : f_need_kind [d] M Q E := by
  unfold f_need_kind m_need_kind
  walk_at "m0"
  walk_at "m"
  rw [lookE_pl hp]
  refine ⟨by decide, ⟨hp, by omega⟩, ?_⟩
  have e : anyEq d tab_KINDS = false := by
    cases c : anyEq d tab_KINDS with
    | false => rfl
    | true =>
      obtain ⟨k, h1, h2⟩ := (anyEq_kinds hp).1 c
      exact absurd h2 (hk k h1)
  rw [e]
  exact leaveX_same q
def has1 (z k : Str) : Bool := match tabD tab_PLAIN_STEPS z with
  | some ds => anyEq (.str k) ds
  | none => false
def has2 (z a k : Str) : Bool := decide (z = "scan") && (decide (k = "hang") && (decide (a = "new") || decide (a = "rest")))
def has3 (z a m k : Str) : Bool := decide (z = "lock") && match tabD tab_LOCKED a with
  | some ds => anyEq (.str k) ds && nmS m
  | none => false
def stepD (k : Str) : Da → Bool
  | .tup [.str z] => has1 z k
  | .tup [.str z, .str a] => has2 z a k
  | .tup [.str z, .str a, .str m] => has3 z a m k
  | _ => false
theorem stepD_no {k : Str} {ds : List Da} (h : ds.all strD = false) : stepD k (.tup ds) = false := by
  unfold stepD
  split
  · rename_i e; cases e; cases h
  · rename_i e; cases e; cases h
  · rename_i e; cases e; cases h
  · rfl
def lenOk : Da → Prop
  | .tup ds => ds.length ≤ 1000 ∧ dpL ds ≤ 30
  | _ => True
theorem all_isstr {ds : List Da} (h : plL ds = true) {still : Mem → Prop} {i : Nat} {ρ : Sl} {M : Mem} {Q : TK} (hi : i < ρ.length) (hS : still M) (q : Q (.lst ((ds.map strD).map Da.bl)) M) :
    lcL still (hName i) mYes (mCB nIsi (mCons (mVar i) (mCons (mC (.ty "str")) mNil))) [i] ρ ds [] M Q := by
  refine lcL_pure (fun _ => true) (fun d => .bl (strD d)) (fun d hd R r => r) (fun d hd _ R r => ?_) hS ?_
  · have hp := plL_mem h d hd
    have e : ((wipeD ρ [i]).set i (some d))[i]? = some (some d) := by
      rw [List.getElem?_set_self]
      show i < (ρ.set i none).length
      rw [List.length_set]
      exact hi
    simp only [mCB, mCons, mVar, e, mC, mNil, nIsi, tyDa_pl hp]
    refine ⟨by decide, ?_⟩
    rw [tyB_str hp]
    exact r
  · rw [filter_true]
    rw [List.map_map] at q
    exact q
theorem tab_pd : ∀ {z : Str} {ds : List Da}, (z, ds) ∈ tab_PLAIN_STEPS → plL ds = true ∧ dpL ds ≤ 59 := by
  have h : ∀ p ∈ tab_PLAIN_STEPS, plL p.2 = true ∧ dpL p.2 ≤ 59 := by decide +kernel
  exact fun {_ _} h2 => h _ h2
theorem tab_ld : ∀ {z : Str} {ds : List Da}, (z, ds) ∈ tab_LOCKED → plL ds = true ∧ dpL ds ≤ 59 := by
  have h : ∀ p ∈ tab_LOCKED, plL p.2 = true ∧ dpL p.2 ≤ 59 := by decide +kernel
  exact fun {_ _} h2 => h _ h2
theorem has_step_ok {d : Da} {k : Str} {M : Mem} {Q : TK} {E : XD} (hp : pdd d = true) (hl : lenOk d) (q : Q (.bl (stepD k d)) M) : f_has_step [d, .str k] M Q E := by
  unfold f_has_step m_has_step
  walk_at "m0"
  cases d with
  | tup ds =>
    have hl : ds.length ≤ 1000 := hl.1
    have hp : plL ds = true := hp
    refine seq_hide fun N hN => ?_
    walk_at "m"
    by_cases c0 : (ds.length : Int) = 0
    · rw [if_pos c0]
      have e : ds = [] := List.length_eq_zero_iff.1 (by omega)
      subst e
      exact leave_same q
    · rw [if_neg c0]
      refine ⟨by omega, all_isstr hp (by simp) trivial ?_⟩
      walk_at "m"
      rw [blsD_map]
      walk_at "m"
      cases c : (ds.map strD).all id with
      | false =>
        have c2 : ds.all strD = false := by rw [← c]; simp [List.all_map]
        rw [stepD_no c2] at q
        exact leave_same q
      | true =>
        obtain ⟨zs, rfl⟩ := strs_of (ds := ds) (by rw [← c]; simp [List.all_map])
        refine hN _ _ ?_
        match zs, c0, q with
        | [], c0, _ => exact absurd rfl c0
        | [z], _, q =>
          walk_at "m"
          have q : Q (.bl (has1 z k)) M := q
          unfold has1 at q
          cases e : tabD tab_PLAIN_STEPS z with
          | none => rw [e] at q; exact leave_same q
          | some ds => rw [e] at q; exact ⟨tab_pd (tabD_some e), leave_same q⟩
        | [z, a], _, q =>
          have q : Q (.bl (has2 z a k)) M := q
          unfold has2 at q
          walk_at "m"
          by_cases c1 : z = "scan"
          · rw [if_pos c1]
            by_cases c2 : k = "hang"
            · rw [if_pos c2]
              refine leave_same (q_bd q ?_)
              have h := anyEq_strs a ["new", "rest"]
              rw [show ([Da.str "new", Da.str "rest"] : List Da) = (["new", "rest"] : List Str).map Da.str from rfl, h]
              simp [c1, c2]
            · rw [if_neg c2]
              exact leave_same (q_bd q (by simp [c2]))
          · rw [if_neg c1]
            have q' : Q (.bl false) M := q_bd q (by simp [c1])
            split <;> exact leave_same q'
        | [z, a, m], _, q =>
          have q : Q (.bl (has3 z a m k)) M := q
          unfold has3 at q
          walk_at "m"
          by_cases c1 : z = "scan"
          · rw [if_pos c1]
            have c0 : ¬ z = "lock" := by rw [c1]; decide
            have q' : Q (.bl false) M := q_bd q (by simp [c0])
            split <;> exact leave_same q'
          · rw [if_neg c1]
            by_cases c2 : z = "lock"
            · rw [if_neg (fun h => h c2)]
              rw [decide_eq_true c2, Bool.true_and] at q
              cases e : tabD tab_LOCKED a with
              | none => rw [e] at q; exact leave_same q
              | some ds =>
                rw [e] at q
                rw [if_neg (by simp)]
                refine ⟨tab_ld (tabD_some e), ?_⟩
                cases c3 : anyEq (.str k) ds with
                | true =>
                  refine iteT (is_name_ok rfl (leave_same (q_bd q ?_)))
                  simp [c3, nmD]
                | false =>
                  refine iteF (leave_same (q_bd q ?_))
                  simp [c3]
            · rw [if_pos c2]
              exact leave_same (q_bd q (by simp [c2]))
        | z :: a :: m :: b :: r, _, q =>
          have q : Q (.bl false) M := q
          walk_at "m"
          rw [if_neg (by omega), if_neg (c := ((((List.map Da.str r).length + 1 + 1 + 1 + 1 : Nat) : Int) = 2)) (by omega), if_pos (c := ¬ ((((List.map Da.str r).length + 1 + 1 + 1 + 1 : Nat) : Int) = 3)) (by omega)]
          split
          · split <;> exact leave_same q
          · split <;> exact leave_same q
  | ty _ => cases hp
  | gl _ => cases hp
  | obj _ _ => cases hp
  | kl _ => cases hp
  | kt _ => cases hp
  | cell _ => cases hp
  | exv _ _ _ _ => cases hp
  | _ =>
    refine seq_hide fun N hN => ?_
    walk_at "m"
    exact leave_same q
end Z

/-! _law_is_step, _law_drawn_step for k22 (cut out of Q21d2, Q21e2) -/
namespace Z
open PySem PySem.Spec PyProof.Rows L2 Evl
def whereD : List (Key × Da) := [(Sum.inr "move", .lst [.str "split", .str "join"]), (Sum.inr "close", .lst [.str "hang", .str "take", .str "split", .str "join"]), (Sum.inr "wait", .lst [.str "hang", .str "take", .str "split", .str "join"]), (Sum.inr "switch", .lst [.str "hang", .str "take", .str "split", .str "join"]), (Sum.inr "read", .lst [.str "read"]), (Sum.inr "view", .lst [.str "read"]), (Sum.inr "claim", .lst [.str "put", .str "direct"]), (Sum.inr "put", .lst [.str "put", .str "direct"]), (Sum.inr "key", .lst [.str "put", .str "direct"]), (Sum.inr "end", .lst [.str "put", .str "strike", .str "read", .str "direct", .str "hang", .str "take", .str "split", .str "join"]), (Sum.inr "strike", .lst [.str "strike"]), (Sum.inr "border", .lst [.str "direct"]), (Sum.inr "again", .lst [.str "put", .str "strike", .str "read"]), (Sum.inr "look", .lst [.str "put", .str "strike", .str "read"])]
theorem where_ok {X : List (Key × Da)} (hX : ∀ a, valD X (Sum.inr a) = valD whereD (Sum.inr a)) (a : Str) : ∃ ds, (valD X (Sum.inr a)).getD (.lst []) = .lst ds ∧ plL ds = true ∧ dpL ds ≤ 30 ∧ ∀ k, anyEq (.str k) ds = match tabD tab_PLAIN_STEPS a with
  | some es => anyEq (.str k) es
  | none => false := by
  rw [hX]
  clear hX
  by_cases h0 : ("move" : Str) = a
  · subst h0
    exact ⟨_, rfl, by decide, by decide, fun _ => rfl⟩
  by_cases h1 : ("close" : Str) = a
  · subst h1
    exact ⟨_, rfl, by decide, by decide, fun _ => rfl⟩
  by_cases h2 : ("wait" : Str) = a
  · subst h2
    exact ⟨_, rfl, by decide, by decide, fun _ => rfl⟩
  by_cases h3 : ("switch" : Str) = a
  · subst h3
    exact ⟨_, rfl, by decide, by decide, fun _ => rfl⟩
  by_cases h4 : ("read" : Str) = a
  · subst h4
    exact ⟨_, rfl, by decide, by decide, fun _ => rfl⟩
  by_cases h5 : ("view" : Str) = a
  · subst h5
    exact ⟨_, rfl, by decide, by decide, fun _ => rfl⟩
  by_cases h6 : ("claim" : Str) = a
  · subst h6
    exact ⟨_, rfl, by decide, by decide, fun _ => rfl⟩
  by_cases h7 : ("put" : Str) = a
  · subst h7
    exact ⟨_, rfl, by decide, by decide, fun _ => rfl⟩
  by_cases h8 : ("key" : Str) = a
  · subst h8
    exact ⟨_, rfl, by decide, by decide, fun _ => rfl⟩
  by_cases h9 : ("end" : Str) = a
  · subst h9
    exact ⟨_, rfl, by decide, by decide, fun _ => rfl⟩
  by_cases h10 : ("strike" : Str) = a
  · subst h10
    exact ⟨_, rfl, by decide, by decide, fun _ => rfl⟩
  by_cases h11 : ("border" : Str) = a
  · subst h11
    exact ⟨_, rfl, by decide, by decide, fun _ => rfl⟩
  by_cases h12 : ("again" : Str) = a
  · subst h12
    exact ⟨_, rfl, by decide, by decide, fun _ => rfl⟩
  by_cases h13 : ("look" : Str) = a
  · subst h13
    exact ⟨_, rfl, by decide, by decide, fun _ => rfl⟩
  refine ⟨[], ?_, rfl, by decide, fun k => ?_⟩
  · unfold whereD
    simp only [valD_cons, valD_nil, Sum.inr.injEq, if_neg h0, if_neg h1, if_neg h2, if_neg h3, if_neg h4, if_neg h5, if_neg h6, if_neg h7, if_neg h8, if_neg h9, if_neg h10, if_neg h11, if_neg h12, if_neg h13, Option.getD_none]
  · unfold tab_PLAIN_STEPS
    simp only [tabD_cons, tabD_nil, if_neg h0, if_neg h1, if_neg h2, if_neg h3, if_neg h4, if_neg h5, if_neg h6, if_neg h7, if_neg h8, if_neg h9, if_neg h10, if_neg h11, if_neg h12, if_neg h13]
    rfl
def atD : List (Key × Da) := [(Sum.inr "new", .lst [.str "hang", .str "split", .str "join"]), (Sum.inr "rest", .lst [.str "hang", .str "take", .str "split", .str "join"]), (Sum.inr "old", .lst [.str "take", .str "split", .str "join"]), (Sum.inr "part", .lst [.str "put", .str "strike", .str "read", .str "direct"]), (Sum.inr "table", .lst [.str "put", .str "strike", .str "read", .str "hang", .str "take", .str "split", .str "join"])]
theorem at_ok {X : List (Key × Da)} (hX : ∀ a, valD X (Sum.inr a) = valD atD (Sum.inr a)) (a : Str) : ∃ ds, (valD X (Sum.inr a)).getD (.lst []) = .lst ds ∧ plL ds = true ∧ dpL ds ≤ 30 ∧ ∀ k, anyEq (.str k) ds = match tabD tab_LOCKED a with
  | some es => anyEq (.str k) es
  | none => false := by
  rw [hX]
  clear hX
  by_cases h0 : ("new" : Str) = a
  · subst h0
    exact ⟨_, rfl, by decide, by decide, fun _ => rfl⟩
  by_cases h1 : ("rest" : Str) = a
  · subst h1
    exact ⟨_, rfl, by decide, by decide, fun _ => rfl⟩
  by_cases h2 : ("old" : Str) = a
  · subst h2
    exact ⟨_, rfl, by decide, by decide, fun _ => rfl⟩
  by_cases h3 : ("part" : Str) = a
  · subst h3
    exact ⟨_, rfl, by decide, by decide, fun _ => rfl⟩
  by_cases h4 : ("table" : Str) = a
  · subst h4
    exact ⟨_, rfl, by decide, by decide, fun _ => rfl⟩
  refine ⟨[], ?_, rfl, by decide, fun k => ?_⟩
  · unfold atD
    simp only [valD_cons, valD_nil, Sum.inr.injEq, if_neg h0, if_neg h1, if_neg h2, if_neg h3, if_neg h4, Option.getD_none]
  · unfold tab_LOCKED
    simp only [tabD_cons, tabD_nil, if_neg h0, if_neg h1, if_neg h2, if_neg h3, if_neg h4]
    rfl
theorem not_isstr {ds : List Da} (h : plL ds = true) {still : Mem → Prop} {i : Nat} {ρ : Sl} {M : Mem} {Q : TK} (hi : i < ρ.length) (hS : still M) (q : Q (.lst (ds.filter fun d => !strD d)) M) :
    lcL still (hName i) (mNot (mB (mCB nIsi (mCons (mVar i) (mCons (mC (.ty "str")) mNil))))) (mVar i) [i] ρ ds [] M Q := by
  have e : ∀ d : Da, ((wipeD ρ [i]).set i (some d))[i]? = some (some d) := fun d => by
    rw [List.getElem?_set_self]
    show i < (ρ.set i none).length
    rw [List.length_set]
    exact hi
  refine lcL_pure (fun d => !strD d) id (fun d hd R r => ?_) (fun d hd _ R r => ?_) hS ?_
  · have hp := plL_mem h d hd
    simp only [mNot, mB, mCB, mCons, mVar, e, mC, mNil, nIsi, tyDa_pl hp]
    refine ⟨by decide, ?_⟩
    rw [tyB_str hp]
    exact r
  · simp only [mVar, e]
    exact r
  · rw [List.map_id]
    exact q
theorem filter_strs (ds : List Da) : (ds.filter fun d => !strD d).isEmpty = ds.all strD := by
  have h := all_filter strD id ds
  rw [List.map_id] at h
  exact h.symm
def aL : Da := .lst [.str "put", .str "strike", .str "read"]
def cL : Da := .lst [.str "hang", .str "take", .str "split", .str "join"]
theorem lis10 {z k : Str} {M : Mem} {Q : TK} {N : Sl → Mem → Prop} {Y : List (Key × Da)} {s6 : Option Da} (cM : cloL M.length M = true) (hY : ∀ a, valD Y (Sum.inr a) = valD whereD (Sum.inr a)) (q : Q (.bl (has1 z k)) M) :
    b_law_is_step_10 { nx := N, rt := leave M.length Q } [some (.tup [.str z]), some (.str k), some aL, some cL, none, some (.cell M.length), s6, none] (M ++ [.dct Y]) := by
  unfold b_law_is_step_10
  walk_at "m"
  obtain ⟨ds, e1, e2, e3, e4⟩ := where_ok hY z
  rw [e1]
  walk_at "m"
  refine ⟨⟨Y, rfl⟩, ⟨e2, by omega⟩, leave_bl cM (q_bd q ?_)⟩
  rw [e4]
  rfl
theorem lis6 {z k : Str} {M : Mem} {Q : TK} {N : Sl → Mem → Prop} {X : List (Key × Da)} (cM : cloL M.length M = true) (hl : X.length ≤ 20)
    (hX : ∀ a, valD X (Sum.inr a) = valD (whereD.drop 9) (Sum.inr a)) (q : Q (.bl (has1 z k)) M) :
    b_law_is_step_6 { nx := N, rt := leave M.length Q } [some (.tup [.str z]), some (.str k), some aL, some cL, none, some (.cell M.length), none, none] (M ++ [.dct X]) := by
  have put : ∀ (Y : List (Key × Da)) (n : Nat) (w : Str) (d : Da), whereD.drop n = (Sum.inr w, d) :: whereD.drop (n + 1) → (∀ a, valD Y (Sum.inr a) = valD (whereD.drop (n + 1)) (Sum.inr a)) → ∀ a, valD (putD Y (Sum.inr w) d) (Sum.inr a) = valD (whereD.drop n) (Sum.inr a) := by
    intro Y n w d e h a
    rw [valD_put, e, valD_cons, h]
  unfold b_law_is_step_6 l_law_is_step_1
  walk_at "m"
  refine forL_step fun C hC => ?_
  walk_at "m"
  refine ⟨Nat.le_trans (hl) (by decide), hC _ _ trivial ?_⟩
  clear hC
  refine forL_step fun C hC => ?_
  walk_at "m"
  refine ⟨Nat.le_trans (len_put (hl)) (by decide), hC _ _ trivial ?_⟩
  clear hC
  refine forL_step fun C hC => ?_
  walk_at "m"
  refine ⟨Nat.le_trans (len_put (len_put (hl))) (by decide), hC _ _ trivial ?_⟩
  clear hC
  refine forL_end ?_
  dsimp only
  unfold b_law_is_step_7 l_law_is_step_2
  walk_at "m"
  refine forL_step fun C hC => ?_
  walk_at "m"
  refine ⟨Nat.le_trans (len_put (len_put (len_put (hl)))) (by decide), hC _ _ trivial ?_⟩
  clear hC
  refine forL_step fun C hC => ?_
  walk_at "m"
  refine ⟨Nat.le_trans (len_put (len_put (len_put (len_put (hl))))) (by decide), hC _ _ trivial ?_⟩
  clear hC
  refine forL_end ?_
  dsimp only
  unfold b_law_is_step_8 l_law_is_step_3
  walk_at "m"
  refine forL_step fun C hC => ?_
  walk_at "m"
  refine ⟨Nat.le_trans (len_put (len_put (len_put (len_put (len_put (hl)))))) (by decide), hC _ _ trivial ?_⟩
  clear hC
  refine forL_step fun C hC => ?_
  walk_at "m"
  refine ⟨Nat.le_trans (len_put (len_put (len_put (len_put (len_put (len_put (hl))))))) (by decide), hC _ _ trivial ?_⟩
  clear hC
  refine forL_step fun C hC => ?_
  walk_at "m"
  refine ⟨Nat.le_trans (len_put (len_put (len_put (len_put (len_put (len_put (len_put (hl)))))))) (by decide), hC _ _ trivial ?_⟩
  clear hC
  refine forL_end ?_
  dsimp only
  unfold b_law_is_step_9
  walk_at "m"
  refine ⟨Nat.le_trans (len_put (len_put (len_put (len_put (len_put (len_put (len_put (len_put (hl))))))))) (by decide), lis10 cM ?_ q⟩
  exact (put _ 0 _ _ rfl (put _ 1 _ _ rfl (put _ 2 _ _ rfl (put _ 3 _ _ rfl (put _ 4 _ _ rfl (put _ 5 _ _ rfl (put _ 6 _ _ rfl (put _ 7 _ _ rfl (put _ 8 _ _ rfl hX)))))))))
theorem lis5 {z k : Str} {M : Mem} {Q : TK} {N : Sl → Mem → Prop} (cM : cloL M.length M = true) (q : Q (.bl (has1 z k)) M) :
    b_law_is_step_5 { nx := N, rt := leave M.length Q } [some (.tup [.str z]), some (.str k), some aL, some cL, none, none, none, none] M := by
  unfold b_law_is_step_5
  walk_at "m"
  refine law_kinds_ok ?_
  refine lis6 cM (Nat.le_trans (mergeD_len _ _) (by simp)) ?_ q
  intro a
  simp only [valD_put, mergeD_cons, mergeD_nil, valD_nil, whereD, List.drop_succ_cons, List.drop_zero, valD_cons]
  rfl
end Z
namespace Z
open PySem PySem.Spec PyProof.Rows L2 Evl
theorem lis4 {z k : Str} {zs : List Str} {M : Mem} {Q : TK} {N : Sl → Mem → Prop} (cM : cloL M.length M = true) (c1 : ¬ z = "lock") (c2 : ¬ z = "scan") (q : Q (.bl (stepD k (.tup ((z :: zs).map Da.str)))) M) :
    b_law_is_step_4 { nx := N, rt := leave M.length Q } [some (.tup ((z :: zs).map Da.str)), some (.str k), some aL, some cL, none, none, none, none] M := by
  unfold b_law_is_step_4
  refine seq_run (if_hide fun T U hT hU => ?_)
  match zs, q with
  | a :: r, q =>
    walk_at "m"
    rw [if_pos (by omega)]
    refine hT _ ?_
    walk_at "m"
    refine leave_same (q_bd q ?_)
    match r with
    | [] =>
      show _ = has2 z a k
      simp [has2, c2]
    | [m] =>
      show _ = has3 z a m k
      simp [has3, c1]
    | m :: b :: r => rfl
  | [], q =>
    walk_at "m"
    exact hU _ (next_run (lis5 cM q))
theorem cut1 (z : Da) (ds : List Da) : cutL (z :: ds) (some 1) none = ds := by
  unfold cutL
  have h1 : HT.sIx (z :: ds).length 0 (some 1) = 1 := by
    unfold HT.sIx
    show (if (1 : Int) < 0 then _ else min (1 : Int).toNat ds.length.succ) = 1
    rw [if_neg (by decide)]
    show min 1 ds.length.succ = 1
    omega
  rw [h1]
  show ds.take _ = _
  apply List.take_of_length_le
  show ds.length ≤ (z :: ds).length - 1
  simp
theorem lis3 {z k : Str} {zs : List Str} {M : Mem} {Q : TK} {N : Sl → Mem → Prop} (cM : cloL M.length M = true) (c1 : ¬ z = "lock") (q : Q (.bl (stepD k (.tup ((z :: zs).map Da.str)))) M) :
    b_law_is_step_3 { nx := N, rt := leave M.length Q } [some (.tup ((z :: zs).map Da.str)), some (.str k), some aL, some cL, none, none, none, none] M := by
  unfold b_law_is_step_3
  refine seq_run (if_hide fun T U hT hU => ?_)
  walk_at "m"
  by_cases c2 : z = "scan"
  · rw [if_pos c2]
    refine hT _ ?_
    clear hT hU
    walk_at "m"
    rw [cut1]
    have pz : dpL (List.map Da.str zs) = 0 := dpL_map (fun _ => rfl) zs
    by_cases c3 : k = "hang"
    · rw [if_pos c3]
      refine ⟨⟨plL_strs zs, by omega⟩, leave_same (q_bd q ?_)⟩
      match zs with
      | [] => subst c2; subst c3; rfl
      | [a] =>
        show _ = has2 z a k
        simp [has2, c2, c3, anyEq, eqD, eqL, eq_comm]
      | [a, m] =>
        show _ = has3 z a m k
        simp [has3, c1, anyEq, eqD, eqL]
      | a :: m :: b :: r =>
        show _ = false
        simp [anyEq, eqD, eqL]
    · rw [if_neg c3]
      refine leave_same (q_bd q ?_)
      match zs with
      | [] => subst c2; rfl
      | [a] =>
        show _ = has2 z a k
        simp [has2, c3]
      | [a, m] =>
        show _ = has3 z a m k
        simp [has3, c1]
      | a :: m :: b :: r => rfl
  · rw [if_neg c2]
    exact hU _ (next_run (lis4 cM c1 c2 q))
theorem lis2 {z k : Str} {zs : List Str} {M : Mem} {Q : TK} {N : Sl → Mem → Prop} (cM : cloL M.length M = true) (q : Q (.bl (stepD k (.tup ((z :: zs).map Da.str)))) M) :
    b_law_is_step_2 { nx := N, rt := leave M.length Q } [some (.tup ((z :: zs).map Da.str)), some (.str k), some aL, some cL, none, none, none, none] M := by
  unfold b_law_is_step_2
  refine seq_run (if_hide fun T U hT hU => ?_)
  walk_at "m"
  by_cases c1 : z = "lock"
  · rw [if_pos c1]
    refine hT _ ?_
    clear hT hU
    refine seq_run (if_hide fun T U hT hU => ?_)
    match zs, q with
    | [], q =>
      have e : stepD k (.tup ([z].map Da.str)) = false := by subst c1; rfl
      rw [e] at q
      walk_at "m"
      refine hT _ ?_
      walk_at "m"
      exact leave_same q
    | [a], q =>
      have e : stepD k (.tup ([z, a].map Da.str)) = false := by subst c1; rfl
      rw [e] at q
      walk_at "m"
      refine hT _ ?_
      walk_at "m"
      exact leave_same q
    | [a, m], q =>
      have e : stepD k (.tup ([z, a, m].map Da.str)) = has3 z a m k := rfl
      rw [e] at q
      unfold has3 at q
      rw [decide_eq_true c1, Bool.true_and] at q
      walk_at "m"
      refine law_is_name_ok rfl ?_
      walk_at "m"
      cases c2 : nmD (.str m) with
      | false =>
        have c3 : nmS m = false := c2
        rw [if_pos rfl]
        refine hT _ ?_
        walk_at "m"
        refine leave_same (q_bd q ?_)
        cases tabD tab_LOCKED a with
        | none => rfl
        | some ds => simp [c3]
      | true =>
        have c3 : nmS m = true := c2
        rw [if_neg (by simp)]
        refine hU _ (next_run ?_)
        dsimp only
        clear hT hU
        unfold aL cL
        walk_at "m"
        generalize hX : putD (mergeD [] _) _ _ = X
        obtain ⟨ds, e1, e2, e3, e4⟩ := at_ok (X := X) (fun a => by
          rw [← hX]
          unfold atD
          simp only [valD_put, mergeD_cons, mergeD_nil, valD_nil, valD_cons]
          rfl) a
        rw [e1]
        walk_at "m"
        refine ⟨mio (by decide), mio (by decide), Nat.le_trans (mergeD_len _ _) (by simp), ⟨X, rfl⟩, ⟨e2, by omega⟩, leave_bl cM (q_bd q ?_)⟩
        rw [e4]
        cases tabD tab_LOCKED a with
        | none => rfl
        | some es => simp [c3]
    | a :: m :: b :: r, q =>
      have q : Q (.bl false) M := q
      walk_at "m"
      rw [if_pos (by omega)]
      refine hT _ ?_
      walk_at "m"
      exact leave_same q
  · rw [if_neg c1]
    exact hU _ (next_run (lis3 cM c1 q))
theorem law_is_step_ok {d : Da} {k : Str} {M : Mem} {Q : TK} {E : XD} (hp : pdd d = true) (hl : lenOk d) (q : Q (.bl (stepD k d)) M) : f_law_is_step [d, .str k] M Q E := by
  unfold f_law_is_step m_law_is_step
  walk_at "m1"
  intro cM cD
  walk_at "m"
  unfold b_law_is_step_1
  cases d with
  | tup ds =>
    have hl2 := hl.2
    have hl : ds.length ≤ 1000 := hl.1
    have hp : plL ds = true := hp
    walk_at "m"
    refine ⟨⟨hp, by omega⟩, ?_⟩
    rw [eqL_nil]
    cases c0 : ds.isEmpty with
    | true =>
      have e : ds = [] := List.isEmpty_iff.1 c0
      subst e
      exact leave_same q
    | false =>
      refine iteF ⟨by omega, not_isstr hp (by simp) trivial ?_⟩
      walk_at "m"
      rw [eqL_nil, filter_strs]
      refine ⟨⟨plL_all.2 fun d hd => plL_mem hp d (List.mem_filter.1 hd).1, ?_⟩, ?_⟩
      · have : dpL (ds.filter fun d => !strD d) ≤ 30 := dpL_le.2 fun d hd => dpL_le.1 hl2 d (List.mem_filter.1 hd).1
        omega
      cases c : ds.all strD with
      | false =>
        rw [stepD_no c] at q
        exact leave_same q
      | true =>
        obtain ⟨zs, rfl⟩ := strs_of c
        rw [if_neg (by simp)]
        match zs, c0, q with
        | [], c0, _ => cases c0
        | z :: zs, _, q => exact lis2 cM q
  | ty _ => cases hp
  | gl _ => cases hp
  | obj _ _ => cases hp
  | kl _ => cases hp
  | kt _ => cases hp
  | cell _ => cases hp
  | exv _ _ _ _ => cases hp
  | _ =>
    walk_at "m"
    exact leave_same q
end Z

namespace Z
open PySem PySem.Spec PyProof.Rows L2 Evl
theorem draw_strs {xs : List Str} {d : Int} (h0 : 0 ≤ d) (h1 : d < (xs.length : Int)) : ∃ z ∈ xs, atI (xs.map Da.str) d = some (.str z) := by
  obtain ⟨v, hv, e⟩ := atI_mem (xs := xs.map Da.str) h0 (by rw [List.length_map]; exact h1)
  obtain ⟨z, hz, rfl⟩ := List.mem_map.1 hv
  exact ⟨z, hz, e⟩
theorem drawn_ok {n : Nat} {b : Da} {R : Mem} {Q : TK} {E : XD} {ms : List Str} (B : BoxD n b) (hn : n ≤ 1000000) (hm : ms.length = 3)
    (k : ∀ (zs : List Str) (b' : Da), BoxD (n + 3) b' → zs ≠ [] → zs.length ≤ 3 → Q (.tup (zs.map Da.str)) (b' :: R)) : f_law_drawn_step [.cell 0, .lst (ms.map Da.str)] (b :: R) Q E := by
  unfold f_law_drawn_step m_law_drawn_step
  walk_at "m0"
  walk_at "m"
  unfold b_law_drawn_step_1
  walk_at "m"
  refine ⟨mio (by decide), ?_⟩
  unfold b_law_drawn_step_2
  walk_at "m"
  refine take_ok B (by omega) (by decide) (by decide +kernel) fun d0 b1 B1 e0 e1 => ?_
  walk_at "m"
  refine ite2 (fun c => ?_) (fun c => ?_)
  · refine take_ok B1 (by omega) (by decide) (by decide +kernel) fun d1 b2 B2 f0 f1 => ?_
    obtain ⟨w, _, e⟩ := draw_strs (xs := ["table", "part", "old", "new", "rest"]) f0 f1
    have e : atI [Da.str "table", Da.str "part", Da.str "old", Da.str "new", Da.str "rest"] d1 = some (Da.str w) := e
    walk_at "m"
    rw [e]
    walk_at "m"
    rw [List.length_map, hm]
    refine take_ok B2 (by omega) (by decide) (by decide +kernel) fun d2 b3 B3 g0 g1 => ?_
    obtain ⟨m, _, e2⟩ := draw_strs (xs := ms) g0 (by rw [hm]; exact g1)
    walk_at "m"
    rw [e2]
    exact leave_same (k ["lock", w, m] b3 (B3.mono (by omega)) (by simp) (by simp))
  · unfold b_law_drawn_step_3
    walk_at "m"
    refine take_ok B1 (by omega) (by decide) (by decide +kernel) fun d1 b2 B2 f0 f1 => ?_
    walk_at "m"
    refine ite2 (fun c => ?_) (fun c => ?_)
    · refine take_ok B2 (by omega) (by decide) (by decide +kernel) fun d2 b3 B3 g0 g1 => ?_
      obtain ⟨w, _, e⟩ := draw_strs (xs := ["new", "rest"]) g0 g1
      have e : atI [Da.str "new", Da.str "rest"] d2 = some (Da.str w) := e
      walk_at "m"
      rw [e]
      exact leave_same (k ["scan", w] b3 (B3.mono (by omega)) (by simp) (by simp))
    · unfold b_law_drawn_step_4
      walk_at "m"
      refine take_ok B2 (by omega) (by decide) (by decide +kernel) fun d2 b3 B3 g0 g1 => ?_
      obtain ⟨w, _, e⟩ := draw_strs (xs := ["look", "again", "border", "key", "put", "claim", "strike", "view", "read", "move", "switch", "wait", "close"]) g0 g1
      have e : atI [Da.str "look", Da.str "again", Da.str "border", Da.str "key", Da.str "put", Da.str "claim", Da.str "strike", Da.str "view", Da.str "read", Da.str "move", Da.str "switch", Da.str "wait", Da.str "close"] d2 = some (Da.str w) := e
      walk_at "m"
      rw [e]
      exact leave_same (k [w] b3 (B3.mono (by omega)) (by simp) (by simp))
end Z

/-! the program's side of k22: words_of, ends_well, stand_ahead .. -/
namespace Z
open PySem PySem.Spec PyProof.Rows L2 Evl
theorem lcL_pureG {still : Mem → Prop} {g : MG} {tt : MT} {te : ME} {vs : List Nat} {ρ : Sl} {items : List Da} {M : Mem} {Q : TK} (S : Da → Sl) (p : Da → Bool) (f : Da → Da)
    (hg : ∀ d ∈ items, ∀ R : Sl → Mem → Prop, R (S d) M → g d (wipeD ρ vs) M R)
    (ht : ∀ d ∈ items, ∀ R : Bool → Mem → Prop, R (p d) M → tt (S d) M R) (hf : ∀ d ∈ items, p d = true → ∀ R : TK, R (f d) M → te (S d) M R) (hS : still M) (q : Q (.lst ((items.filter p).map f)) M) :
    lcL still g tt te vs ρ items [] M Q := by
  refine lcL_ind (fun k acc M' => M' = M ∧ acc = ((items.take k).filter p).map f) ⟨rfl, rfl⟩ ?_ ?_
  · rintro k d acc M' e ⟨rfl, rfl⟩ C hC
    have hm : d ∈ items := List.mem_of_getElem? e
    have et : items.take (k + 1) = items.take k ++ [d] := by rw [List.take_add_one, e]; rfl
    refine hg d hm _ (ht d hm _ ?_)
    cases c : p d with
    | true =>
      refine iteT (hf d hm c _ (hC _ _ hS ⟨rfl, ?_⟩))
      rw [et, List.filter_append]
      simp [c]
    | false =>
      refine iteF (hC _ _ hS ⟨rfl, ?_⟩)
      rw [et, List.filter_append]
      simp [c]
  · rintro acc M' ⟨rfl, rfl⟩
    rw [List.take_length]
    exact q
/-- a step, its first word -/
def stD (zs : List Str) : Da := .tup (zs.map Da.str)
def hd (zs : List Str) : Str := zs.headD ""
def wsOf (ps : List (List Str)) : List Str := ps.map hd
def NE (ps : List (List Str)) : Prop := ps.length ≤ 12 ∧ ∀ zs ∈ ps, zs ≠ [] ∧ zs.length ≤ 3
theorem words_of_ok {ps : List (List Str)} {M : Mem} {Q : TK} {E : XD} (h : NE ps) (q : Q (.lst ((wsOf ps).map Da.str)) M) : f_words_of [.lst (ps.map stD)] M Q E := by
  unfold f_words_of m_words_of
  walk_at "m0"
  walk_at "m"
  refine ⟨by rw [List.length_map]; have := h.1; omega, ?_⟩
  refine lcL_pure (fun _ => true) (fun d => match d with | .tup (.str z :: _) => .str z | _ => .non) (fun d hd R r => r) (fun d hd _ R r => ?_) trivial ?_
  · obtain ⟨zs, hz, rfl⟩ := List.mem_map.1 hd
    obtain ⟨hn, _⟩ := h.2 zs hz
    match zs, hn with
    | z :: zs, _ =>
      unfold stD
      walk_at "m"
      exact r
  · rw [filter_true, List.map_map]
    have e : ps.map ((fun d => match d with | Da.tup (.str z :: _) => Da.str z | _ => .non) ∘ stD) = (wsOf ps).map Da.str := by
      unfold wsOf
      rw [List.map_map]
      refine List.map_congr_left fun zs hz => ?_
      obtain ⟨hn, _⟩ := h.2 zs hz
      match zs, hn with
      | z :: zs, _ => rfl
    rw [e]
    exact leave_same q
/-- any word of some -/
def inW (F : List Str) (z : Str) : Bool := decide (z ∈ F)
def anyW (ws F : List Str) : Bool := ws.any (inW F)
def changes4 : List Str := ["hang", "take", "split", "join"]
def lastK (k : Str) : List Str := if k ∈ changes4 then ["end", "close"] else ["end"]
def endsP (k : Str) (ws : List Str) : Bool := (match ws.getLast? with | some z => decide (z ∈ lastK k) | none => false) && !anyW ws.dropLast ["end", "close"]
theorem cutL_m1 {α : Type} (xs : List α) (a : α) : cutL (xs ++ [a]) none (some (-1)) = xs := by
  have e1 : HT.sIx (xs ++ [a]).length 0 none = 0 := rfl
  have e2 : HT.sIx (xs ++ [a]).length (xs ++ [a]).length (some (-1)) = xs.length := by
    unfold HT.sIx
    rw [List.length_append]
    simp
    try omega
  unfold cutL
  rw [e1, e2]
  simp
/-- the answers of a walk over words -/
theorem bls_any (ws F : List Str) : (((ws.map Da.str).map fun d => Da.bl (anyEq d (F.map Da.str))) : List Da) = (ws.map (inW F)).map Da.bl := by
  rw [List.map_map, List.map_map]
  refine List.map_congr_left fun z _ => ?_
  show Da.bl (anyEq (Da.str z) (F.map Da.str)) = _
  rw [anyEq_strs]
  rfl
theorem any_map_id (ws F : List Str) : (ws.map (inW F)).any id = anyW ws F := by
  rw [List.any_map]
  rfl
theorem anyW_ok {ws F : List Str} {still : Mem → Prop} {i : Nat} {te : ME} {ρ : Sl} {M : Mem} {Q : TK}
    (ht : ∀ d ∈ ws.map Da.str, ∀ R : TK, R (.bl (anyEq d (F.map Da.str))) M → te ((wipeD ρ [i]).set i (some d)) M R) (hS : still M) (q : Q (.lst ((ws.map (inW F)).map Da.bl)) M) :
    lcL still (hName i) mYes te [i] ρ (ws.map Da.str) [] M Q := by
  refine lcL_pure (fun _ => true) (fun d => .bl (anyEq d (F.map Da.str))) (fun d hd R r => r) (fun d hd _ R r => ht d hd R r) hS ?_
  rw [filter_true, bls_any]
  exact q
theorem ends_well_ok {ps : List (List Str)} {k : Str} {M : Mem} {Q : TK} {E : XD} (h : NE ps) (h0 : ps ≠ []) (q : Q (.bl (endsP k (wsOf ps))) M) : f_ends_well [.lst (ps.map stD), .str k] M Q E := by
  unfold f_ends_well m_ends_well
  walk_at "m0"
  refine seq_hide fun N hN => ?_
  walk_at "m"
  refine words_of_ok h (hN _ _ ?_)
  clear hN
  have hw : (wsOf ps).length ≤ 12 := by
    unfold wsOf
    rw [List.length_map]
    exact h.1
  have h0 : wsOf ps ≠ [] := by
    unfold wsOf
    simpa using h0
  generalize wsOf ps = ws at hw h0 q
  refine seq_hide fun N hN => ?_
  walk_at "m"
  have ec : tab_CHANGES = changes4.map Da.str := rfl
  refine ⟨⟨by decide, by decide⟩, ?_⟩
  have fin : N [some (Da.lst (List.map stD ps)), some (Da.str k), some (Da.lst (List.map Da.str ws)), some (Da.tup ((lastK k).map Da.str)), none] M := by
    refine hN _ _ ?_
    clear hN
    obtain ⟨init, z, rfl⟩ : ∃ init z, ws = init ++ [z] := ⟨ws.dropLast, ws.getLast h0, (List.dropLast_concat_getLast h0).symm⟩
    have e1 : (List.map Da.str (init ++ [z])).getLast? = some (Da.str z) := by
      rw [List.map_append, List.map_singleton, List.getLast?_concat]
    have e2 : cutL (List.map Da.str (init ++ [z])) none (some (-1)) = init.map Da.str := by
      rw [List.map_append, List.map_singleton, cutL_m1]
    have q : Q (.bl (decide (z ∈ lastK k) && !anyW init ["end", "close"])) M := by
      unfold endsP at q
      rw [List.getLast?_concat, List.dropLast_concat] at q
      exact q
    have hl : init.length ≤ 1000 := by
      rw [List.length_append] at hw
      omega
    walk_at "m"
    rw [e1]
    dsimp only
    walk_at "m"
    rw [e2]
    have pl : ∀ l : List Str, plL (l.map Da.str) = true ∧ dpL (l.map Da.str) ≤ 59 := fun l => ⟨plL_strs l, by
      have : dpL (List.map Da.str l) = 0 := dpL_map (fun _ => rfl) l
      omega⟩
    refine ⟨pl _, ite2 (fun c => ?_) (fun c => ?_)⟩
    · rw [anyEq_strs, decide_eq_true_eq] at c
      refine ⟨by rw [List.length_map]; omega, ?_⟩
      refine anyW_ok (F := ["end", "close"]) (fun d hd R r => ?_) trivial ?_
      · obtain ⟨w, _, rfl⟩ := List.mem_map.1 hd
        walk_at "m"
        exact r
      · walk_at "m"
        rw [blsD_map]
        refine leave_same (q_bd q ?_)
        rw [any_map_id, decide_eq_true c]
        rfl
    · rw [anyEq_strs, decide_eq_true_eq] at c
      refine leave_same (q_bd q ?_)
      rw [decide_eq_false c]
      rfl
  rw [ec]
  unfold lastK at fin
  refine ite2 (fun c => ?_) (fun c => ?_)
  · rw [anyEq_strs, decide_eq_true_eq] at c
    rw [if_pos c] at fin
    exact fin
  · rw [anyEq_strs, decide_eq_true_eq] at c
    rw [if_neg c] at fin
    exact fin
theorem cutL_drop {α : Type} (xs : List α) (n : Nat) : cutL xs (some (n : Int)) none = xs.drop n := by
  have e1 : HT.sIx xs.length 0 (some (n : Int)) = min n xs.length := HT.sIx_nat _ _ _
  have e2 : HT.sIx xs.length xs.length none = xs.length := rfl
  unfold cutL
  rw [e1, e2]
  rcases Nat.le_total n xs.length with h | h
  · rw [Nat.min_eq_left h, List.take_of_length_le]
    rw [List.length_drop]
    omega
  · rw [Nat.min_eq_right h, List.drop_length, List.drop_of_length_le h]
    simp
theorem stand_ahead_ok {ws F : List Str} {n : Nat} {M : Mem} {Q : TK} {E : XD} (hw : ws.length ≤ 1000) (q : Q (.bl (!anyW (ws.drop n) F)) M) : f_stand_ahead [.lst (ws.map Da.str), .tup (F.map Da.str), .int n] M Q E := by
  unfold f_stand_ahead m_stand_ahead
  walk_at "m0"
  walk_at "m"
  rw [cutL_drop, ← List.map_drop]
  have pl : ∀ l : List Str, plL (l.map Da.str) = true ∧ dpL (l.map Da.str) ≤ 59 := fun l => ⟨plL_strs l, by
    have : dpL (List.map Da.str l) = 0 := dpL_map (fun _ => rfl) l
    omega⟩
  refine ⟨by rw [List.length_map, List.length_drop]; omega, anyW_ok (F := F) (fun d hd R r => ?_) trivial ?_⟩
  · obtain ⟨w, _, rfl⟩ := List.mem_map.1 hd
    walk_at "m"
    exact ⟨pl _, r⟩
  · walk_at "m"
    rw [blsD_map]
    refine leave_same (q_bd q ?_)
    rw [any_map_id]
/-- where words of some stand -/
def idxs (F ws : List Str) : List Nat := (ws.zipIdx.filter fun p => inW F p.1).map (·.2)
theorem enum_ok {ws F : List Str} {still : Mem → Prop} {a b : Nat} {tt : MT} {te : ME} {ρ : Sl} {M : Mem} {Q : TK} (hab : a ≠ b) (ha : a < ρ.length) (hb : b < ρ.length)
    (ht : ∀ z ∈ ws, ∀ i : Nat, ∀ R : Bool → Mem → Prop, R (inW F z) M → tt (((wipeD ρ [a, b]).set a (some (.int i))).set b (some (.str z))) M R)
    (hf : ∀ z ∈ ws, ∀ i : Nat, ∀ R : TK, R (.int i) M → te (((wipeD ρ [a, b]).set a (some (.int i))).set b (some (.str z))) M R)
    (hS : still M) (q : Q (.lst ((idxs F ws).map fun i => Da.int (i : Nat))) M) :
    lcL still (hTup 2 (hCons (hName a) (hCons (hName b) hNil))) tt te [a, b] ρ (enuD (ws.map Da.str)) [] M Q := by
  have mem : ∀ d ∈ enuD (ws.map Da.str), ∃ z ∈ ws, ∃ i : Nat, d = .tup [.int i, .str z] := by
    intro d hd
    unfold enuD at hd
    obtain ⟨⟨e, i⟩, hp, rfl⟩ := List.mem_map.1 hd
    have hm := List.fst_mem_of_mem_zipIdx hp
    obtain ⟨z, hz, e1⟩ := List.mem_map.1 hm
    exact ⟨z, hz, i, by rw [← e1]⟩
  refine lcL_pureG (fun d => match d with | .tup [x, y] => ((wipeD ρ [a, b]).set a (some x)).set b (some y) | _ => ρ)
    (fun d => match d with | .tup [_, .str z] => inW F z | _ => false) (fun d => match d with | .tup [x, _] => x | _ => .non) ?_ ?_ ?_ hS ?_
  · intro d hd R r
    obtain ⟨z, hz, i, rfl⟩ := mem d hd
    walk_at "m"
    exact r
  · intro d hd R r
    obtain ⟨z, hz, i, rfl⟩ := mem d hd
    exact ht z hz i R r
  · intro d hd _ R r
    obtain ⟨z, hz, i, rfl⟩ := mem d hd
    exact hf z hz i R r
  · have e : ∀ (ws : List Str) (n : Nat), List.map (fun d => match d with | Da.tup [x, _] => x | _ => .non) (List.filter (fun d => match d with | Da.tup [_, .str z] => inW F z | _ => false) (((ws.map Da.str).zipIdx n).map fun p => Da.tup [.int (p.2 : Nat), p.1])) = ((((ws.zipIdx n).filter fun p => inW F p.1).map (·.2)).map fun i => Da.int (i : Nat)) := by
      intro ws
      induction ws with
      | nil => intro n; rfl
      | cons z ws ih =>
        intro n
        rw [List.map_cons, List.zipIdx_cons, List.zipIdx_cons, List.map_cons, List.filter_cons, List.filter_cons]
        show List.map _ (if inW F z = true then _ else _) = List.map _ (List.map _ (if inW F z = true then _ else _))
        cases inW F z with
        | true => rw [if_pos rfl, if_pos rfl, List.map_cons, List.map_cons, List.map_cons, ih]
        | false => rw [if_neg (by decide), if_neg (by decide), ih]
    have e := e ws 0
    unfold enuD
    unfold idxs at q
    rw [e]
    exact q
/-- how often a word stands there -/
def cntW (ws : List Str) (w : Str) : Nat := ws.countP fun z => decide (z = w)
theorem count_strs (ws : List Str) (w : Str) : (ws.map Da.str).countP (fun z => eqD z (.str w)) = cntW ws w := by
  unfold cntW
  rw [List.countP_map]
  rfl
end Z

namespace Z
open PySem PySem.Spec PyProof.Rows L2 Evl
def deeds4 : List Str := ["put", "claim", "strike", "read"]
def checks2 : List Str := ["border", "key"]
def firstI (ws : List Str) (w : Str) : Nat := (ws.findIdx? fun z => decide (z = w)).getD 0
def badE (zs : List Str) : Bool := inW ["again", "key", "put", "claim", "strike", "read"] (hd zs) || decide (zs.take 2 = (["lock", "part"] : List Str))
def asksP3 (k : Str) (ps : List (List Str)) (ws : List Str) : Bool := decide (k = "direct") || (decide (cntW ws "look" = 1) && ((!decide (k = "read") || decide (cntW ws "view" = 1)) && !(ps.take (firstI ws "look")).any badE))
def asksP (k : Str) (ps : List (List Str)) (ws : List Str) : Bool := match idxs deeds4 ws with
  | [i] => !(checks2.any fun w => decide (cntW ws w > 1)) && (!anyW (ws.drop i) ["border", "key", "again", "view"] && asksP3 k ps ws)
  | _ => false
theorem pl_strs (l : List Str) : plL (l.map Da.str) = true ∧ dpL (l.map Da.str) ≤ 59 := ⟨plL_strs l, by
  have : dpL (List.map Da.str l) = 0 := dpL_map (fun _ => rfl) l
  omega⟩
theorem cnt_find {w : Str} : ∀ {ws : List Str}, cntW ws w = 1 → ∃ j, (ws.findIdx? fun z => decide (z = w)) = some j
  | [], h => by cases h
  | z :: ws, h => by
    rw [List.findIdx?_cons]
    by_cases c : z = w
    · rw [decide_eq_true c, if_pos rfl]
      exact ⟨_, rfl⟩
    · rw [decide_eq_false c, if_neg (by decide)]
      have h2 : cntW ws w = 1 := by
        unfold cntW at h ⊢
        rw [List.countP_cons, decide_eq_false c] at h
        simpa using h
      obtain ⟨j, e⟩ := cnt_find h2
      rw [e]
      exact ⟨_, rfl⟩
theorem find_strs (ws : List Str) (w : Str) : (ws.map Da.str).findIdx? (fun z => eqD z (.str w)) = ws.findIdx? fun z => decide (z = w) := by
  rw [List.findIdx?_map]
  rfl
def unS (d : Da) : List Str := match d with
  | .tup ds => ds.filterMap strO
  | _ => []
theorem unS_st (zs : List Str) : unS (stD zs) = zs := by
  unfold unS stD
  show (zs.map Da.str).filterMap strO = zs
  rw [List.filterMap_map]
  show zs.filterMap some = zs
  simp
theorem eqL_strs : ∀ a b : List Str, eqL (a.map Da.str) (b.map Da.str) = decide (a = b)
  | [], [] => rfl
  | [], _ :: _ => rfl
  | _ :: _, [] => rfl
  | x :: a, y :: b => by
    show (eqD (.str x) (.str y) && eqL (a.map Da.str) (b.map Da.str)) = _
    rw [eqL_strs a b]
    unfold eqD
    simp [Bool.decide_and]
theorem asks3_ok {ps : List (List Str)} {ws : List Str} {k : Str} {s3 s5 s6 s7 : Option Da} {M : Mem} {Q : TK} {N : Sl → Mem → Prop} (h : NE ps) (hws : ws = wsOf ps) (q : Q (.bl (asksP3 k ps ws)) M) :
    b_asks_well_4 { nx := N, rt := leave M.length Q } [some (.lst (ps.map stD)), some (.str k), some (.lst (ws.map Da.str)), s3, none, s5, s6, s7] M := by
  have hw : ws.length ≤ 12 := by
    rw [hws]
    unfold wsOf
    rw [List.length_map]
    exact h.1
  unfold b_asks_well_4
  refine seq_hide fun N hN => ?_
  walk_at "m"
  unfold asksP3 at q
  refine ite2 (fun c => ?_) (fun c => ?_)
  · rw [decide_eq_true c] at q
    exact leave_same q
  rw [decide_eq_false c, Bool.false_or] at q
  refine hN _ _ ?_
  clear hN
  unfold b_asks_well_5
  refine seq_hide fun N hN => ?_
  walk_at "m"
  simp only [count_strs]
  have stay : N [some (Da.lst (List.map stD ps)), some (Da.str k), some (Da.lst (List.map Da.str ws)), s3, none, s5, s6, s7] M ∨ True := .inr trivial
  refine ⟨⟨_, rfl⟩, pl_strs ws, ite2 (fun c => ?_) (fun c => ?_)⟩
  · have c1 : ¬ cntW ws "look" = 1 := fun e => c (by rw [e]; rfl)
    rw [decide_eq_false c1] at q
    exact leave_same q
  have c1 : cntW ws "look" = 1 := by omega
  rw [decide_eq_true c1, Bool.true_and] at q
  have fin : Q (.bl (!(List.take (firstI ws "look") ps).any badE)) M → N [some (Da.lst (List.map stD ps)), some (Da.str k), some (Da.lst (List.map Da.str ws)), s3, none, s5, s6, s7] M := by
    intro q
    refine hN _ _ ?_
    clear hN
    unfold b_asks_well_6
    refine seq_hide fun N hN => ?_
    walk_at "m"
    obtain ⟨j, e⟩ := cnt_find c1
    unfold firstI at q
    rw [e] at q
    simp only [find_strs]
    refine ⟨⟨_, rfl⟩, pl_strs ws, j, e, hN _ _ ?_⟩
    clear hN
    unfold b_asks_well_7
    rw [cutL_take _ (by omega), ← List.map_take]
    walk_at "m"
    rw [Int.toNat_natCast]
    have q : Q (.bl (!(ps.take j).any badE)) M := q
    refine ⟨by rw [List.length_map, List.length_take]; have := h.1; omega, ?_⟩
    refine lcL_pure (fun _ => true) (fun d => .bl (badE (unS d))) (fun d hm R r => r) (fun d hm _ R r => ?_) trivial ?_
    · obtain ⟨zs, hz, rfl⟩ := List.mem_map.1 hm
      clear hm
      rw [unS_st] at r
      obtain ⟨hn, h3⟩ := h.2 zs (List.mem_of_mem_take hz)
      match zs, hn, r with
      | z :: zs, _, r =>
        unfold stD
        walk_at "m"
        have e3 : cutL (Da.str z :: List.map Da.str zs) none (some 2) = ((z :: zs).take 2).map Da.str := by
          show cutL ((z :: zs).map Da.str) none (some 2) = _
          rw [cutL_take _ (by decide), ← List.map_take]
          rfl
        rw [e3]
        refine ⟨by decide, ⟨by decide, by decide⟩, ite2 (fun c => ?_) (fun c => ?_)⟩
        · have c : anyEq (.str z) ((["again", "key", "put", "claim", "strike", "read"] : List Str).map Da.str) = true := c
          rw [anyEq_strs] at c
          have c : inW ["again", "key", "put", "claim", "strike", "read"] (hd (z :: zs)) = true := c
          unfold badE at r
          rw [c, Bool.true_or] at r
          exact r
        · have c : ¬ anyEq (.str z) ((["again", "key", "put", "claim", "strike", "read"] : List Str).map Da.str) = true := c
          rw [anyEq_strs] at c
          have c : inW ["again", "key", "put", "claim", "strike", "read"] (hd (z :: zs)) = false := Bool.eq_false_iff.2 c
          unfold badE at r
          rw [c, Bool.false_or] at r
          have p := pl_strs ((z :: zs).take 2)
          have p2 : dpL (List.map Da.str ((z :: zs).take 2)) = 0 := dpL_map (fun _ => rfl) _
          refine ⟨⟨p.1, by omega⟩, ?_⟩
          rw [show [Da.str "lock", Da.str "part"] = (["lock", "part"] : List Str).map Da.str from rfl, eqL_strs]
          exact r
    · rw [filter_true, List.map_map]
      have e : (ps.take j).map ((fun d => Da.bl (badE (unS d))) ∘ stD) = ((ps.take j).map badE).map Da.bl := by
        rw [List.map_map]
        refine List.map_congr_left fun zs _ => ?_
        show Da.bl (badE (unS (stD zs))) = _
        rw [unS_st]
        rfl
      rw [e]
      walk_at "m"
      rw [blsD_map]
      refine leave_same (q_bd q ?_)
      rw [List.any_map]
      rfl
  by_cases c2 : k = "read"
  · rw [if_pos c2]
    rw [decide_eq_true c2, Bool.not_true, Bool.false_or] at q
    refine ⟨⟨_, rfl⟩, pl_strs ws, ite2 (fun c => ?_) (fun c => ?_)⟩
    · have c1 : ¬ cntW ws "view" = 1 := fun e => c (by rw [e]; rfl)
      rw [decide_eq_false c1] at q
      exact leave_same q
    · have c1 : cntW ws "view" = 1 := by omega
      rw [decide_eq_true c1, Bool.true_and] at q
      exact fin q
  · rw [if_neg c2]
    rw [decide_eq_false c2, Bool.not_false, Bool.true_or, Bool.true_and] at q
    exact fin q
theorem asks_well_ok {ps : List (List Str)} {k : Str} {M : Mem} {Q : TK} {E : XD} (h : NE ps) (q : Q (.bl (asksP k ps (wsOf ps))) M) : f_asks_well [.lst (ps.map stD), .str k] M Q E := by
  unfold f_asks_well m_asks_well
  walk_at "m0"
  refine seq_hide fun N hN => ?_
  walk_at "m"
  refine words_of_ok h (hN _ _ ?_)
  clear hN
  have hw : (wsOf ps).length ≤ 12 := by
    unfold wsOf
    rw [List.length_map]
    exact h.1
  generalize hws : wsOf ps = ws at hw q
  unfold b_asks_well_1
  refine seq_hide fun N hN => ?_
  walk_at "m"
  refine ⟨by rw [enuD_len, List.length_map]; omega, enum_ok (F := deeds4) (by decide) (by simp) (by simp) (fun z hz i R r => ?_) (fun z hz i R r => ?_) trivial ?_⟩
  · walk_at "m"
    refine ⟨⟨by decide, by decide⟩, ?_⟩
    have e : anyEq (.str z) tab_DEEDS = inW deeds4 z := anyEq_strs z deeds4
    rw [e]
    exact r
  · walk_at "m"
    exact r
  refine hN _ _ ?_
  clear hN
  unfold asksP at q
  generalize idxs deeds4 ws = is at q ⊢
  unfold b_asks_well_2
  refine seq_hide fun N hN => ?_
  walk_at "m"
  match is, q with
  | [], q =>
    walk_at "m"
    exact leave_same q
  | i :: j :: r, q =>
    refine ite2 (fun _ => leave_same q) (fun c => ?_)
    exfalso
    refine c fun e => ?_
    rw [List.length_map] at e
    simp at e
    omega
  | [i], q =>
    walk_at "m"
    have q : Q (.bl (!(checks2.any fun w => decide (cntW ws w > 1)) && (!anyW (ws.drop i) ["border", "key", "again", "view"] && asksP3 k ps ws))) M := q
    have e2 : tab_CHECKS = checks2.map Da.str := rfl
    rw [e2]
    refine ⟨by decide, ?_⟩
    refine lcL_pure (fun _ => true) (fun d => match d with | .str w => .bl (decide (cntW ws w > 1)) | _ => .non) (fun d hd R r => r) (fun d hd _ R r => ?_) trivial ?_
    · obtain ⟨w, _, rfl⟩ := List.mem_map.1 hd
      walk_at "m"
      simp only [count_strs]
      refine ⟨⟨_, rfl⟩, pl_strs ws, ?_⟩
      have e : decide ((1 : Int) < (cntW ws w : Nat)) = decide (cntW ws w > 1) := by
        rw [decide_eq_decide]
        omega
      rw [e]
      exact r
    · rw [filter_true, List.map_map]
      have e : List.map ((fun d => match d with | Da.str w => Da.bl (decide (cntW ws w > 1)) | _ => .non) ∘ Da.str) checks2 = (checks2.map fun w => decide (cntW ws w > 1)).map Da.bl := by
        rw [List.map_map]
        rfl
      rw [e]
      walk_at "m"
      rw [blsD_map]
      dsimp only
      have e3 : (List.map (fun w => decide (cntW ws w > 1)) checks2).any id = checks2.any fun w => decide (cntW ws w > 1) := by
        rw [List.any_map]
        rfl
      rw [e3]
      cases c : checks2.any fun w => decide (cntW ws w > 1) with
      | true =>
        rw [c] at q
        exact leave_same q
      | false =>
        rw [c] at q
        refine hN _ _ ?_
        clear hN
        unfold b_asks_well_3
        refine seq_hide fun N hN => ?_
        walk_at "m"
        refine stand_ahead_ok (F := ["border", "key", "again", "view"]) (by omega) ?_
        dsimp only
        have q : Q (.bl (!anyW (ws.drop i) ["border", "key", "again", "view"] && asksP3 k ps ws)) M := q
        cases c2 : anyW (ws.drop i) ["border", "key", "again", "view"] with
        | true =>
          rw [c2] at q
          exact leave_same q
        | false =>
          rw [c2] at q
          exact hN _ _ (asks3_ok h hws.symm q)
end Z

namespace Z
open PySem PySem.Spec PyProof.Rows L2 Evl
theorem dec_iff {p q : Prop} {i : Decidable p} {j : Decidable q} (h : p ↔ q) : @decide p i = @decide q j := by
  by_cases c : p
  · rw [decide_eq_true c, decide_eq_true (h.1 c)]
  · rw [decide_eq_false c, decide_eq_false fun z => c (h.2 z)]
def cntS (ps : List (List Str)) (s : List Str) : Nat := ps.countP fun zs => decide (zs = s)
def changesP2 (k : Str) (ps : List (List Str)) (ws : List Str) : Bool := if inW ["split", "join"] k = true then decide (cntW ws "move" = 1) else decide (cntS ps ["scan", "new"] ≤ 1) && decide (cntS ps ["scan", "rest"] ≤ 1)
def changesP (k : Str) (ps : List (List Str)) (ws : List Str) : Bool := match idxs ["switch", "close"] ws with
  | [i] => !anyW (ws.drop i) ["move", "scan"] && (!(inW ws "wait" && decide (firstI ws "wait" < i)) && changesP2 k ps ws)
  | _ => false
theorem count_steps (ps : List (List Str)) (s : List Str) : (ps.map stD).countP (fun z => eqD z (.tup (s.map Da.str))) = cntS ps s := by
  unfold cntS
  rw [List.countP_map]
  congr 1
  funext zs
  show eqD (.tup (zs.map Da.str)) (.tup (s.map Da.str)) = _
  unfold eqD
  exact eqL_strs zs s
theorem pl_steps (ps : List (List Str)) : plL (ps.map stD) = true ∧ dpL (ps.map stD) ≤ 59 := by
  have p : ∀ d ∈ ps.map stD, plD d = true ∧ dpD d ≤ 1 := fun d hm => by
    obtain ⟨zs, _, rfl⟩ := List.mem_map.1 hm
    refine ⟨plL_strs zs, ?_⟩
    unfold stD dpD
    have : dpL (List.map Da.str zs) = 0 := dpL_map (fun _ => rfl) zs
    omega
  refine ⟨plL_all.2 fun d hm => (p d hm).1, ?_⟩
  have : dpL (ps.map stD) ≤ 1 := dpL_le.2 fun d hm => (p d hm).2
  omega
theorem find_mem {ws : List Str} {w : Str} (h : w ∈ ws) : ∃ j, (ws.findIdx? fun z => decide (z = w)) = some j := by
  cases e : ws.findIdx? fun z => decide (z = w) with
  | some j => exact ⟨j, rfl⟩
  | none =>
    rw [List.findIdx?_eq_none_iff] at e
    have := e w h
    simp at this
theorem changes2_ok {ps : List (List Str)} {ws : List Str} {k : Str} {s3 s4 s5 s6 : Option Da} {M : Mem} {Q : TK} {N : Sl → Mem → Prop} (h : NE ps) (hw : ws.length ≤ 12) (q : Q (.bl (changesP2 k ps ws)) M) :
    b_changes_well_4 { nx := N, rt := leave M.length Q } [some (.lst (ps.map stD)), some (.str k), some (.lst (ws.map Da.str)), s3, s4, s5, s6] M := by
  unfold b_changes_well_4
  refine seq_hide fun N hN => ?_
  walk_at "m"
  unfold changesP2 at q
  refine ite2 (fun c => ?_) (fun c => ?_)
  · have c : anyEq (.str k) ((["split", "join"] : List Str).map Da.str) = true := c
    rw [anyEq_strs] at c
    rw [if_pos (show inW ["split", "join"] k = true from c)] at q
    simp only [count_strs]
    refine ⟨⟨_, rfl⟩, pl_strs ws, leave_same (q_bd q ?_)⟩
    rw [decide_eq_decide]
    omega
  · have c : ¬ anyEq (.str k) ((["split", "join"] : List Str).map Da.str) = true := c
    rw [anyEq_strs] at c
    rw [if_neg (show ¬ inW ["split", "join"] k = true from c)] at q
    refine hN _ _ ?_
    clear hN
    unfold b_changes_well_5
    walk_at "m"
    have e2 : ([Da.str "new", Da.str "rest"] : List Da) = (["new", "rest"] : List Str).map Da.str := rfl
    rw [e2]
    refine lcL_pure (fun _ => true) (fun d => match d with | .str w => .bl (decide (cntS ps ["scan", w] ≤ 1)) | _ => .non) (fun d hm R r => r) (fun d hm _ R r => ?_) trivial ?_
    · obtain ⟨w, _, rfl⟩ := List.mem_map.1 hm
      walk_at "m"
      have e : (ps.map stD).countP (fun z => eqD z (.tup [.str "scan", .str w])) = cntS ps ["scan", w] := count_steps ps ["scan", w]
      have r : R (.bl (decide (cntS ps ["scan", w] ≤ 1))) M := r
      refine ⟨⟨_, rfl⟩, pl_steps ps, q_bd r (dec_iff ?_)⟩
      rw [e]
      omega
    · show leave M.length Q (.bl ([decide (cntS ps ["scan", "new"] ≤ 1), decide (cntS ps ["scan", "rest"] ≤ 1)].all id)) M
      refine leave_same (q_bd q ?_)
      simp
theorem changes_well_ok {ps : List (List Str)} {k : Str} {M : Mem} {Q : TK} {E : XD} (h : NE ps) (q : Q (.bl (changesP k ps (wsOf ps))) M) : f_changes_well [.lst (ps.map stD), .str k] M Q E := by
  unfold f_changes_well m_changes_well
  walk_at "m0"
  refine seq_hide fun N hN => ?_
  walk_at "m"
  refine words_of_ok h (hN _ _ ?_)
  clear hN
  have hw : (wsOf ps).length ≤ 12 := by
    unfold wsOf
    rw [List.length_map]
    exact h.1
  generalize hws : wsOf ps = ws at hw q
  unfold b_changes_well_1
  refine seq_hide fun N hN => ?_
  walk_at "m"
  refine ⟨by rw [enuD_len, List.length_map]; omega, enum_ok (F := ["switch", "close"]) (by decide) (by simp) (by simp) (fun z hz i R r => ?_) (fun z hz i R r => ?_) trivial ?_⟩
  · walk_at "m"
    have e : anyEq (.str z) [Da.str "switch", Da.str "close"] = inW ["switch", "close"] z := anyEq_strs z ["switch", "close"]
    rw [e]
    exact r
  · walk_at "m"
    exact r
  refine hN _ _ ?_
  clear hN
  unfold changesP at q
  generalize idxs ["switch", "close"] ws = is at q ⊢
  unfold b_changes_well_2
  refine seq_hide fun N hN => ?_
  walk_at "m"
  match is, q with
  | [], q =>
    walk_at "m"
    exact leave_same q
  | i :: j :: r, q =>
    refine ite2 (fun _ => leave_same q) (fun c => ?_)
    exfalso
    refine c fun e => ?_
    rw [List.length_map] at e
    simp at e
    omega
  | [i], q =>
    walk_at "m"
    have q : Q (.bl (!anyW (ws.drop i) ["move", "scan"] && (!(inW ws "wait" && decide (firstI ws "wait" < i)) && changesP2 k ps ws))) M := q
    refine stand_ahead_ok (F := ["move", "scan"]) (by omega) ?_
    dsimp only
    cases c2 : anyW (ws.drop i) ["move", "scan"] with
    | true =>
      rw [c2] at q
      exact leave_same q
    | false =>
      rw [c2] at q
      refine hN _ _ ?_
      clear hN
      unfold b_changes_well_3
      refine seq_hide fun N hN => ?_
      walk_at "m"
      have fin : Q (.bl (changesP2 k ps ws)) M → N [some (Da.lst (List.map stD ps)), some (Da.str k), some (Da.lst (List.map Da.str ws)), some (Da.lst [Da.int (i : Nat)]), none, none, none] M := fun q => hN _ _ (changes2_ok h hw q)
      clear hN
      have q : Q (.bl (!(inW ws "wait" && decide (firstI ws "wait" < i)) && changesP2 k ps ws)) M := q
      simp only [find_strs]
      refine ⟨pl_strs ws, ite2 (fun c => ?_) (fun c => ?_)⟩
      · rw [anyEq_strs] at c
        have c1 : inW ws "wait" = true := c
        obtain ⟨j, e⟩ := find_mem (of_decide_eq_true c)
        have ef : firstI ws "wait" = j := by
          unfold firstI
          rw [e]
          rfl
        rw [c1, Bool.true_and, ef] at q
        refine ⟨⟨_, rfl⟩, pl_strs ws, j, e, ite2 (fun c => ?_) (fun c => ?_)⟩
        · rw [decide_eq_true (show j < i by omega)] at q
          exact leave_same q
        · rw [decide_eq_false (show ¬ j < i by omega)] at q
          exact fin q
      · rw [anyEq_strs] at c
        have c1 : inW ws "wait" = false := Bool.eq_false_iff.2 c
        rw [c1] at q
        exact fin q
end Z

namespace Z
open PySem PySem.Spec PyProof.Rows L2 Evl
/-- a value that may be looked at as a program -/
def prOk : Da → Prop
  | .lst ds => ds.length ≤ 1000 ∧ dpL ds ≤ 30 ∧ ∀ d ∈ ds, pdd d = true ∧ lenOk d
  | _ => True
def restP (k : Str) (ps : List (List Str)) : Bool := endsP k (wsOf ps) && (if inW changes4 k = true then changesP k ps (wsOf ps) else asksP k ps (wsOf ps))
def progP (k : Str) : Da → Bool
  | .lst ds => decide (1 ≤ ds.length) && (decide (ds.length ≤ 12) && (ds.all (stepD k) && restP k (ds.map unS)))
  | _ => false
theorem stepD_inv {k : Str} {d : Da} (h : stepD k d = true) : ∃ zs, d = stD zs ∧ zs ≠ [] ∧ zs.length ≤ 3 := by
  unfold stepD at h
  split at h
  · rename_i z
    exact ⟨[z], rfl, by simp, by simp⟩
  · rename_i z a
    exact ⟨[z, a], rfl, by simp, by simp⟩
  · rename_i z a m
    exact ⟨[z, a, m], rfl, by simp, by simp⟩
  · cases h
theorem steps_inv {k : Str} {ds : List Da} (h : ds.all (stepD k) = true) (hl : ds.length ≤ 12) : ds = (ds.map unS).map stD ∧ NE (ds.map unS) := by
  rw [List.all_eq_true] at h
  refine ⟨?_, by rw [List.length_map]; exact hl, fun zs hz => ?_⟩
  · rw [List.map_map]
    refine (List.map_id ds).symm.trans (List.map_congr_left fun d hm => ?_)
    obtain ⟨zs, rfl, _⟩ := stepD_inv (h d hm)
    show stD zs = stD (unS (stD zs))
    rw [unS_st]
  · obtain ⟨d, hm, rfl⟩ := List.mem_map.1 hz
    obtain ⟨zs, rfl, h1, h2⟩ := stepD_inv (h d hm)
    rw [unS_st]
    exact ⟨h1, h2⟩
theorem has_program_ok {d : Da} {k : Str} {M : Mem} {Q : TK} {E : XD} (hp : pdd d = true) (hd : prOk d) (q : Q (.bl (progP k d)) M) : f_has_program [d, .str k] M Q E := by
  unfold f_has_program m_has_program
  walk_at "m0"
  cases d with
  | lst ds =>
    obtain ⟨hl, hdp, hi⟩ := hd
    replace q : Q (.bl (decide (1 ≤ ds.length) && (decide (ds.length ≤ 12) && (ds.all (stepD k) && restP k (ds.map unS))))) M := q
    refine seq_hide fun N hN => ?_
    walk_at "m"
    refine ite2 (fun c1 => ?_) (fun c1 => ?_)
    · refine ite2 (fun c2 => ?_) (fun c2 => ?_)
      · rw [decide_eq_false (show ¬ ds.length ≤ 12 by omega), Bool.false_and, Bool.and_false] at q
        exact leave_same q
      · have hl12 : ds.length ≤ 12 := by omega
        rw [decide_eq_true (show 1 ≤ ds.length by omega), decide_eq_true hl12, Bool.true_and, Bool.true_and] at q
        refine hN _ _ ?_
        clear hN
        refine seq_hide fun N hN => ?_
        walk_at "m"
        refine ⟨by omega, ?_⟩
        refine lcL_pure (fun _ => true) (fun d => .bl (stepD k d)) (fun d hm R r => r) (fun d hm _ R r => ?_) trivial ?_
        · walk_at "m"
          exact has_step_ok (hi d hm).1 (hi d hm).2 r
        · rw [filter_true, show (ds.map fun d => Da.bl (stepD k d)) = (ds.map (stepD k)).map Da.bl by rw [List.map_map]; rfl]
          walk_at "m"
          rw [blsD_map]
          dsimp only
          have e : (ds.map (stepD k)).all id = ds.all (stepD k) := by
            rw [List.all_map]
            rfl
          rw [e]
          cases c : ds.all (stepD k) with
          | false =>
            rw [c] at q
            exact leave_same q
          | true =>
            rw [c, Bool.true_and] at q
            obtain ⟨e1, hne⟩ := steps_inv c hl12
            have h0 : ds.map unS ≠ [] := fun z => by
              have := congrArg List.length z
              rw [List.length_map] at this
              simp at this
              subst this
              simp at c1
            generalize ds.map unS = ps at e1 hne h0 q
            subst e1
            unfold restP at q
            walk_at "m"
            refine ends_well_ok hne h0 ?_
            dsimp only
            cases c3 : endsP k (wsOf ps) with
            | false =>
              rw [c3] at q
              exact leave_same q
            | true =>
              rw [c3, Bool.true_and] at q
              refine hN _ _ ?_
              clear hN
              walk_at "m"
              refine ⟨⟨by decide, by decide⟩, ?_⟩
              have ec : anyEq (.str k) tab_CHANGES = inW changes4 k := anyEq_strs k changes4
              refine ite2 (fun c4 => ?_) (fun c4 => ?_)
              · rw [ec] at c4
                rw [if_pos c4] at q
                exact changes_well_ok hne (leave_same q)
              · rw [ec] at c4
                rw [if_neg c4] at q
                exact asks_well_ok hne (leave_same q)
    · rw [decide_eq_false (show ¬ 1 ≤ ds.length by omega), Bool.false_and] at q
      exact leave_same q
  | ty _ => cases hp
  | gl _ => cases hp
  | obj _ _ => cases hp
  | kl _ => cases hp
  | kt _ => cases hp
  | cell _ => cases hp
  | exv _ _ _ _ => cases hp
  | _ =>
    refine seq_hide fun N hN => ?_
    walk_at "m"
    exact leave_same q
theorem is_program_ok {d : Da} {k : Str} {M : Mem} {Q : TK} {E : XD} (hp : pdd d = true) (hd : prOk d) (hk : k ∈ kinds8) (q : Q (.bl (progP k d)) M) : f_is_program [d, .str k] M Q E := by
  unfold f_is_program m_is_program
  walk_at "m0"
  refine seq_hide fun N hN => ?_
  walk_at "m"
  refine need_kind_ok hk (hN _ _ ?_)
  walk_at "m"
  exact has_program_ok hp hd (leave_same q)
theorem is_program_no {d u : Da} {M : Mem} {Q : TK} {E : XD} (hu : plD u = true) (hd : dpD u ≤ 30) (hk : ∀ k ∈ kinds8, u ≠ .str k) (q : E "NoProgram" [("kind", u)] M) : f_is_program [d, u] M Q E := by
  unfold f_is_program m_is_program
  walk_at "m0"
  refine seq_hide fun N hN => ?_
  walk_at "m"
  exact need_kind_no hu hd hk (leaveX_same q)
end Z

/-! the law's side of k22 -/
namespace Z
open PySem PySem.Spec PyProof.Rows L2 Evl
def cntF (ws F : List Str) : Nat := (ws.filter (inW F)).length
theorem law_count_ok {ws F : List Str} {M : Mem} {Q : TK} {E : XD} (hw : ws.length ≤ 1000) (q : Q (.int (cntF ws F : Nat)) M) : f_law_count [.lst (ws.map Da.str), .lst (F.map Da.str)] M Q E := by
  unfold f_law_count m_law_count
  walk_at "m0"
  walk_at "m"
  refine ⟨by rw [List.length_map]; omega, ?_⟩
  refine lcL_pure (fun d => anyEq d (F.map Da.str)) id (fun d hm R r => ?_) (fun d hm _ R r => ?_) trivial ?_
  · obtain ⟨w, _, rfl⟩ := List.mem_map.1 hm
    walk_at "m"
    exact ⟨pl_strs F, r⟩
  · obtain ⟨w, _, rfl⟩ := List.mem_map.1 hm
    walk_at "m"
    exact r
  · have e : (List.filter (fun d => anyEq d (F.map Da.str)) (ws.map Da.str)) = (ws.filter (inW F)).map Da.str := by
      rw [List.filter_map]
      congr 1
      refine List.filter_congr fun z _ => ?_
      exact anyEq_strs z F
    rw [List.map_id, e]
    walk_at "m"
    rw [List.length_map]
    exact leave_same q
def endsR (F ws : List Str) : List Nat := (List.range ws.length).filter fun i => inW F (ws.getD i "")
/-- no word of G ahead of a word of F -/
def ordB (F G ws : List Str) : Bool := ((List.range ws.length).filter fun i => inW G (ws.getD i "") && (endsR F ws).any fun j => decide (i < j)).isEmpty
theorem atI_strs {ws : List Str} {i : Nat} (h : i < ws.length) : atI (ws.map Da.str) (i : Int) = some (.str (ws.getD i "")) := by
  rw [atI_nat', List.getElem?_map, List.getElem?_eq_getElem h, List.getD_eq_getElem?_getD, List.getElem?_eq_getElem h]
  rfl
theorem rngD_nat (n : Nat) : rngD 0 n = (List.range n).map fun (i : Nat) => Da.int (i : Nat) := by
  unfold rngD
  refine List.map_congr_left fun i _ => ?_
  rw [Int.zero_add]
theorem pl_nats (l : List Nat) : plL (l.map fun (i : Nat) => Da.int (i : Nat)) = true ∧ dpL (l.map fun (i : Nat) => Da.int (i : Nat)) ≤ 58 := by
  refine ⟨plL_all.2 fun d hm => ?_, ?_⟩
  · obtain ⟨i, _, rfl⟩ := List.mem_map.1 hm
    rfl
  · have : dpL (l.map fun (i : Nat) => Da.int (i : Nat)) ≤ 0 := dpL_le.2 fun d hm => by
      obtain ⟨i, _, rfl⟩ := List.mem_map.1 hm
      exact Nat.le_refl _
    omega
theorem law_order_ok {ws F G : List Str} {M : Mem} {Q : TK} {E : XD} (hw : ws.length ≤ 1000) (q : Q (.bl (ordB F G ws)) M) : f_law_order [.lst (ws.map Da.str), .lst (F.map Da.str), .lst (G.map Da.str)] M Q E := by
  unfold f_law_order m_law_order
  walk_at "m0"
  refine seq_hide fun N hN => ?_
  walk_at "m"
  rw [List.length_map, Int.toNat_natCast, rngD_nat]
  refine ⟨by omega, by omega, by rw [List.length_map, List.length_range]; omega, ?_⟩
  refine lcL_pure (fun d => match d with | .int i => inW F (ws.getD i.toNat "") | _ => false) id (fun d hm R r => ?_) (fun d hm _ R r => ?_) trivial ?_
  · obtain ⟨i, hi, rfl⟩ := List.mem_map.1 hm
    have hi := List.mem_range.1 hi
    walk_at "m"
    rw [atI_strs hi]
    dsimp only
    have r : R (inW F (ws.getD i "")) M := r
    refine ⟨pl_strs F, ⟨rfl, Nat.zero_le 59⟩, ?_⟩
    show R (anyEq (.str (ws.getD i "")) (F.map Da.str)) M
    rw [anyEq_strs]
    exact r
  · obtain ⟨i, hi, rfl⟩ := List.mem_map.1 hm
    walk_at "m"
    exact r
  · have e1 : List.map id (List.filter (fun d => match d with | Da.int i => inW F (ws.getD i.toNat "") | _ => false) ((List.range ws.length).map fun (i : Nat) => Da.int (i : Nat))) = (endsR F ws).map fun (i : Nat) => Da.int (i : Nat) := by
      rw [List.map_id, List.filter_map]
      rfl
    rw [e1]
    refine hN _ _ ?_
    clear hN
    walk_at "m"
    rw [List.length_map, Int.toNat_natCast, rngD_nat]
    refine ⟨by omega, by omega, by rw [List.length_map, List.length_range]; omega, ?_⟩
    refine lcL_pure (fun d => match d with | .int i => inW G (ws.getD i.toNat "") && (endsR F ws).any fun j => decide (i.toNat < j) | _ => false) id (fun d hm R r => ?_) (fun d hm _ R r => ?_) trivial ?_
    · obtain ⟨i, hi, rfl⟩ := List.mem_map.1 hm
      have hi := List.mem_range.1 hi
      have r : R (inW G (ws.getD i "") && (endsR F ws).any fun j => decide (i < j)) M := r
      walk_at "m"
      rw [atI_strs hi]
      dsimp only
      refine ⟨pl_strs G, ⟨rfl, Nat.zero_le 59⟩, ite2 (fun c => ?_) (fun c => ?_)⟩
      · have c : anyEq (.str (ws.getD i "")) (G.map Da.str) = true := c
        rw [anyEq_strs] at c
        rw [show inW G (ws.getD i "") = true from c, Bool.true_and] at r
        refine ⟨pl_nats _, ite2 (fun c => ?_) (fun c => ?_)⟩
        · rw [eqL_nil, List.isEmpty_map] at c
          refine ⟨(endsR F ws).map fun (i : Nat) => (i : Int), by rw [List.map_map]; rfl, ?_, fun m hm hmax => ?_⟩
          · rw [List.length_map]
            cases h : endsR F ws with
            | nil => rw [h] at c; cases c
            | cons a l => simp
          · obtain ⟨j, hj, rfl⟩ := List.mem_map.1 hm
            have e : ((endsR F ws).any fun j => decide (i < j)) = decide ((i : Int) < (j : Nat)) := by
              rw [Bool.eq_iff_iff, List.any_eq_true, decide_eq_true_eq]
              constructor
              · rintro ⟨y, hy, h⟩
                have := hmax y (List.mem_map_of_mem hy)
                have h := of_decide_eq_true h
                omega
              · intro h
                exact ⟨j, hj, decide_eq_true (by omega)⟩
            rw [e] at r
            exact r
        · rw [eqL_nil, List.isEmpty_map] at c
          have c : endsR F ws = [] := List.isEmpty_iff.1 (by simpa using c)
          rw [c] at r
          exact r
      · have c : ¬ anyEq (.str (ws.getD i "")) (G.map Da.str) = true := c
        rw [anyEq_strs] at c
        rw [show inW G (ws.getD i "") = false from Bool.eq_false_iff.2 c, Bool.false_and] at r
        exact r
    · obtain ⟨i, hi, rfl⟩ := List.mem_map.1 hm
      walk_at "m"
      exact r
    · have e2 : List.map id (List.filter (fun d => match d with | Da.int i => inW G (ws.getD i.toNat "") && (endsR F ws).any fun j => decide (i.toNat < j) | _ => false) ((List.range ws.length).map fun (i : Nat) => Da.int (i : Nat))) = ((List.range ws.length).filter fun i => inW G (ws.getD i "") && (endsR F ws).any fun j => decide (i < j)).map fun (i : Nat) => Da.int (i : Nat) := by
        rw [List.map_id, List.filter_map]
        rfl
      rw [e2]
      unfold ordB at q
      generalize (List.range ws.length).filter (fun i => inW G (ws.getD i "") && (endsR F ws).any fun j => decide (i < j)) = L at q ⊢
      have p := pl_nats L
      refine ⟨⟨p.1, ?_⟩, leave_same (q_bd q ?_)⟩
      · show dpL _ + 1 ≤ 59
        omega
      · show eqD (.lst _) (.lst []) = _
        unfold eqD
        rw [eqL_nil, List.isEmpty_map]
end Z

/-! the law's side of k22: _law_is_program -/
namespace Z
open PySem PySem.Spec PyProof.Rows L2 Evl
def scansOf (ps : List (List Str)) : List (List Str) := ps.filter fun zs => decide (hd zs = "scan")
def dupB (L : List (List Str)) : Bool := (((List.range L.length).filter fun i => (L.take i).any fun zs => decide (zs = L.getD i [])).isEmpty)
theorem anyEq_steps (zs : List Str) (L : List (List Str)) : anyEq (stD zs) (L.map stD) = L.any fun ys => decide (ys = zs) := by
  unfold anyEq
  rw [List.any_map]
  congr 1
  funext ys
  show eqD (.tup (ys.map Da.str)) (.tup (zs.map Da.str)) = _
  unfold eqD
  exact eqL_strs ys zs
theorem atI_steps {L : List (List Str)} {i : Nat} (h : i < L.length) : atI (L.map stD) (i : Int) = some (stD (L.getD i [])) := by
  rw [atI_nat', List.getElem?_map, List.getElem?_eq_getElem h, List.getD_eq_getElem?_getD, List.getElem?_eq_getElem h]
  rfl
theorem lip11 {L : List (List Str)} {s0 s1 s2 s3 s4 s6 s7 : Option Da} {M : Mem} {Q : TK} {N : Sl → Mem → Prop} (h : L.length ≤ 12) (q : Q (.bl (dupB L)) M) :
    b_law_is_program_11 { nx := N, rt := leave M.length Q } [s0, s1, s2, s3, s4, some (.lst (L.map stD)), s6, s7] M := by
  unfold b_law_is_program_11
  walk_at "m"
  rw [List.length_map, Int.toNat_natCast, rngD_nat]
  refine ⟨by omega, by omega, by rw [List.length_map, List.length_range]; omega, ?_⟩
  refine lcL_pure (fun d => match d with | .int i => (L.take i.toNat).any fun zs => decide (zs = L.getD i.toNat []) | _ => false) id (fun d hm R r => ?_) (fun d hm _ R r => ?_) trivial ?_
  · obtain ⟨i, hi, rfl⟩ := List.mem_map.1 hm
    have hi := List.mem_range.1 hi
    have r : R ((L.take i).any fun zs => decide (zs = L.getD i [])) M := r
    walk_at "m"
    rw [atI_steps hi]
    dsimp only
    have ec : cutL (L.map stD) none (some (i : Int)) = (L.take i).map stD := by
      rw [cutL_take _ (by omega), Int.toNat_natCast, List.map_take]
    rw [ec]
    have p1 : plD (stD (L.getD i [])) = true ∧ dpD (stD (L.getD i [])) ≤ 59 := ⟨plL_strs _, by
      show dpL _ + 1 ≤ 59
      have : dpL (List.map Da.str (L.getD i [])) = 0 := dpL_map (fun _ => rfl) _
      omega⟩
    refine ⟨pl_steps _, p1, ?_⟩
    show R (anyEq (stD (L.getD i [])) _) M
    rw [anyEq_steps]
    exact r
  · obtain ⟨i, hi, rfl⟩ := List.mem_map.1 hm
    walk_at "m"
    exact r
  · have e2 : List.map id (List.filter (fun d => match d with | Da.int i => (L.take i.toNat).any fun zs => decide (zs = L.getD i.toNat []) | _ => false) ((List.range L.length).map fun (i : Nat) => Da.int (i : Nat))) = ((List.range L.length).filter fun i => (L.take i).any fun zs => decide (zs = L.getD i [])).map fun (i : Nat) => Da.int (i : Nat) := by
      rw [List.map_id, List.filter_map]
      rfl
    rw [e2]
    unfold dupB at q
    generalize (List.range L.length).filter (fun i => (L.take i).any fun zs => decide (zs = L.getD i [])) = I at q ⊢
    walk_at "m"
    refine ⟨pl_nats I, leave_same (q_bd q ?_)⟩
    rw [eqL_nil, List.isEmpty_map]
theorem lip10 {ps : List (List Str)} {s1 s2 s3 s4 s5 s6 s7 : Option Da} {M : Mem} {Q : TK} {N : Sl → Mem → Prop} (h : NE ps) (q : Q (.bl (dupB (scansOf ps))) M) :
    b_law_is_program_10 { nx := N, rt := leave M.length Q } [some (.lst (ps.map stD)), s1, s2, s3, s4, s5, s6, s7] M := by
  unfold b_law_is_program_10
  refine seq_hide fun N hN => ?_
  walk_at "m"
  refine ⟨by rw [List.length_map]; have := h.1; omega, ?_⟩
  refine lcL_pure (fun d => decide (hd (unS d) = "scan")) id (fun d hm R r => ?_) (fun d hm _ R r => ?_) trivial ?_
  · obtain ⟨zs, hz, rfl⟩ := List.mem_map.1 hm
    rw [unS_st] at r
    obtain ⟨hn, h3⟩ := h.2 zs hz
    match zs, hn, r with
    | z :: zs, _, r =>
      unfold stD
      walk_at "m"
      exact r
  · obtain ⟨zs, hz, rfl⟩ := List.mem_map.1 hm
    walk_at "m"
    exact r
  · have e : List.map id (List.filter (fun d => decide (hd (unS d) = "scan")) (ps.map stD)) = (scansOf ps).map stD := by
      rw [List.map_id, List.filter_map]
      unfold scansOf
      congr 1
      refine List.filter_congr fun zs _ => ?_
      show decide (hd (unS (stD zs)) = "scan") = _
      rw [unS_st]
    rw [e]
    refine hN _ _ (lip11 ?_ q)
    have := List.length_filter_le (fun zs => decide (hd zs = ("scan" : Str))) ps
    have h1 := h.1
    unfold scansOf
    omega
def chgL (k : Str) (ps : List (List Str)) (ws : List Str) : Bool :=
  decide (cntF ws ["switch", "close"] = 1) && (ordB ["move", "scan"] ["switch", "close"] ws && (ordB ["switch", "close"] ["wait"] ws && (!(inW ws "wait" && inW ws "close") && (!(inW ["split", "join"] k && !decide (cntF ws ["move"] = 1)) && dupB (scansOf ps)))))
theorem lip7 {ps : List (List Str)} {ws : List Str} {k : Str} {s3 s4 s5 s6 s7 : Option Da} {M : Mem} {Q : TK} {N : Sl → Mem → Prop} (h : NE ps) (hw : ws.length ≤ 12) (q : Q (.bl (chgL k ps ws)) M) :
    b_law_is_program_7 { nx := N, rt := leave M.length Q } [some (.lst (ps.map stD)), some (.str k), some (.lst (ws.map Da.str)), s3, s4, s5, s6, s7] M := by
  unfold chgL at q
  unfold b_law_is_program_7
  refine seq_hide fun N hN => ?_
  refine if_hide fun T U hT hU => ?_
  walk_at "m"
  refine law_count_ok (F := ["switch", "close"]) (by omega) ?_
  walk_at "m"
  refine ite2 (fun c => hT _ ?_) (fun c => ?_)
  · rw [decide_eq_false (show ¬ cntF ws ["switch", "close"] = 1 by omega), Bool.false_and] at q
    walk_at "m"
    exact leave_same q
  rw [decide_eq_true (show cntF ws ["switch", "close"] = 1 by omega), Bool.true_and] at q
  refine law_order_ok (F := ["move", "scan"]) (G := ["switch", "close"]) (by omega) ?_
  dsimp only
  cases c2 : ordB ["move", "scan"] ["switch", "close"] ws with
  | false =>
    rw [c2] at q
    refine hT _ ?_
    walk_at "m"
    exact leave_same q
  | true =>
    rw [c2, Bool.true_and] at q
    refine hU _ (next_run (hN _ _ ?_))
    clear hT hU hN
    unfold b_law_is_program_8
    refine seq_hide fun N hN => ?_
    refine if_hide fun T U hT hU => ?_
    walk_at "m"
    refine law_order_ok (F := ["switch", "close"]) (G := ["wait"]) (by omega) ?_
    dsimp only
    cases c3 : ordB ["switch", "close"] ["wait"] ws with
    | false =>
      rw [c3] at q
      refine hT _ ?_
      walk_at "m"
      exact leave_same q
    | true =>
      rw [c3, Bool.true_and] at q
      have fin : Q (.bl (!(inW ["split", "join"] k && !decide (cntF ws ["move"] = 1)) && dupB (scansOf ps))) M → U M := by
        intro q
        refine hU _ (next_run (hN _ _ ?_))
        clear hT hU hN
        unfold b_law_is_program_9
        refine seq_hide fun N hN => ?_
        refine if_hide fun T U hT hU => ?_
        walk_at "m"
        refine ite2 (fun c => ?_) (fun c => ?_)
        · have c : anyEq (.str k) ((["split", "join"] : List Str).map Da.str) = true := c
          rw [anyEq_strs] at c
          rw [show inW ["split", "join"] k = true from c, Bool.true_and] at q
          refine law_count_ok (F := ["move"]) (by omega) ?_
          walk_at "m"
          refine ite2 (fun c => hT _ ?_) (fun c => hU _ (next_run (hN _ _ (lip10 h ?_))))
          · rw [decide_eq_false (show ¬ cntF ws ["move"] = 1 by omega)] at q
            walk_at "m"
            exact leave_same q
          · rw [decide_eq_true (show cntF ws ["move"] = 1 by omega)] at q
            exact q
        · have c : ¬ anyEq (.str k) ((["split", "join"] : List Str).map Da.str) = true := c
          rw [anyEq_strs] at c
          rw [show inW ["split", "join"] k = false from Bool.eq_false_iff.2 c, Bool.false_and] at q
          exact hU _ (next_run (hN _ _ (lip10 h q)))
      rw [if_neg (by decide)]
      refine ⟨pl_strs ws, ite2 (fun c => ?_) (fun c => ?_)⟩
      · rw [anyEq_strs] at c
        rw [show inW ws "wait" = true from c, Bool.true_and] at q
        refine ⟨pl_strs ws, ite2 (fun c => ?_) (fun c => ?_)⟩
        · rw [anyEq_strs] at c
          rw [show inW ws "close" = true from c] at q
          refine hT _ ?_
          walk_at "m"
          exact leave_same q
        · rw [anyEq_strs] at c
          rw [show inW ws "close" = false from Bool.eq_false_iff.2 c] at q
          exact fin q
      · rw [anyEq_strs] at c
        rw [show inW ws "wait" = false from Bool.eq_false_iff.2 c] at q
        exact fin q
def first4 : List Str := ["put", "strike", "read", "direct"]
def askL3 (k : Str) (ws : List Str) : Bool := decide (k = "direct") || (decide (cntF ws ["look"] = 1) && (!(decide (k = "read") && !decide (cntF ws ["view"] = 1)) && ordB ["look"] ["part", "again", "key", "put", "claim", "strike", "read"] ws))
def askL (k : Str) (ws : List Str) : Bool :=
  decide (cntF ws deeds4 = 1) && (decide (cntF ws ["border"] ≤ 1) && (decide (cntF ws ["key"] ≤ 1) && (ordB ["border", "key", "again", "view"] deeds4 ws && askL3 k ws)))
theorem lip6 {ps : List (List Str)} {ws : List Str} {k : Str} {s3 s5 s6 s7 : Option Da} {M : Mem} {Q : TK} {N : Sl → Mem → Prop} (h : NE ps) (hw : ws.length ≤ 12) (q : Q (.bl (if inW first4 k = true then askL k ws else chgL k ps ws)) M) :
    b_law_is_program_6 { nx := N, rt := leave M.length Q } [some (.lst (ps.map stD)), some (.str k), some (.lst (ws.map Da.str)), s3, some (.lst (deeds4.map Da.str)), s5, s6, s7] M := by
  unfold b_law_is_program_6
  refine seq_run (if_hide fun T U hT hU => ?_)
  walk_at "m"
  refine law_kinds_ok ?_
  walk_at "m"
  have ec : cutL (kinds8.map Da.str) none (some 4) = first4.map Da.str := by
    rw [cutL_take _ (by decide)]
    rfl
  rw [ec]
  refine ⟨pl_strs first4, ite2 (fun c => hT _ ?_) (fun c => hU _ (next_run (lip7 h hw ?_)))⟩
  · rw [anyEq_strs] at c
    rw [if_pos (show inW first4 k = true from c)] at q
    clear hT hU
    unfold askL at q
    refine seq_hide fun N hN => if_hide fun T U hT hU => ?_
    walk_at "m"
    refine law_count_ok (F := deeds4) (by omega) ?_
    walk_at "m"
    refine ite2 (fun c => hT _ ?_) (fun c => ?_)
    · rw [decide_eq_false (show ¬ cntF ws deeds4 = 1 by omega), Bool.false_and] at q
      walk_at "m"
      exact leave_same q
    rw [decide_eq_true (show cntF ws deeds4 = 1 by omega), Bool.true_and] at q
    refine law_count_ok (F := ["border"]) (by omega) ?_
    walk_at "m"
    refine ite2 (fun c => hT _ ?_) (fun c => ?_)
    · rw [decide_eq_false (show ¬ cntF ws ["border"] ≤ 1 by omega), Bool.false_and] at q
      walk_at "m"
      exact leave_same q
    rw [decide_eq_true (show cntF ws ["border"] ≤ 1 by omega), Bool.true_and] at q
    refine law_count_ok (F := ["key"]) (by omega) ?_
    walk_at "m"
    refine ite2 (fun c => hT _ ?_) (fun c => hU _ (next_run (hN _ _ ?_)))
    · rw [decide_eq_false (show ¬ cntF ws ["key"] ≤ 1 by omega), Bool.false_and] at q
      walk_at "m"
      exact leave_same q
    rw [decide_eq_true (show cntF ws ["key"] ≤ 1 by omega), Bool.true_and] at q
    clear hT hU hN
    refine seq_hide fun N hN => if_hide fun T U hT hU => ?_
    walk_at "m"
    refine law_order_ok (F := ["border", "key", "again", "view"]) (G := deeds4) (by omega) ?_
    dsimp only
    cases c2 : ordB ["border", "key", "again", "view"] deeds4 ws with
    | false =>
      rw [c2] at q
      refine hT _ ?_
      walk_at "m"
      exact leave_same q
    | true =>
      rw [c2, Bool.true_and] at q
      refine hU _ (next_run (hN _ _ ?_))
      clear hT hU hN
      unfold askL3 at q
      refine seq_hide fun N hN => if_hide fun T U hT hU => ?_
      walk_at "m"
      by_cases c3 : k = "direct"
      · rw [if_pos c3]
        rw [decide_eq_true c3] at q
        refine hT _ ?_
        walk_at "m"
        exact leave_same q
      rw [if_neg c3]
      rw [decide_eq_false c3, Bool.false_or] at q
      refine hU _ (next_run (hN _ _ ?_))
      clear hT hU hN
      refine seq_hide fun N hN => if_hide fun T U hT hU => ?_
      walk_at "m"
      refine law_count_ok (F := ["look"]) (by omega) ?_
      walk_at "m"
      refine ite2 (fun c => hT _ ?_) (fun c => ?_)
      · rw [decide_eq_false (show ¬ cntF ws ["look"] = 1 by omega), Bool.false_and] at q
        walk_at "m"
        exact leave_same q
      rw [decide_eq_true (show cntF ws ["look"] = 1 by omega), Bool.true_and] at q
      have fin : Q (.bl (ordB ["look"] ["part", "again", "key", "put", "claim", "strike", "read"] ws)) M → U M := by
        intro q
        refine hU _ (next_run (hN _ _ ?_))
        clear hT hU hN
        walk_at "m"
        refine ⟨by rw [sizeLine_eq]; decide, law_order_ok (F := ["look"]) (G := ["part", "again", "key", "put", "claim", "strike", "read"]) (by omega) (leave_same q)⟩
      by_cases c4 : k = "read"
      · rw [if_pos c4]
        rw [decide_eq_true c4, Bool.true_and] at q
        refine law_count_ok (F := ["view"]) (by omega) ?_
        walk_at "m"
        refine ite2 (fun c => hT _ ?_) (fun c => ?_)
        · rw [decide_eq_false (show ¬ cntF ws ["view"] = 1 by omega)] at q
          walk_at "m"
          exact leave_same q
        · rw [decide_eq_true (show cntF ws ["view"] = 1 by omega)] at q
          exact fin q
      · rw [if_neg c4]
        rw [decide_eq_false c4, Bool.false_and] at q
        exact fin q
  · rw [anyEq_strs] at c
    rw [if_neg (show ¬ inW first4 k = true from c)] at q
    exact q
def wrd (zs : List Str) : Str := if zs.take 2 = (["lock", "part"] : List Str) then "part" else hd zs
def lws (ps : List (List Str)) : List Str := ps.map wrd
def lastL (k : Str) : List Str := if inW first4 k = true then ["end"] else ["end", "close"]
def restL (k : Str) (ps : List (List Str)) (ws : List Str) : Bool := (match ws.getLast? with | some z => inW (lastL k) z | none => false) && (decide (cntF ws.dropLast ["end", "close"] = 0) && (if inW first4 k = true then askL k ws else chgL k ps ws))
def progL (k : Str) : Da → Bool
  | .lst ds => decide (1 ≤ ds.length) && (decide (ds.length ≤ 12) && (ds.all (stepD k) && restL k (ds.map unS) (lws (ds.map unS))))
  | _ => false
theorem lip4 {ps : List (List Str)} {ws : List Str} {k : Str} {s4 s5 s6 s7 : Option Da} {M : Mem} {Q : TK} {N : Sl → Mem → Prop} (h : NE ps) (hw : ws.length ≤ 12) (h0 : ws ≠ []) (q : Q (.bl (restL k ps ws)) M) :
    b_law_is_program_4 { nx := N, rt := leave M.length Q } [some (.lst (ps.map stD)), some (.str k), some (.lst (ws.map Da.str)), some (.lst ((lastL k).map Da.str)), s4, s5, s6, s7] M := by
  unfold restL at q
  unfold b_law_is_program_4
  refine seq_hide fun N hN => if_hide fun T U hT hU => ?_
  obtain ⟨init, z, e⟩ : ∃ init z, ws = init ++ [z] := ⟨ws.dropLast, ws.getLast h0, (List.dropLast_concat_getLast h0).symm⟩
  have e1 : (List.map Da.str ws).getLast? = some (Da.str z) := by
    rw [e, List.map_append, List.map_singleton, List.getLast?_concat]
  have e2 : cutL (List.map Da.str ws) none (some (-1)) = init.map Da.str := by
    rw [e, List.map_append, List.map_singleton, cutL_m1]
  have e3 : ws.getLast? = some z := by rw [e, List.getLast?_concat]
  have e4 : ws.dropLast = init := by rw [e, List.dropLast_concat]
  have hi : init.length ≤ 12 := by
    rw [e, List.length_append] at hw
    omega
  rw [e3, e4] at q
  walk_at "m"
  rw [e1]
  dsimp only
  walk_at "m"
  refine ⟨pl_strs _, ite2 (fun c => hT _ ?_) (fun c => ?_)⟩
  · rw [anyEq_strs] at c
    have c : inW (lastL k) z = false := c
    have q : Q (.bl (inW (lastL k) z && (decide (cntF init ["end", "close"] = 0) && (if inW first4 k = true then askL k ws else chgL k ps ws)))) M := q
    rw [c, Bool.false_and] at q
    walk_at "m"
    exact leave_same q
  · rw [anyEq_strs] at c
    have c : inW (lastL k) z = true := by
      unfold inW
      simpa using c
    have q : Q (.bl (inW (lastL k) z && (decide (cntF init ["end", "close"] = 0) && (if inW first4 k = true then askL k ws else chgL k ps ws)))) M := q
    rw [c, Bool.true_and] at q
    rw [e2]
    refine law_count_ok (F := ["end", "close"]) (by omega) ?_
    walk_at "m"
    refine ite2 (fun c => hT _ ?_) (fun c => hU _ (next_run (hN _ _ ?_)))
    · rw [decide_eq_false (show ¬ cntF init ["end", "close"] = 0 by omega), Bool.false_and] at q
      walk_at "m"
      exact leave_same q
    · rw [decide_eq_true (show cntF init ["end", "close"] = 0 by omega), Bool.true_and] at q
      clear hT hU hN
      unfold b_law_is_program_5
      refine seq_hide fun N hN => ?_
      walk_at "m"
      exact hN _ _ (lip6 h hw q)
theorem law_is_program_ok {d : Da} {k : Str} {M : Mem} {Q : TK} {E : XD} (hp : pdd d = true) (hd : prOk d) (q : Q (.bl (progL k d)) M) : f_law_is_program [d, .str k] M Q E := by
  unfold f_law_is_program m_law_is_program
  walk_at "m0"
  cases d with
  | lst ds =>
    obtain ⟨hl, hdp, hi⟩ := hd
    replace q : Q (.bl (decide (1 ≤ ds.length) && (decide (ds.length ≤ 12) && (ds.all (stepD k) && restL k (ds.map unS) (lws (ds.map unS)))))) M := q
    refine seq_hide fun N hN => ?_
    walk_at "m"
    refine ite2 (fun c1 => ?_) (fun c1 => ?_)
    · rw [decide_eq_false (show ¬ 1 ≤ ds.length by omega), Bool.false_and] at q
      exact leave_same q
    refine ite2 (fun c2 => ?_) (fun c2 => ?_)
    · rw [decide_eq_false (show ¬ ds.length ≤ 12 by omega), Bool.false_and, Bool.and_false] at q
      exact leave_same q
    have hl12 : ds.length ≤ 12 := by omega
    rw [decide_eq_true (show 1 ≤ ds.length by omega), decide_eq_true hl12, Bool.true_and, Bool.true_and] at q
    refine hN _ _ ?_
    clear hN
    unfold b_law_is_program_1
    refine seq_hide fun N hN => ?_
    walk_at "m"
    refine ⟨by omega, ?_⟩
    refine lcL_pure (fun d => !stepD k d) id (fun d hm R r => ?_) (fun d hm _ R r => ?_) trivial ?_
    · walk_at "m"
      exact law_is_step_ok (hi d hm).1 (hi d hm).2 r
    · walk_at "m"
      exact r
    · rw [List.map_id]
      have hp : plL ds = true := hp
      have p1 : plL (ds.filter fun d => !stepD k d) = true := plL_all.2 fun d hm => plL_mem hp d (List.mem_filter.1 hm).1
      have p2 : dpL (ds.filter fun d => !stepD k d) ≤ 30 := dpL_le.2 fun d hm => dpL_le.1 hdp d (List.mem_filter.1 hm).1
      have e1 : (ds.filter fun d => !stepD k d).isEmpty = ds.all (stepD k) := by
        have h := all_filter (stepD k) id ds
        rw [List.map_id] at h
        exact h.symm
      refine ⟨⟨p1, by show dpL _ + 1 ≤ 59; omega⟩, ite2 (fun c => ?_) (fun c => ?_)⟩
      · have c : eqD (.lst (ds.filter fun d => !stepD k d)) (.lst []) = false := c
        unfold eqD at c
        rw [eqL_nil, e1] at c
        rw [c] at q
        exact leave_same q
      · have c : ¬ eqD (.lst (ds.filter fun d => !stepD k d)) (.lst []) = false := c
        unfold eqD at c
        rw [eqL_nil, e1] at c
        have c : ds.all (stepD k) = true := by simpa using c
        rw [c, Bool.true_and] at q
        obtain ⟨e3, hne⟩ := steps_inv c hl12
        have h0 : ds.map unS ≠ [] := fun z => by
          have := congrArg List.length z
          rw [List.length_map] at this
          simp at this
          subst this
          simp at c1
        generalize ds.map unS = ps at e3 hne h0 q
        subst e3
        refine hN _ _ ?_
        clear hN
        unfold b_law_is_program_2
        refine seq_hide fun N hN => ?_
        walk_at "m"
        refine ⟨by rw [List.length_map]; have := hne.1; omega, ?_⟩
        refine lcL_pure (fun _ => true) (fun d => .str (wrd (unS d))) (fun d hm R r => r) (fun d hm _ R r => ?_) trivial ?_
        · obtain ⟨zs, hz, rfl⟩ := List.mem_map.1 hm
          rw [unS_st] at r
          obtain ⟨hn, h3⟩ := hne.2 zs hz
          match zs, hn, r with
          | z :: zs, _, r =>
            unfold stD
            walk_at "m"
            have e3 : cutL (Da.str z :: List.map Da.str zs) none (some 2) = ((z :: zs).take 2).map Da.str := by
              show cutL ((z :: zs).map Da.str) none (some 2) = _
              rw [cutL_take _ (by decide), ← List.map_take]
              rfl
            rw [e3]
            have p := pl_strs ((z :: zs).take 2)
            have p2 : dpL (List.map Da.str ((z :: zs).take 2)) = 0 := dpL_map (fun _ => rfl) _
            unfold wrd at r
            refine ⟨⟨p.1, by omega⟩, ite2 (fun c => ?_) (fun c => ?_)⟩
            · have c : eqL (((z :: zs).take 2).map Da.str) ((["lock", "part"] : List Str).map Da.str) = true := c
              rw [eqL_strs] at c
              rw [if_pos (of_decide_eq_true c)] at r
              exact r
            · have c : ¬ eqL (((z :: zs).take 2).map Da.str) ((["lock", "part"] : List Str).map Da.str) = true := c
              rw [eqL_strs] at c
              rw [if_neg (fun h => c (decide_eq_true h))] at r
              exact r
        · rw [filter_true, List.map_map]
          have e : ps.map ((fun d => Da.str (wrd (unS d))) ∘ stD) = (lws ps).map Da.str := by
            unfold lws
            rw [List.map_map]
            refine List.map_congr_left fun zs _ => ?_
            show Da.str (wrd (unS (stD zs))) = _
            rw [unS_st]
            rfl
          rw [e]
          refine hN _ _ ?_
          clear hN
          have hw : (lws ps).length ≤ 12 := by
            unfold lws
            rw [List.length_map]
            exact hne.1
          have hw0 : lws ps ≠ [] := by
            unfold lws
            simpa using h0
          generalize lws ps = ws at hw hw0 q
          unfold b_law_is_program_3
          refine seq_hide fun N hN => ?_
          walk_at "m"
          refine law_kinds_ok ?_
          walk_at "m"
          have ec : cutL (kinds8.map Da.str) none (some 4) = first4.map Da.str := by
            rw [cutL_take _ (by decide)]
            rfl
          rw [ec]
          have fin : N [some (Da.lst (List.map stD ps)), some (Da.str k), some (Da.lst (List.map Da.str ws)), some (Da.lst ((lastL k).map Da.str)), none, none, none, none] M := hN _ _ (lip4 hne hw hw0 q)
          unfold lastL at fin
          refine ⟨pl_strs first4, ite2 (fun c => ?_) (fun c => ?_)⟩
          · rw [anyEq_strs] at c
            rw [if_pos (show inW first4 k = true from c)] at fin
            exact fin
          · rw [anyEq_strs] at c
            rw [if_neg (show ¬ inW first4 k = true from c)] at fin
            exact fin
  | ty _ => cases hp
  | gl _ => cases hp
  | obj _ _ => cases hp
  | kl _ => cases hp
  | kt _ => cases hp
  | cell _ => cases hp
  | exv _ _ _ _ => cases hp
  | _ =>
    refine seq_hide fun N hN => ?_
    walk_at "m"
    exact leave_same q
end Z

/-! the plain law of k22 -/
namespace Z
open PySem PySem.Spec PyProof.Rows L2 Evl
theorem inW_wrd {F : List Str} (h1 : inW F "lock" = false) (h2 : inW F "part" = false) (zs : List Str) : inW F (wrd zs) = inW F (hd zs) := by
  unfold wrd
  split
  · rename_i e
    have : hd zs = "lock" := by
      match zs, e with
      | z :: r, e =>
        rw [List.take_succ_cons] at e
        exact (List.cons.inj e).1
      | [], e => cases e
    rw [this, h1, h2]
  · rfl
theorem filter_map_len {α β : Type} (f : α → β) (p : β → Bool) (l : List α) : ((l.map f).filter p).length = (l.filter fun a => p (f a)).length := by
  rw [List.filter_map, List.length_map]
  rfl
theorem cntF_wrd {F : List Str} (h1 : inW F "lock" = false) (h2 : inW F "part" = false) (ps : List (List Str)) : cntF (lws ps) F = cntF (wsOf ps) F := by
  unfold cntF lws wsOf
  rw [filter_map_len, filter_map_len]
  congr 1
  exact List.filter_congr fun zs _ => inW_wrd h1 h2 zs
theorem getD_map {f : List Str → Str} {ps : List (List Str)} {i : Nat} (h : i < ps.length) : (ps.map f).getD i "" = f (ps.getD i []) := by
  rw [List.getD_eq_getElem?_getD, List.getElem?_map, List.getElem?_eq_getElem h, List.getD_eq_getElem?_getD, List.getElem?_eq_getElem h]
  rfl
theorem endsR_wrd {F : List Str} (h1 : inW F "lock" = false) (h2 : inW F "part" = false) (ps : List (List Str)) : endsR F (lws ps) = endsR F (wsOf ps) := by
  unfold endsR lws wsOf
  rw [List.length_map, List.length_map]
  refine List.filter_congr fun i hi => ?_
  have hi := List.mem_range.1 hi
  rw [getD_map hi, getD_map hi, inW_wrd h1 h2]
theorem ordB_wrd {F G : List Str} (h1 : inW F "lock" = false) (h2 : inW F "part" = false) (h3 : inW G "lock" = false) (h4 : inW G "part" = false) (ps : List (List Str)) : ordB F G (lws ps) = ordB F G (wsOf ps) := by
  unfold ordB
  rw [endsR_wrd h1 h2]
  congr 1
  unfold lws wsOf
  rw [List.length_map, List.length_map]
  refine List.filter_congr fun i hi => ?_
  have hi := List.mem_range.1 hi
  rw [getD_map hi, getD_map hi, inW_wrd h3 h4]
theorem idxs_range (F : List Str) : ∀ (ws : List Str) (n : Nat), ((ws.zipIdx n).filter fun p => inW F p.1).map (·.2) = ((List.range ws.length).filter fun i => inW F (ws.getD i "")).map (· + n)
  | [], n => rfl
  | z :: ws, n => by
    rw [List.zipIdx_cons, List.length_cons, List.range_succ_eq_map, List.filter_cons, List.filter_cons, List.filter_map]
    have ih := idxs_range F ws (n + 1)
    have e : List.filter ((fun i => inW F ((z :: ws).getD i "")) ∘ Nat.succ) (List.range ws.length) = (List.range ws.length).filter fun i => inW F (ws.getD i "") := by
      refine List.filter_congr fun i _ => ?_
      rfl
    rw [e]
    show List.map _ (if inW F z = true then _ else _) = List.map _ (if inW F z = true then _ else _)
    cases inW F z with
    | true =>
      rw [if_pos rfl, if_pos rfl, List.map_cons, List.map_cons, ih, List.map_map]
      congr 1
      · omega
      · refine List.map_congr_left fun i _ => ?_
        show i + (n + 1) = Nat.succ i + n
        omega
    | false =>
      rw [if_neg (by decide), if_neg (by decide), ih, List.map_map]
      refine List.map_congr_left fun i _ => ?_
      show i + (n + 1) = Nat.succ i + n
      omega
theorem idxs_ends (F ws : List Str) : idxs F ws = endsR F ws := by
  unfold idxs endsR
  rw [idxs_range F ws 0]
  simp
theorem cnt_range {F : List Str} : ∀ ws : List Str, cntF ws F = (endsR F ws).length := by
  intro ws
  rw [← idxs_ends]
  unfold idxs cntF
  rw [List.length_map]
  have : ∀ (ws : List Str) (n : Nat), (ws.filter (inW F)).length = ((ws.zipIdx n).filter fun p => inW F p.1).length := by
    intro ws
    induction ws with
    | nil => intro n; rfl
    | cons z ws ih =>
      intro n
      rw [List.zipIdx_cons, List.filter_cons, List.filter_cons]
      show _ = List.length (if inW F z = true then _ else _)
      cases inW F z with
      | true => rw [if_pos rfl, if_pos rfl, List.length_cons, List.length_cons, ih (n + 1)]
      | false => rw [if_neg (by decide), if_neg (by decide), ih (n + 1)]
  exact this ws 0
theorem mem_ends {F ws : List Str} {i : Nat} : i ∈ endsR F ws ↔ i < ws.length ∧ inW F (ws.getD i "") = true := by
  unfold endsR
  rw [List.mem_filter, List.mem_range]
/-- by places -/
theorem ordB_iff {F G ws : List Str} : ordB F G ws = true ↔ ∀ i ∈ endsR G ws, ∀ j ∈ endsR F ws, ¬ i < j := by
  unfold ordB
  rw [List.isEmpty_iff, List.filter_eq_nil_iff]
  constructor
  · intro h i hi j hj lt
    obtain ⟨h1, h2⟩ := mem_ends.1 hi
    refine h i (List.mem_range.2 h1) ?_
    rw [h2, Bool.true_and, List.any_eq_true]
    exact ⟨j, hj, decide_eq_true lt⟩
  · intro h i hi c
    rw [Bool.and_eq_true, List.any_eq_true] at c
    obtain ⟨c1, j, hj, lt⟩ := c
    exact h i (mem_ends.2 ⟨List.mem_range.1 hi, c1⟩) j hj (of_decide_eq_true lt)
theorem drop_iff {F ws : List Str} {n : Nat} : anyW (ws.drop n) F = true ↔ ∃ j ∈ endsR F ws, n ≤ j := by
  unfold anyW
  rw [List.any_eq_true]
  constructor
  · rintro ⟨z, hz, h⟩
    obtain ⟨i, hi, rfl⟩ := List.mem_iff_getElem.1 hz
    rw [List.length_drop] at hi
    refine ⟨n + i, mem_ends.2 ⟨by omega, ?_⟩, by omega⟩
    rw [List.getElem_drop] at h
    rw [List.getD_eq_getElem?_getD, List.getElem?_eq_getElem (by omega)]
    exact h
  · rintro ⟨j, hj, hn⟩
    obtain ⟨h1, h2⟩ := mem_ends.1 hj
    refine ⟨ws.getD j "", ?_, h2⟩
    rw [List.getD_eq_getElem?_getD, List.getElem?_eq_getElem h1]
    rw [List.mem_iff_getElem]
    exact ⟨j - n, by rw [List.length_drop]; omega, by rw [List.getElem_drop]; congr 1; omega⟩
end Z

/-! the plain law of k22: asks -/
namespace Z
open PySem PySem.Spec PyProof.Rows L2 Evl
theorem ord_one {F G ws : List Str} {i : Nat} (hG : endsR G ws = [i]) (dis : ∀ z, inW G z = true → inW F z = false) : ordB F G ws = !anyW (ws.drop i) F := by
  have hi := mem_ends.1 (show i ∈ endsR G ws by rw [hG]; simp)
  rw [Bool.eq_iff_iff, Bool.not_eq_true', Bool.eq_false_iff, Ne, drop_iff, ordB_iff, hG]
  constructor
  · rintro h ⟨j, hj, l⟩
    have hj2 := mem_ends.1 hj
    have ne : i ≠ j := fun e => by
      subst e
      rw [dis _ hi.2] at hj2
      cases hj2.2
    exact h i (by simp) j hj (by omega)
  · intro h a ha j hj l
    rw [List.mem_singleton] at ha
    subst ha
    exact h ⟨j, hj, by omega⟩
theorem cntW_F (ws : List Str) (w : Str) : cntW ws w = cntF ws [w] := by
  unfold cntW cntF
  rw [List.countP_eq_length_filter]
  congr 1
  refine List.filter_congr fun z _ => ?_
  unfold inW
  rw [decide_eq_decide, List.mem_singleton]
theorem one_of {F ws : List Str} : cntF ws F = 1 ↔ ∃ i, endsR F ws = [i] := by
  rw [cnt_range, List.length_eq_one_iff]
theorem first_one {ws : List Str} {w : Str} {l : Nat} (h : endsR [w] ws = [l]) : firstI ws w = l := by
  have hl := mem_ends.1 (show l ∈ endsR [w] ws by rw [h]; simp)
  have e : ws.getD l "" = w := by
    have := hl.2
    unfold inW at this
    simpa using this
  unfold firstI
  have : (ws.findIdx? fun z => decide (z = w)) = some l := by
    rw [List.findIdx?_eq_some_iff_getElem]
    rw [List.getD_eq_getElem?_getD, List.getElem?_eq_getElem hl.1] at e
    refine ⟨hl.1, decide_eq_true e, fun j hj => ?_⟩
    have hjl : j < ws.length := by omega
    simp only [decide_eq_true_eq]
    intro e2
    have : j ∈ endsR [w] ws := mem_ends.2 ⟨hjl, by
      rw [List.getD_eq_getElem?_getD, List.getElem?_eq_getElem hjl]
      unfold inW
      simp
      exact e2⟩
    rw [h, List.mem_singleton] at this
    omega
  rw [this]
  rfl
def VS (k : Str) (ps : List (List Str)) : Prop := ∀ zs ∈ ps, stepD k (stD zs) = true
theorem hd_part {k : Str} {zs : List Str} (h : stepD k (stD zs) = true) : hd zs ≠ "part" := by
  intro e
  match zs, e with
  | [], e => cases e
  | [z], e =>
    have e : z = "part" := e
    subst e
    have h : has1 "part" k = true := h
    have e2 : tabD tab_PLAIN_STEPS "part" = none := by decide +kernel
    unfold has1 at h
    rw [e2] at h
    cases h
  | [z, a], e =>
    have e : z = "part" := e
    subst e
    have h : has2 "part" a k = true := h
    unfold has2 at h
    rw [show decide (("part" : Str) = "scan") = false by decide +kernel] at h
    cases h
  | [z, a, m], e =>
    have e : z = "part" := e
    subst e
    have h : has3 "part" a m k = true := h
    unfold has3 at h
    rw [show decide (("part" : Str) = "lock") = false by decide +kernel] at h
    cases h
  | z :: a :: m :: b :: r, e =>
    have h : false = true := h
    cases h
theorem bad_wrd {k : Str} {zs : List Str} (h : stepD k (stD zs) = true) : badE zs = inW ["part", "again", "key", "put", "claim", "strike", "read"] (wrd zs) := by
  have hp := hd_part h
  unfold badE wrd
  by_cases c : zs.take 2 = (["lock", "part"] : List Str)
  · rw [if_pos c, decide_eq_true c, Bool.or_true]
    rfl
  · rw [if_neg c, decide_eq_false c, Bool.or_false]
    unfold inW
    rw [decide_eq_decide, List.mem_cons (a := hd zs) (b := ("part" : Str))]
    constructor
    · exact .inr
    · rintro (e | e)
      · exact absurd e hp
      · exact e
theorem any_range (ps : List (List Str)) (p : List Str → Bool) (l : Nat) (hl : l ≤ ps.length) : (ps.take l).any p = true ↔ ∃ i, i < l ∧ p (ps.getD i []) = true := by
  rw [List.any_eq_true]
  constructor
  · rintro ⟨zs, hz, h⟩
    obtain ⟨i, hi, rfl⟩ := List.mem_iff_getElem.1 hz
    rw [List.length_take] at hi
    refine ⟨i, by omega, ?_⟩
    rw [List.getD_eq_getElem?_getD, List.getElem?_eq_getElem (by omega)]
    rw [List.getElem_take] at h
    exact h
  · rintro ⟨i, hi, h⟩
    rw [List.getD_eq_getElem?_getD, List.getElem?_eq_getElem (by omega)] at h
    refine ⟨_, ?_, h⟩
    rw [List.mem_iff_getElem]
    exact ⟨i, by rw [List.length_take]; omega, by rw [List.getElem_take]; rfl⟩
theorem early_eq {k : Str} {ps : List (List Str)} (hv : VS k ps) (h : cntW (wsOf ps) "look" = 1) :
    ordB ["look"] ["part", "again", "key", "put", "claim", "strike", "read"] (lws ps) = !(ps.take (firstI (wsOf ps) "look")).any badE := by
  rw [cntW_F] at h
  obtain ⟨l, hl⟩ := one_of.1 h
  rw [first_one hl]
  have hl2 := mem_ends.1 (show l ∈ endsR ["look"] (wsOf ps) by rw [hl]; simp)
  have hw : (wsOf ps).length = ps.length := by unfold wsOf; rw [List.length_map]
  have hu : (lws ps).length = ps.length := by unfold lws; rw [List.length_map]
  rw [Bool.eq_iff_iff, Bool.not_eq_true', Bool.eq_false_iff, Ne, any_range ps badE l (by omega), ordB_iff, endsR_wrd (F := ["look"]) (by decide +kernel) (by decide +kernel), hl]
  have bad : ∀ i, i < ps.length → badE (ps.getD i []) = inW ["part", "again", "key", "put", "claim", "strike", "read"] ((lws ps).getD i "") := fun i hi => by
    unfold lws
    rw [getD_map hi]
    refine bad_wrd (k := k) (hv _ ?_)
    rw [List.getD_eq_getElem?_getD, List.getElem?_eq_getElem hi]
    exact List.getElem_mem hi
  constructor
  · rintro h ⟨i, hi, hb⟩
    rw [bad i (by omega)] at hb
    exact h i (mem_ends.2 ⟨by omega, hb⟩) l (by simp) hi
  · intro h i hi j hj lt
    rw [List.mem_singleton] at hj
    subst hj
    obtain ⟨h1, h2⟩ := mem_ends.1 hi
    exact h ⟨i, lt, by rw [bad i (by omega)]; exact h2⟩
theorem asks_eq {k : Str} {ps : List (List Str)} (hv : VS k ps) : asksP k ps (wsOf ps) = askL k (lws ps) := by
  unfold askL
  rw [cntF_wrd (F := deeds4) (by decide +kernel) (by decide +kernel), cntF_wrd (F := ["border"]) (by decide +kernel) (by decide +kernel), cntF_wrd (F := ["key"]) (by decide +kernel) (by decide +kernel),
    ordB_wrd (F := ["border", "key", "again", "view"]) (G := deeds4) (by decide +kernel) (by decide +kernel) (by decide +kernel) (by decide +kernel)]
  unfold asksP
  rw [idxs_ends]
  by_cases c : cntF (wsOf ps) deeds4 = 1
  · obtain ⟨i, hi⟩ := one_of.1 c
    rw [hi, decide_eq_true c, Bool.true_and, ord_one hi (fun z hz => by
      unfold inW deeds4 at *
      simp only [List.mem_cons, List.not_mem_nil, or_false, decide_eq_true_eq] at hz
      rcases hz with rfl | rfl | rfl | rfl <;> decide +kernel)]
    have e3 : asksP3 k ps (wsOf ps) = askL3 k (lws ps) := by
      unfold asksP3 askL3
      rw [cntF_wrd (F := ["look"]) (by decide +kernel) (by decide +kernel), cntF_wrd (F := ["view"]) (by decide +kernel) (by decide +kernel), ← cntW_F, ← cntW_F]
      by_cases c1 : cntW (wsOf ps) "look" = 1
      · rw [early_eq hv c1]
        cases decide (k = "direct") <;> cases decide (k = "read") <;> cases decide (cntW (wsOf ps) "view" = 1) <;> rfl
      · rw [decide_eq_false c1, Bool.false_and, Bool.false_and]
    show (!(checks2.any fun w => decide (cntW (wsOf ps) w > 1)) && _) = _
    rw [e3]
    have e4 : (!(checks2.any fun w => decide (cntW (wsOf ps) w > 1))) = (decide (cntF (wsOf ps) ["border"] ≤ 1) && decide (cntF (wsOf ps) ["key"] ≤ 1)) := by
      rw [← cntW_F, ← cntW_F]
      show (!(decide (cntW (wsOf ps) "border" > 1) || (decide (cntW (wsOf ps) "key" > 1) || false))) = _
      rw [Bool.eq_iff_iff]
      simp
    rw [e4, Bool.and_assoc]
  · rw [decide_eq_false c, Bool.false_and]
    split
    · rename_i i e
      exact absurd (one_of.2 ⟨i, e⟩) c
    · rfl
end Z

/-! the plain law of k22: ends, changes -/
namespace Z
open PySem PySem.Spec PyProof.Rows L2 Evl
theorem kinds_last : ∀ k ∈ kinds8, lastK k = lastL k ∧ inW changes4 k = !inW first4 k := by decide +kernel
theorem last_free : ∀ k ∈ kinds8, inW (lastL k) "lock" = false ∧ inW (lastL k) "part" = false := by decide +kernel
theorem any_cnt (ws F : List Str) : (!anyW ws F) = decide (cntF ws F = 0) := by
  unfold anyW cntF
  rw [Bool.eq_iff_iff, Bool.not_eq_true', decide_eq_true_eq, List.any_eq_false, List.length_eq_zero_iff, List.filter_eq_nil_iff]
theorem ends_eq {k : Str} {ps : List (List Str)} (hk : k ∈ kinds8) : endsP k (wsOf ps) = ((match (lws ps).getLast? with | some z => inW (lastL k) z | none => false) && decide (cntF (lws ps).dropLast ["end", "close"] = 0)) := by
  unfold endsP
  rw [any_cnt]
  have e1 : cntF (lws ps).dropLast ["end", "close"] = cntF (wsOf ps).dropLast ["end", "close"] := by
    unfold lws wsOf
    rw [← List.map_dropLast, ← List.map_dropLast]
    exact cntF_wrd (F := ["end", "close"]) (by decide +kernel) (by decide +kernel) ps.dropLast
  rw [e1]
  congr 1
  unfold lws wsOf
  rw [List.getLast?_map, List.getLast?_map]
  cases ps.getLast? with
  | none => rfl
  | some zs =>
    show decide (hd zs ∈ lastK k) = inW (lastL k) (wrd zs)
    rw [inW_wrd (last_free k hk).1 (last_free k hk).2, (kinds_last k hk).1]
    rfl
theorem mem_iff {ws : List Str} {w : Str} : inW ws w = true ↔ ∃ j, j ∈ endsR [w] ws := by
  unfold inW
  rw [decide_eq_true_eq]
  constructor
  · intro h
    obtain ⟨j, hj, e⟩ := List.mem_iff_getElem.1 h
    refine ⟨j, mem_ends.2 ⟨hj, ?_⟩⟩
    rw [List.getD_eq_getElem?_getD, List.getElem?_eq_getElem hj]
    unfold inW
    simp
    exact e
  · rintro ⟨j, hj⟩
    obtain ⟨h1, h2⟩ := mem_ends.1 hj
    rw [List.getD_eq_getElem?_getD, List.getElem?_eq_getElem h1] at h2
    unfold inW at h2
    simp at h2
    rw [← h2]
    exact List.getElem_mem h1
theorem first_min {ws : List Str} {w : Str} (h : inW ws w = true) : firstI ws w ∈ endsR [w] ws ∧ ∀ j ∈ endsR [w] ws, firstI ws w ≤ j := by
  have hm : w ∈ ws := by
    unfold inW at h
    exact of_decide_eq_true h
  obtain ⟨f, e⟩ := find_mem hm
  have ef : firstI ws w = f := by
    unfold firstI
    rw [e]
    rfl
  rw [ef]
  rw [List.findIdx?_eq_some_iff_getElem] at e
  obtain ⟨hf, h1, h2⟩ := e
  refine ⟨mem_ends.2 ⟨hf, ?_⟩, fun j hj => ?_⟩
  · rw [List.getD_eq_getElem?_getD, List.getElem?_eq_getElem hf]
    unfold inW
    simpa using h1
  · obtain ⟨h3, h4⟩ := mem_ends.1 hj
    rw [List.getD_eq_getElem?_getD, List.getElem?_eq_getElem h3] at h4
    unfold inW at h4
    simp at h4
    refine Nat.le_of_not_lt fun lt => ?_
    have := h2 j lt
    simp [h4] at this
theorem inW_lws {w : Str} (h1 : inW [w] "lock" = false) (h2 : inW [w] "part" = false) (ps : List (List Str)) : inW (lws ps) w = inW (wsOf ps) w := by
  rw [Bool.eq_iff_iff, mem_iff, mem_iff, endsR_wrd h1 h2]
end Z

/-! the plain law of k22: changes -/
namespace Z
open PySem PySem.Spec PyProof.Rows L2 Evl
theorem wait_eq {ws : List Str} {i : Nat} (hi : endsR ["switch", "close"] ws = [i]) (hE : anyW ws.dropLast ["end", "close"] = false) :
    (ordB ["switch", "close"] ["wait"] ws && !(inW ws "wait" && inW ws "close")) = !(inW ws "wait" && decide (firstI ws "wait" < i)) := by
  cases cw : inW ws "wait" with
  | false =>
    have e : endsR ["wait"] ws = [] := by
      cases h : endsR ["wait"] ws with
      | nil => rfl
      | cons a l =>
        have := mem_iff.2 ⟨a, by rw [h]; simp⟩
        rw [cw] at this
        cases this
    have : ordB ["switch", "close"] ["wait"] ws = true := ordB_iff.2 fun a ha => by
      rw [e] at ha
      cases ha
    rw [this]
    rfl
  | true =>
    obtain ⟨f1, f2⟩ := first_min cw
    have o : ordB ["switch", "close"] ["wait"] ws = !decide (firstI ws "wait" < i) := by
      rw [Bool.eq_iff_iff, ordB_iff, hi, Bool.not_eq_true', decide_eq_false_iff_not]
      constructor
      · intro h
        exact h _ f1 i (by simp)
      · intro h a ha j hj lt
        rw [List.mem_singleton] at hj
        subst hj
        have := f2 a ha
        omega
    rw [o, Bool.true_and, Bool.true_and]
    by_cases c : firstI ws "wait" < i
    · rw [decide_eq_true c]
      rfl
    · rw [decide_eq_false c]
      show (!inW ws "close") = true
      rw [Bool.not_eq_true']
      cases cc : inW ws "close" with
      | false => rfl
      | true =>
        exfalso
        obtain ⟨j, hj⟩ := mem_iff.1 cc
        obtain ⟨h1, h2⟩ := mem_ends.1 hj
        rw [List.getD_eq_getElem?_getD, List.getElem?_eq_getElem h1] at h2
        have ej : ws[j] = "close" := by
          unfold inW at h2
          simpa using h2
        have hji : j = i := by
          have : j ∈ endsR ["switch", "close"] ws := mem_ends.2 ⟨h1, by
            rw [List.getD_eq_getElem?_getD, List.getElem?_eq_getElem h1]
            show inW _ ws[j] = true
            rw [ej]
            decide +kernel⟩
          rw [hi, List.mem_singleton] at this
          exact this
        have hlast : j = ws.length - 1 := by
          refine Nat.le_antisymm (by omega) (Nat.le_of_not_lt fun lt => ?_)
          have : anyW ws.dropLast ["end", "close"] = true := by
            unfold anyW
            rw [List.any_eq_true]
            refine ⟨ws[j], ?_, by rw [ej]; decide +kernel⟩
            rw [List.mem_iff_getElem]
            exact ⟨j, by rw [List.length_dropLast]; omega, by rw [List.getElem_dropLast]⟩
          rw [hE] at this
          cases this
        obtain ⟨g1, g2⟩ := mem_ends.1 f1
        rw [List.getD_eq_getElem?_getD, List.getElem?_eq_getElem g1] at g2
        have ew : ws[firstI ws "wait"] = "wait" := by
          unfold inW at g2
          simpa using g2
        have ne : firstI ws "wait" ≠ j := fun e => by
          have : ws[firstI ws "wait"] = ws[j] := by congr 1
          rw [ew, ej] at this
          exact absurd this (by decide +kernel)
        omega
/-- a scan is hang's alone -/
theorem scan_step {k : Str} {zs : List Str} (h : stepD k (stD zs) = true) (hs : hd zs = "scan") : k = "hang" ∧ (zs = (["scan", "new"] : List Str) ∨ zs = (["scan", "rest"] : List Str)) := by
  match zs, hs, h with
  | [], e, _ => cases e
  | [z], e, h =>
    have e : z = "scan" := e
    subst e
    have h : has1 "scan" k = true := h
    have e2 : tabD tab_PLAIN_STEPS "scan" = none := by decide +kernel
    unfold has1 at h
    rw [e2] at h
    cases h
  | [z, a], e, h =>
    have e : z = "scan" := e
    subst e
    have h : has2 "scan" a k = true := h
    unfold has2 at h
    simp only [Bool.and_eq_true, Bool.or_eq_true, decide_eq_true_eq] at h
    obtain ⟨_, h2, h3⟩ := h
    refine ⟨h2, ?_⟩
    rcases h3 with rfl | rfl
    · exact .inl rfl
    · exact .inr rfl
  | [z, a, m], e, h =>
    have e : z = "scan" := e
    subst e
    have h : has3 "scan" a m k = true := h
    unfold has3 at h
    rw [show decide (("scan" : Str) = "lock") = false by decide +kernel] at h
    cases h
  | z :: a :: m :: b :: r, _, h =>
    have h : false = true := h
    cases h
theorem scans_none {k : Str} {ps : List (List Str)} (hv : VS k ps) (hk : k ≠ "hang") : scansOf ps = [] := by
  unfold scansOf
  rw [List.filter_eq_nil_iff]
  intro zs hz e
  exact hk (scan_step (hv zs hz) (of_decide_eq_true e)).1
theorem dup_nodup {L : List (List Str)} : dupB L = true ↔ L.Pairwise (· ≠ ·) := by
  unfold dupB
  rw [List.isEmpty_iff, List.filter_eq_nil_iff, List.pairwise_iff_getElem]
  constructor
  · intro h i j hi hj lt e
    refine h j (List.mem_range.2 hj) ?_
    rw [List.any_eq_true]
    refine ⟨L[i], ?_, ?_⟩
    · rw [List.mem_iff_getElem]
      exact ⟨i, by rw [List.length_take]; omega, by rw [List.getElem_take]⟩
    · rw [List.getD_eq_getElem?_getD, List.getElem?_eq_getElem hj]
      exact decide_eq_true e
  · intro h j hj c
    have hj := List.mem_range.1 hj
    rw [List.any_eq_true] at c
    obtain ⟨zs, hz, e⟩ := c
    obtain ⟨i, hi, rfl⟩ := List.mem_iff_getElem.1 hz
    rw [List.length_take] at hi
    rw [List.getElem_take, List.getD_eq_getElem?_getD, List.getElem?_eq_getElem hj] at e
    exact h i j (by omega) hj (by omega) (of_decide_eq_true e)
theorem pair_count {α : Type} [DecidableEq α] : ∀ {L : List α}, L.Pairwise (· ≠ ·) ↔ ∀ a ∈ L, (L.countP fun z => decide (z = a)) ≤ 1
  | [] => by simp
  | x :: L => by
    rw [List.pairwise_cons, pair_count (L := L)]
    constructor
    · rintro ⟨h1, h2⟩ a ha
      rw [List.countP_cons]
      rcases List.mem_cons.1 ha with rfl | ha
      · have : (L.countP fun z => decide (z = a)) = 0 := by
          rw [List.countP_eq_zero]
          intro z hz e
          exact h1 z hz (of_decide_eq_true e).symm
        rw [this]
        split <;> omega
      · have := h2 a ha
        have ne : ¬ x = a := h1 a ha
        rw [decide_eq_false ne]
        simpa using this
    · intro h
      refine ⟨fun z hz e => ?_, fun a ha => ?_⟩
      · have := h x (List.mem_cons_self ..)
        rw [List.countP_cons, decide_eq_true rfl, if_pos rfl] at this
        have : 0 < L.countP fun z => decide (z = x) := by
          rw [List.countP_pos_iff]
          exact ⟨z, hz, decide_eq_true e.symm⟩
        omega
      · have := h a (List.mem_cons_of_mem _ ha)
        rw [List.countP_cons] at this
        omega
theorem dup_eq {k : Str} {ps : List (List Str)} (hv : VS k ps) : dupB (scansOf ps) = (decide (cntS ps ["scan", "new"] ≤ 1) && decide (cntS ps ["scan", "rest"] ≤ 1)) := by
  have c : ∀ s : List Str, hd s = "scan" → (scansOf ps).countP (fun z => decide (z = s)) = cntS ps s := fun s hs => by
    unfold scansOf cntS
    rw [List.countP_filter]
    refine List.countP_congr fun z _ => ?_
    simp only [Bool.and_eq_true, decide_eq_true_eq]
    constructor
    · exact fun h => h.1
    · intro h
      exact ⟨h, by rw [h]; exact hs⟩
  rw [Bool.eq_iff_iff, dup_nodup, pair_count, Bool.and_eq_true, decide_eq_true_eq, decide_eq_true_eq]
  constructor
  · intro h
    have all : ∀ s : List Str, hd s = "scan" → cntS ps s ≤ 1 := fun s hs => by
      by_cases m : s ∈ scansOf ps
      · rw [← c s hs]
        exact h s m
      · have : (scansOf ps).countP (fun z => decide (z = s)) = 0 := by
          rw [List.countP_eq_zero]
          intro z hz e
          exact m (of_decide_eq_true e ▸ hz)
        rw [← c s hs]
        omega
    exact ⟨all _ rfl, all _ rfl⟩
  · rintro ⟨h1, h2⟩ a ha
    have hm := List.mem_filter.1 ha
    have hs := of_decide_eq_true hm.2
    rw [c a hs]
    rcases (scan_step (hv a hm.1) hs).2 with rfl | rfl
    · exact h1
    · exact h2
end Z

/-! the plain law of k22: whole -/
namespace Z
open PySem PySem.Spec PyProof.Rows L2 Evl
theorem changes_eq {k : Str} {ps : List (List Str)} (hv : VS k ps) (hE : anyW (wsOf ps).dropLast ["end", "close"] = false) : changesP k ps (wsOf ps) = chgL k ps (lws ps) := by
  unfold chgL
  rw [cntF_wrd (F := ["switch", "close"]) (by decide +kernel) (by decide +kernel), cntF_wrd (F := ["move"]) (by decide +kernel) (by decide +kernel),
    ordB_wrd (F := ["move", "scan"]) (G := ["switch", "close"]) (by decide +kernel) (by decide +kernel) (by decide +kernel) (by decide +kernel),
    ordB_wrd (F := ["switch", "close"]) (G := ["wait"]) (by decide +kernel) (by decide +kernel) (by decide +kernel) (by decide +kernel),
    inW_lws (w := "wait") (by decide +kernel) (by decide +kernel), inW_lws (w := "close") (by decide +kernel) (by decide +kernel)]
  unfold changesP
  rw [idxs_ends]
  by_cases c : cntF (wsOf ps) ["switch", "close"] = 1
  · obtain ⟨i, hi⟩ := one_of.1 c
    rw [hi, decide_eq_true c, Bool.true_and, ord_one hi (fun z hz => by
      unfold inW at *
      simp only [List.mem_cons, List.not_mem_nil, or_false, decide_eq_true_eq] at hz
      rcases hz with rfl | rfl <;> decide +kernel)]
    rw [← Bool.and_assoc (ordB ["switch", "close"] ["wait"] (wsOf ps)), wait_eq hi hE]
    have e3 : changesP2 k ps (wsOf ps) = (!(inW ["split", "join"] k && !decide (cntF (wsOf ps) ["move"] = 1)) && dupB (scansOf ps)) := by
      unfold changesP2
      cases cj : inW ["split", "join"] k with
      | true =>
        have hk : k ≠ "hang" := fun e => by
          subst e
          exact absurd cj (by decide +kernel)
        rw [if_pos rfl, scans_none hv hk, cntW_F]
        cases decide (cntF (wsOf ps) ["move"] = 1) <;> rfl
      | false =>
        rw [if_neg (by decide), dup_eq hv]
        rfl
    rw [← e3]
  · rw [decide_eq_false c, Bool.false_and]
    split
    · rename_i i e
      exact absurd (one_of.2 ⟨i, e⟩) c
    · rfl
theorem rest_eq {k : Str} {ps : List (List Str)} (hk : k ∈ kinds8) (hv : VS k ps) : restP k ps = restL k ps (lws ps) := by
  unfold restP restL
  have e := ends_eq (ps := ps) hk
  rw [← Bool.and_assoc]
  refine Eq.trans (b := (endsP k (wsOf ps) && (if inW first4 k = true then askL k (lws ps) else chgL k ps (lws ps)))) ?_ (by rw [e] <;> rfl)
  cases cE : endsP k (wsOf ps) with
  | false => rfl
  | true =>
    rw [Bool.true_and, Bool.true_and, (kinds_last k hk).2]
    have hE : anyW (wsOf ps).dropLast ["end", "close"] = false := by
      unfold endsP at cE
      rw [Bool.and_eq_true, Bool.not_eq_true'] at cE
      exact cE.2
    cases inW first4 k with
    | true => exact asks_eq hv
    | false => exact changes_eq hv hE
theorem prog_eq {k : Str} (hk : k ∈ kinds8) (d : Da) : progP k d = progL k d := by
  cases d with
  | lst ds =>
    show (decide (1 ≤ ds.length) && (decide (ds.length ≤ 12) && (ds.all (stepD k) && restP k (ds.map unS)))) = (decide (1 ≤ ds.length) && (decide (ds.length ≤ 12) && (ds.all (stepD k) && restL k (ds.map unS) (lws (ds.map unS)))))
    cases c : ds.all (stepD k) with
    | false => rfl
    | true =>
      rw [rest_eq hk fun zs hz => ?_]
      obtain ⟨d, hm, rfl⟩ := List.mem_map.1 hz
      rw [List.all_eq_true] at c
      have h := c d hm
      obtain ⟨ys, rfl, _⟩ := stepD_inv h
      rw [unS_st]
      exact h
  | _ => rfl
end Z

/-! the law's draws of k22 -/
namespace Z
open PySem PySem.Spec PyProof.Rows L2 Evl
theorem told_no {d u : Da} {M : Mem} {Q : TK} {E : XD} (hu : plD u = true) (hd : dpD u ≤ 30) (hk : ∀ k ∈ kinds8, u ≠ .str k) (q : Q (.lst [.str "kind", u]) M) : f_law_told [d, u] M Q E := by
  unfold f_law_told m_law_told
  walk_at "m0"
  walk_at "m"
  refine is_program_no hu hd hk (mMix_hit (by decide +kernel) (fun _ => rfl) fun a dd => ?_)
  walk_at "m"
  exact leave_same q
end Z

namespace Z
open PySem PySem.Spec PyProof.Rows L2 Evl
def baseEnd (n : Nat) (k : Str) (R : Mem) (Q : TK) : Prop := ∀ (ps : List (List Str)) (b' : Da), BoxD n b' → progL k (.lst (ps.map stD)) = true → Q (.lst (ps.map stD)) (b' :: R)
theorem base2_ok {n : Nat} {b : Da} {R : Mem} {Q : TK} {N : Sl → Mem → Prop} {k deed : Str} {ls : List (List Str)} (B : BoxD n b) (hn : n ≤ 1000000) (hk : k ∈ kinds8) (hd : deed = "claim" ∨ deed = "put")
    (hl : ls = ([["close"]] : List (List Str)) ∨ ls = ([["switch"], ["end"]] : List (List Str)) ∨ ls = ([["switch"], ["wait"], ["end"]] : List (List Str))) (q : baseEnd (n + 1) k R Q) :
    b_law_base_2 { nx := N, rt := leave (b :: R).length Q } [some (.cell 0), some (.str k), some (stD [deed]), some (.lst (ls.map stD))] (b :: R) := by
  simp only [kinds8, List.mem_cons, List.not_mem_nil, or_false] at hk
  have B1 : BoxD (n + 1) b := B.mono (by omega)
  rcases hk with rfl | rfl | rfl | rfl | rfl | rfl | rfl | rfl
  · unfold b_law_base_2
    walk_at "m"
    refine ite2 (fun _ => ⟨by rw [sizeLine_eq]; decide, leave_same (q [["look"], [deed], ["end"]] b B1 ?_)⟩) (fun c => absurd (by decide +kernel) c)
    rcases hd with rfl | rfl <;> decide +kernel
  · unfold b_law_base_2
    walk_at "m"
    refine ite2 (fun c => absurd c (by decide +kernel)) (fun _ => ?_)
    unfold b_law_base_3
    walk_at "m"
    exact leave_same (q [["look"], ["strike"], ["end"]] b B1 (by decide +kernel))
  · unfold b_law_base_2
    walk_at "m"
    refine ite2 (fun c => absurd c (by decide +kernel)) (fun _ => ?_)
    unfold b_law_base_3
    walk_at "m"
    unfold b_law_base_4
    walk_at "m"
    refine take_ok B (by omega) (by decide) (by decide +kernel) fun d b' B' e0 e1 => ?_
    have : d = 0 ∨ d = 1 := by omega
    rcases this with rfl | rfl
    · walk_at "m"
      exact ⟨by rw [sizeLine_eq]; decide, leave_same (q [["look"], ["view"], ["read"], ["end"]] b' B' (by decide +kernel))⟩
    · walk_at "m"
      exact ⟨by rw [sizeLine_eq]; decide, leave_same (q [["view"], ["look"], ["read"], ["end"]] b' B' (by decide +kernel))⟩
  · unfold b_law_base_2
    walk_at "m"
    refine ite2 (fun _ => ⟨by rw [sizeLine_eq]; decide, leave_same (q [[deed], ["end"]] b B1 ?_)⟩) (fun c => absurd (by decide +kernel) c)
    rcases hd with rfl | rfl <;> decide +kernel
  all_goals
    unfold b_law_base_2
    walk_at "m"
    refine ite2 (fun c => absurd c (by decide +kernel)) (fun _ => ?_)
    unfold b_law_base_3
    walk_at "m"
    unfold b_law_base_4
    walk_at "m"
    unfold b_law_base_5
    walk_at "m"
    refine ite2 (fun c => absurd c (by decide +kernel)) (fun _ => ite2 (fun c => absurd c (by decide +kernel)) (fun _ => ?_))
    rcases hl with rfl | rfl | rfl
    all_goals first
      | exact ite2 (fun c => absurd c (by decide +kernel)) (fun _ => ⟨by rw [sizeLine_eq]; decide, leave_same (q _ b B1 (by decide +kernel))⟩)
      | exact ite2 (fun _ => ⟨by rw [sizeLine_eq]; decide, leave_same (q [["move"], ["close"]] b B1 (by decide +kernel))⟩) (fun c => absurd (by decide +kernel) c)
      | exact ite2 (fun _ => ⟨by rw [sizeLine_eq]; decide, leave_same (q [["move"], ["switch"], ["end"]] b B1 (by decide +kernel))⟩) (fun c => absurd (by decide +kernel) c)
      | exact ite2 (fun _ => ⟨by rw [sizeLine_eq]; decide, leave_same (q [["move"], ["switch"], ["wait"], ["end"]] b B1 (by decide +kernel))⟩) (fun c => absurd (by decide +kernel) c)
theorem base_ok {n : Nat} {b : Da} {R : Mem} {Q : TK} {E : XD} {k : Str} (B : BoxD n b) (hn : n ≤ 100000) (hk : k ∈ kinds8) (q : baseEnd (n + 3) k R Q) : f_law_base [.cell 0, .str k] (b :: R) Q E := by
  unfold f_law_base m_law_base
  walk_at "m0"
  refine seq_hide fun N hN => ?_
  walk_at "m"
  refine take_ok B (by omega) (by decide) (by decide +kernel) fun d b1 B1 _ _ => ?_
  have fin : ∀ deed : Str, (deed = "claim" ∨ deed = "put") → N [some (.cell 0), some (.str k), some (stD [deed]), none] (b1 :: R) := by
    intro deed hd
    refine hN _ _ ?_
    unfold b_law_base_1
    refine seq_hide fun N hN => ?_
    walk_at "m"
    refine take_ok B1 (by omega) (by decide) (by decide +kernel) fun d2 b2 B2 f0 f1 => ?_
    have : d2 = 0 ∨ d2 = 1 ∨ d2 = 2 := by omega
    rcases this with rfl | rfl | rfl
    · walk_at "m"
      exact hN _ _ (base2_ok (ls := [["close"]]) B2 (by omega) hk hd (.inl rfl) q)
    · walk_at "m"
      exact hN _ _ (base2_ok (ls := [["switch"], ["end"]]) B2 (by omega) hk hd (.inr (.inl rfl)) q)
    · walk_at "m"
      exact hN _ _ (base2_ok (ls := [["switch"], ["wait"], ["end"]]) B2 (by omega) hk hd (.inr (.inr rfl)) q)
  walk_at "m"
  exact ite2 (fun _ => fin "claim" (.inl rfl)) (fun _ => fin "put" (.inr rfl))
end Z

namespace Z
open PySem PySem.Spec PyProof.Rows L2 Evl
def progEnd (n : Nat) (k : Str) (R : Mem) (Q : TK) : Prop := ∀ (ps : List (List Str)) (b' : Da), BoxD n b' → progL k (.lst (ps.map stD)) = true → Q (.lst (ps.map stD)) (b' :: R)
theorem progL_len {k : Str} {ps : List (List Str)} (h : progL k (.lst (ps.map stD)) = true) : 1 ≤ ps.length ∧ ps.length ≤ 12 := by
  have h : (decide (1 ≤ (ps.map stD).length) && (decide ((ps.map stD).length ≤ 12) && _)) = true := h
  rw [Bool.and_eq_true, Bool.and_eq_true, decide_eq_true_eq, decide_eq_true_eq, List.length_map] at h
  exact ⟨h.1, h.2.1⟩
theorem progL_item {k : Str} {ps : List (List Str)} (h : progL k (.lst (ps.map stD)) = true) {zs : List Str} (hz : zs ∈ ps) : zs.length ≤ 3 := by
  have h : (decide (1 ≤ (ps.map stD).length) && (decide ((ps.map stD).length ≤ 12) && ((ps.map stD).all (stepD k) && _))) = true := h
  rw [Bool.and_eq_true, Bool.and_eq_true, Bool.and_eq_true, List.all_eq_true] at h
  obtain ⟨ys, e, _, h3⟩ := stepD_inv (h.2.2.1 (stD zs) (List.mem_map_of_mem hz))
  have : zs = ys := by rw [← unS_st zs, e, unS_st]
  rw [this]
  exact h3
theorem program_ok {n : Nat} {b : Da} {R : Mem} {Q : TK} {E : XD} {k : Str} {ms : List Str} (B : BoxD n b) (hn : n ≤ 10000) (hm : ms.length = 3) (hk : k ∈ kinds8) (q : progEnd (n + 200) k R Q) : f_law_program [.cell 0, .str k, .lst (ms.map Da.str)] (b :: R) Q E := by
  unfold f_law_program m_law_program
  walk_at "m0"
  refine seq_hide fun N hN => ?_
  walk_at "m"
  refine base_ok B (by omega) hk fun ps b1 B1 h1 => ?_
  refine hN _ _ ?_
  clear hN
  unfold b_law_program_1
  refine seq_hide fun N hN => ?_
  walk_at "m"
  refine take_ok B1 (by omega) (by decide) (by decide +kernel) fun d b2 B2 f0 f1 => ?_
  refine ⟨by omega, by omega, ?_⟩
  refine forL_ind (fun j ρ M => ∃ ps b' s4 s5 s6 s7, BoxD (n + 10 + 5 * j) b' ∧ progL k (.lst (ps.map stD)) = true ∧ M = b' :: R ∧ ρ = [some (.cell 0), some (.str k), some (.lst (ms.map Da.str)), some (.lst (ps.map stD)), s4, s5, s6, s7])
    ⟨ps, b2, _, _, _, _, B2.mono (by omega), h1, rfl, rfl⟩ ?_ ?_
  · rintro j e _ _ he ⟨ps, b', s4, s5, s6, s7, B', h', rfl, rfl⟩ C hC
    obtain ⟨hj, rfl⟩ := rngD_at he
    obtain ⟨l1, l2⟩ := progL_len h'
    walk_at "m"
    unfold l_law_program_1
    refine seq_hide fun N hN => ?_
    walk_at "m"
    refine drawn_ok B' (by omega) hm fun zs b3 B3 hz hl => ?_
    refine hN _ _ ?_
    clear hN
    unfold b_law_program_L1_1
    refine seq_hide fun N hN => ?_
    walk_at "m"
    rw [List.length_map]
    refine take_ok B3 (by omega) (by omega) (log_nat (by omega)) fun a b4 B4 a0 a1 => ?_
    refine hN _ _ ?_
    clear hN
    unfold b_law_program_L1_2
    refine seq_hide fun N hN => ?_
    walk_at "m"
    have ea : a = ((a.toNat : Nat) : Int) := by omega
    have e1 : cutL (ps.map stD) none (some a) = (ps.take a.toNat).map stD := by rw [cutL_take _ a0, List.map_take]
    have e2 : cutL (ps.map stD) (some a) none = (ps.drop a.toNat).map stD := by
      rw [ea, cutL_drop, List.map_drop]
      rfl
    have e3 : (ps.take a.toNat).map stD ++ [stD zs] ++ (ps.drop a.toNat).map stD = (ps.take a.toNat ++ [zs] ++ ps.drop a.toNat).map stD := by simp
    rw [e1, e2]
    refine ⟨by rw [List.length_map, List.length_take, sizeLine_eq]; omega, by
      rw [List.length_append, List.length_map, List.length_map, List.length_take, List.length_drop, sizeLine_eq]
      simp
      omega, hN _ _ ?_⟩
    clear hN
    have e3 : (ps.take a.toNat).map stD ++ [Da.tup (zs.map Da.str)] ++ (ps.drop a.toNat).map stD = (ps.take a.toNat ++ [zs] ++ ps.drop a.toNat).map stD := e3
    rw [e3]
    generalize hps : ps.take a.toNat ++ [zs] ++ ps.drop a.toNat = ps2
    have hn2 : ps2.length ≤ 13 := by
      rw [← hps, List.length_append, List.length_append, List.length_take, List.length_drop]
      simp
      omega
    unfold b_law_program_L1_3
    refine if_hide fun T U hT hU => ?_
    walk_at "m"
    have hp2 := pl_steps ps2
    refine law_is_program_ok hp2.1 ⟨by rw [List.length_map]; omega, ?_, fun d hm => ?_⟩ ?_
    · have : dpL (ps2.map stD) ≤ 1 := dpL_le.2 fun d hm => by
        obtain ⟨ys, _, rfl⟩ := List.mem_map.1 hm
        show dpL _ + 1 ≤ 1
        have : dpL (List.map Da.str ys) = 0 := dpL_map (fun _ => rfl) ys
        omega
      omega
    · obtain ⟨ys, hy, rfl⟩ := List.mem_map.1 hm
      refine ⟨plL_strs ys, ?_, by
        have : dpL (List.map Da.str ys) = 0 := dpL_map (fun _ => rfl) ys
        omega⟩
      rw [List.length_map]
      have : ys.length ≤ 3 := by
        rw [← hps, List.mem_append, List.mem_append, List.mem_singleton] at hy
        rcases hy with (hy | rfl) | hy
        · exact progL_item h' (List.mem_of_mem_take hy)
        · exact hl
        · exact progL_item h' (List.mem_of_mem_drop hy)
      omega
    · dsimp only
      cases c : progL k (.lst (ps2.map stD)) with
      | true =>
        refine hT _ ?_
        walk_at "m"
        exact hC _ _ _ _ .same trivial ⟨ps2, b4, _, _, _, _, B4.mono (by omega), c, rfl, rfl⟩
      | false =>
        refine hU _ (next_run ?_)
        exact hC _ _ _ _ .same trivial ⟨ps, b4, _, _, _, _, B4.mono (by omega), h', rfl, rfl⟩
  · rintro _ _ ⟨ps, b', s4, s5, s6, s7, B', h', rfl, rfl⟩
    rw [rngD_len] at B'
    refine hN _ _ ?_
    unfold b_law_program_2
    walk_at "m"
    exact leave_same (q ps b' (B'.mono (by omega)) h')
end Z

namespace Z
open PySem PySem.Spec PyProof.Rows L2 Evl
def itOk (d : Da) : Prop := plD d = true ∧ dpD d ≤ 2 ∧ lenOk d
def bentEnd (n m : Nat) (R : Mem) (Q : TK) : Prop := ∀ (ds : List Da) (b' : Da), BoxD n b' → (∀ d ∈ ds, itOk d) → ds.length ≤ m → Q (.lst ds) (b' :: R)
abbrev bsl (p : Da) (ms : List Str) (i : Nat) (at_ other way : Int) : Sl := [some (.cell 0), some p, some (.lst (ms.map Da.str)), some (.cell i), some (.int at_), some (.int other), some (.int way)]
section
variable {D : En} {p : Da} {ms : List Str} {i : Nat} {at_ other way : Int} {M : Mem}
theorem sk3 (c : ¬ way = 0) (h : b_law_bent_4 D (bsl p ms i at_ other way) M) : b_law_bent_3 D (bsl p ms i at_ other way) M := by
  unfold b_law_bent_3
  refine cut_hide fun N hN => ?_
  walk_at "m"
  rw [if_neg c]
  exact hN _ _ h
theorem sk4 (c : ¬ way = 1) (h : b_law_bent_5 D (bsl p ms i at_ other way) M) : b_law_bent_4 D (bsl p ms i at_ other way) M := by
  unfold b_law_bent_4
  refine cut_hide fun N hN => ?_
  walk_at "m"
  rw [if_neg c]
  exact hN _ _ h
theorem sk5 (c : ¬ way = 2) (h : b_law_bent_6 D (bsl p ms i at_ other way) M) : b_law_bent_5 D (bsl p ms i at_ other way) M := by
  unfold b_law_bent_5
  refine cut_hide fun N hN => ?_
  walk_at "m"
  rw [if_neg c]
  exact hN _ _ h
theorem sk6 (c : ¬ way = 3) (h : b_law_bent_7 D (bsl p ms i at_ other way) M) : b_law_bent_6 D (bsl p ms i at_ other way) M := by
  unfold b_law_bent_6
  refine cut_hide fun N hN => ?_
  walk_at "m"
  rw [if_neg c]
  exact hN _ _ h
theorem sk7 (c : ¬ way = 4) (h : b_law_bent_8 D (bsl p ms i at_ other way) M) : b_law_bent_7 D (bsl p ms i at_ other way) M := by
  unfold b_law_bent_7
  refine cut_hide fun N hN => ?_
  walk_at "m"
  rw [if_neg c]
  exact hN _ _ h
theorem sk8 (c : ¬ way = 5) (h : b_law_bent_9 D (bsl p ms i at_ other way) M) : b_law_bent_8 D (bsl p ms i at_ other way) M := by
  unfold b_law_bent_8
  refine cut_hide fun N hN => ?_
  walk_at "m"
  rw [if_neg c]
  exact hN _ _ h
end
theorem its_pl {ds : List Da} (h : ∀ d ∈ ds, itOk d) : plL ds = true ∧ dpL ds ≤ 2 := ⟨plL_all.2 fun d hd => (h d hd).1, dpL_le.2 fun d hd => (h d hd).2.1⟩
theorem bent9 {n m : Nat} {b b0 : Da} {R : Mem} {Q : TK} {N : Sl → Mem → Prop} {p : Da} {ms : List Str} {at_ other way : Int} {ds : List Da} (cM : cloL (R.length + 1) (b0 :: R) = true) (B : BoxD n b) (h : ∀ d ∈ ds, itOk d) (hl : ds.length ≤ m) (k : bentEnd n m R Q) :
    b_law_bent_9 { nx := N, rt := leave (R.length + 1) Q } (bsl p ms (R.length + 1) at_ other way) (b :: (R ++ [.lst ds])) := by
  unfold b_law_bent_9
  walk_at "m"
  exact leave_box B cM (frz_cell (by simp) (Nat.le_refl _) (plL_clo _ (its_pl h).1)) (k _ _ B h hl)
theorem bent9b {n m : Nat} {b b0 z : Da} {R : Mem} {Q : TK} {N : Sl → Mem → Prop} {p : Da} {ms : List Str} {at_ other way : Int} {ds : List Da} (cM : cloL (R.length + 1) (b0 :: R) = true) (B : BoxD n b) (h : ∀ d ∈ ds, itOk d) (hl : ds.length ≤ m) (k : bentEnd n m R Q) :
    b_law_bent_9 { nx := N, rt := leave (R.length + 1) Q } (bsl p ms ((R ++ [z]).length + 1) at_ other way) (b :: (R ++ [z] ++ [.lst ds])) := by
  unfold b_law_bent_9
  walk_at "m"
  rw [List.append_assoc]
  exact leave_box B cM (frz_cell (by simp) (by simp) (plL_clo _ (its_pl h).1)) (k _ _ B h hl)
theorem odd6 {d : Da} (h : d ∈ [Da.non, Da.int 5, Da.str "look", Da.tup [Da.str "end", Da.str "end"], Da.tup [], Da.lst [Da.tup [Da.str "end"]]]) : itOk d := by
  simp only [List.mem_cons, List.not_mem_nil, or_false] at h
  rcases h with rfl | rfl | rfl | rfl | rfl | rfl
  all_goals first | exact ⟨rfl, by decide, trivial⟩ | exact ⟨rfl, by decide, by decide, by decide⟩
theorem drew {ds : List Da} {i : Int} (h0 : 0 ≤ i) (h1 : i < (ds.length : Int)) : ∃ k : Nat, ∃ d ∈ ds, i = (k : Int) ∧ k < ds.length ∧ atI ds i = some d ∧ ds[k]? = some d ∧ ixN ds.length i = some k ∧ seqIndex? i ds.length = some k := by
  obtain ⟨k, rfl⟩ := Int.eq_ofNat_of_zero_le h0
  have h : k < ds.length := by omega
  refine ⟨k, ds[k], List.getElem_mem h, rfl, h, ?_, ?_, ?_, ?_⟩
  · rw [atI_nat']; simp [h]
  · simp [h]
  · unfold ixN
    rw [if_pos h0, if_pos h1]
    simp
  · rw [seqI h0 h1]
    simp
theorem bent_ok {n : Nat} {b : Da} {R : Mem} {Q : TK} {E : XD} {ms : List Str} {ds : List Da} (B : BoxD n b) (hn : n ≤ 100000) (hm : ms.length = 3) (h1 : 1 ≤ ds.length) (hl : ds.length ≤ 40) (hi : ∀ d ∈ ds, itOk d)
    (k : bentEnd (n + 20) (ds.length + 9) R Q) : f_law_bent [.cell 0, .lst ds, .lst (ms.map Da.str)] (b :: R) Q E := by
  unfold f_law_bent m_law_bent
  walk_at "m1"
  intro cM cD
  try walk_at "m"
  unfold b_law_bent_1
  try walk_at "m"
  refine take_ok B (by omega) (by omega) (log_nat (by omega)) fun d0 b1 B1 e0 e1 => ?_
  try walk_at "m"
  refine take_ok B1 (by omega) (by omega) (log_nat (by omega)) fun d1 b2 B2 f0 f1 => ?_
  unfold b_law_bent_2
  try walk_at "m"
  refine take_ok B2 (by omega) (by decide) (by decide +kernel) fun d2 b3 B3 g0 g1 => ?_
  obtain ⟨i, x, hx, rfl, hi0, ax, gx, ix, qx⟩ := drew e0 e1
  obtain ⟨j, y, hy, rfl, hj0, ay, gy, iy, qy⟩ := drew f0 f1
  try walk_at "m"
  have : d2 = 0 ∨ d2 = 1 ∨ d2 = 2 ∨ d2 = 3 ∨ d2 = 4 ∨ d2 = 5 := by omega
  rcases this with rfl | rfl | rfl | rfl | rfl | rfl
  · unfold b_law_bent_3
    refine cut_hide fun N hN => ?_
    try walk_at "m"
    refine ⟨⟨ds, rfl⟩, by omega, by omega, i, x, qx, gx, hN _ _ ?_⟩
    refine sk4 (by decide) (sk5 (by decide) (sk6 (by decide) (sk7 (by decide) (sk8 (by decide) (bent9 (m := ds.length + 9) cM (B3.mono (by omega)) (fun d hd => hi d (List.mem_of_mem_eraseIdx hd)) ?_ k)))))
    have := List.length_eraseIdx_le ds i
    omega
  · refine sk3 (by decide) ?_
    unfold b_law_bent_4
    refine cut_hide fun N hN => ?_
    try walk_at "m"
    rw [ay]
    refine ⟨⟨ds, rfl⟩, by rw [sizeLine_eq]; omega, by omega, by omega, hN _ _ ?_⟩
    refine sk5 (by decide) (sk6 (by decide) (sk7 (by decide) (sk8 (by decide) (bent9 (m := ds.length + 9) cM (B3.mono (by omega)) (fun d hd => ?_) ?_ k))))
    · rw [List.mem_append, List.mem_append, List.mem_singleton] at hd
      rcases hd with (hd | rfl) | hd
      · exact hi d (List.mem_of_mem_take hd)
      · exact hi _ hy
      · exact hi d (List.mem_of_mem_drop hd)
    · rw [List.length_append, List.length_append, List.length_take, List.length_drop]
      simp
      omega
  · refine sk3 (by decide) (sk4 (by decide) ?_)
    unfold b_law_bent_5
    refine cut_hide fun N hN => ?_
    try walk_at "m"
    rw [ay]
    dsimp only
    rw [ax]
    dsimp only
    rw [ix]
    try walk_at "m"
    rw [List.length_set, iy]
    try walk_at "m"
    refine hN _ _ ?_
    refine sk6 (by decide) (sk7 (by decide) (sk8 (by decide) (bent9 (m := ds.length + 9) cM (B3.mono (by omega)) (fun d hd => ?_) ?_ k)))
    · rcases List.mem_or_eq_of_mem_set hd with hd | rfl
      · rcases List.mem_or_eq_of_mem_set hd with hd | rfl
        · exact hi d hd
        · exact hi _ hy
      · exact hi _ hx
    · rw [List.length_set, List.length_set]
      omega
  · refine sk3 (by decide) (sk4 (by decide) (sk5 (by decide) ?_))
    unfold b_law_bent_6
    refine cut_hide fun N hN => ?_
    try walk_at "m"
    refine ⟨⟨ds, rfl⟩, take_ok B3 (by omega) (by omega) (by
      have := log_nat (n := ds.length + 1) (by omega)
      rw [Int.natCast_add] at this
      exact this) fun d3 b4 B4 p0 p1 => ?_⟩
    refine drawn_ok B4 (by omega) hm fun zs b5 B5 hz hzl => ?_
    try walk_at "m"
    refine ⟨by rw [sizeLine_eq]; omega, p0, by omega, hN _ _ ?_⟩
    refine sk7 (by decide) (sk8 (by decide) (bent9 (m := ds.length + 9) cM (B5.mono (by omega)) (fun d hd => ?_) ?_ k))
    · rw [List.mem_append, List.mem_append, List.mem_singleton] at hd
      rcases hd with (hd | rfl) | hd
      · exact hi d (List.mem_of_mem_take hd)
      · have p2 : dpL (List.map Da.str zs) = 0 := dpL_map (fun _ => rfl) zs
        refine ⟨plL_strs zs, ?_, by rw [List.length_map]; omega, by omega⟩
        unfold dpD
        omega
      · exact hi d (List.mem_of_mem_drop hd)
    · rw [List.length_append, List.length_append, List.length_take, List.length_drop]
      simp
      omega
  · refine sk3 (by decide) (sk4 (by decide) (sk5 (by decide) (sk6 (by decide) ?_)))
    unfold b_law_bent_7
    refine cut_hide fun N hN => ?_
    try walk_at "m"
    refine take_ok B3 (by omega) (by decide) (by decide +kernel) fun d3 b4 B4 p0 p1 => ?_
    obtain ⟨odd, ho, e⟩ := atI_mem (xs := [Da.non, Da.int 5, Da.str "look", Da.tup [Da.str "end", Da.str "end"], Da.tup [], Da.lst [Da.tup [Da.str "end"]]]) p0 p1
    try walk_at "m"
    rw [e]
    dsimp only
    rw [ix]
    refine hN _ _ ?_
    refine sk8 (by decide) (bent9 (m := ds.length + 9) cM (B4.mono (by omega)) (fun d hd => ?_) ?_ k)
    · rcases List.mem_or_eq_of_mem_set hd with hd | rfl
      · exact hi d hd
      · exact odd6 ho
    · rw [List.length_set]
      omega
  · refine sk3 (by decide) (sk4 (by decide) (sk5 (by decide) (sk6 (by decide) (sk7 (by decide) ?_))))
    unfold b_law_bent_8
    refine cut_hide fun N hN => ?_
    try walk_at "m"
    refine take_ok B3 (by omega) (by decide) (by decide +kernel) fun d3 b4 B4 p0 p1 => ?_
    have e : ∃ m : Int, 0 ≤ m ∧ m ≤ 9 ∧ atI [Da.int 0, Da.int 3, Da.int 9] d3 = some (.int m) := by
      have : d3 = 0 ∨ d3 = 1 ∨ d3 = 2 := by omega
      rcases this with rfl | rfl | rfl
      · exact ⟨0, by decide, by decide, rfl⟩
      · exact ⟨3, by decide, by decide, rfl⟩
      · exact ⟨9, by decide, by decide, rfl⟩
    obtain ⟨m, m0, m1, e⟩ := e
    try walk_at "m"
    rw [e]
    try walk_at "m"
    rw [cutL_take _ (by decide)]
    have l1 : (List.take (Int.toNat 1) ds).length ≤ 1 := by rw [List.length_take]; exact Nat.min_le_left _ _
    have l2 : (List.replicate m.toNat (List.take (Int.toNat 1) ds)).flatten.length ≤ 9 := by
      rw [List.length_flatten, List.map_replicate, List.sum_replicate_nat]
      have : m.toNat ≤ 9 := by omega
      exact Nat.mul_le_mul this l1
    have l3 : (List.take (Int.toNat 1) ds).length * m.toNat ≤ 1 * 9 := Nat.mul_le_mul l1 (by omega)
    refine ⟨by omega, by omega, by omega, by rw [sizeLine_eq]; omega, hN _ _ ?_⟩
    refine bent9b (m := ds.length + 9) cM (B4.mono (by omega)) (fun d hd => ?_) ?_ k
    · rw [List.mem_append] at hd
      rcases hd with hd | hd
      · obtain ⟨l, h2, h3⟩ := List.mem_flatten.1 hd
        rw [(List.mem_replicate.1 h2).2] at h3
        exact hi d (List.mem_of_mem_take h3)
      · exact hi d hd
    · rw [List.length_append]
      omega
end Z

namespace Z
open PySem PySem.Spec PyProof.Rows L2 Evl
theorem pr_of {ds : List Da} (h : ∀ d ∈ ds, itOk d) (l : ds.length ≤ 1000) : pdd (.lst ds) = true ∧ prOk (.lst ds) :=
  ⟨(its_pl h).1, l, Nat.le_trans (its_pl h).2 (by decide), fun d hd => ⟨pdd_of (h d hd).1, (h d hd).2.2⟩⟩
theorem l4_ok {s0 s1 s2 s3 s4 s5 s6 s9 s10 : Option Da} {d : Da} {k : Str} {M : Mem} {D : En} (hp : pdd d = true) (hl : prOk d) (hk : k ∈ kinds8)
    (h : ∀ s9, D.nx [s0, s1, s2, s3, s4, s5, s6, some d, some (.str k), s9, s10] M) : l_law_4 D [s0, s1, s2, s3, s4, s5, s6, some d, some (.str k), s9, s10] M := by
  unfold l_law_4
  refine seq_hide fun N hN => ?_
  walk_at "m"
  refine is_program_ok hp hl hk ?_
  refine hN _ _ ?_
  clear hN
  unfold b_law_L4_1
  refine if_hide fun T U hT hU => ?_
  simp only [mOr, mNot, mB, mOp, mVar, mCB, mCons, mNil, mCall, mC, nIsi, List.getElem?_cons_zero, List.getElem?_cons_succ, List.set_cons_zero, List.set_cons_succ, tyDa_bl, tyB, Option.some.injEq]
  refine ⟨by simp [tyTs], ?_⟩
  rw [if_neg (by decide)]
  refine law_is_program_ok hp hl ?_
  rw [prog_eq hk]
  walk_at "m"
  exact hU _ (h _)
theorem l32_ok {s0 s1 s3 s5 s6 s8 s9 s10 : Option Da} {ds : List Da} {k : Str} {n : Nat} {b : Da} {D : En} (B : BoxD n b) (hn : n ≤ 100000) (hi : ∀ d ∈ ds, itOk d) (l : ds.length ≤ 1000) (hk : k ∈ kinds8)
    (h : ∀ b' s8 s9, BoxD (n + 1) b' → D.nx [s0, s1, some (.cell 0), s3, some (.str k), s5, s6, some (.lst ds), s8, s9, s10] [b']) : b_law_L3_2 D [s0, s1, some (.cell 0), s3, some (.str k), s5, s6, some (.lst ds), s8, s9, s10] [b] := by
  obtain ⟨p1, p2⟩ := pr_of hi l
  unfold b_law_L3_2
  walk_at "m"
  refine law_kinds_ok ?_
  walk_at "m"
  refine take_ok B (by omega) (by decide) (by decide +kernel) fun d1 b1 B1 f0 f1 => ?_
  obtain ⟨z, hz, e⟩ := draw_strs (xs := kinds8) f0 f1
  try walk_at "m"
  rw [e]
  try walk_at "m"
  refine forL_ind (fun i ρ M' => M' = [b1] ∧ ∃ s8 s9, ρ = [s0, s1, some (.cell 0), s3, some (.str k), s5, s6, some (.lst ds), s8, s9, s10]) ⟨rfl, _, _, rfl⟩ ?_ ?_
  · rintro i e _ _ he ⟨rfl, s8, s9, rfl⟩ C hC
    have hm : ∃ y ∈ kinds8, e = .str y := by
      have hm := List.mem_of_getElem? he
      simp only [List.mem_cons, List.not_mem_nil, or_false] at hm
      rcases hm with rfl | rfl
      · exact ⟨_, hk, rfl⟩
      · exact ⟨_, hz, rfl⟩
    obtain ⟨y, hy, rfl⟩ := hm
    walk_at "m"
    exact l4_ok p1 p2 hy fun s9 => hC _ _ _ _ .same trivial ⟨rfl, _, _, rfl⟩
  · rintro _ _ ⟨rfl, s8, s9, rfl⟩
    exact h _ _ _ B1
theorem l3_ok {s0 s1 s7 s8 s9 s10 : Option Da} {ms : List Str} {ds : List Da} {k : Str} {n : Nat} {b : Da} {t : Int} {D : En} (B : BoxD n b) (hn : n ≤ 50000) (hm : ms.length = 3) (hi : ∀ d ∈ ds, itOk d) (h1 : 1 ≤ ds.length) (l : ds.length ≤ 12) (hk : k ∈ kinds8)
    (h : ∀ b' s7 s8 s9, BoxD (n + 50) b' → D.nx [s0, s1, some (.cell 0), some (.lst (ms.map Da.str)), some (.str k), some (.lst ds), some (.int t), s7, s8, s9, s10] [b']) :
    l_law_3 D [s0, s1, some (.cell 0), some (.lst (ms.map Da.str)), some (.str k), some (.lst ds), some (.int t), s7, s8, s9, s10] [b] := by
  unfold l_law_3
  refine seq_hide fun N hN => ?_
  walk_at "m"
  refine bent_ok B (by omega) hm h1 (by omega) hi fun es b1 B1 i1 n1 => hN _ _ ?_
  clear hN
  unfold b_law_L3_1
  refine cut_hide fun N hN => ?_
  have fin : ∀ (us : List Da) (b2 : Da), BoxD (n + 49) b2 → (∀ d ∈ us, itOk d) → us.length ≤ 1000 → N [s0, s1, some (.cell 0), some (.lst (ms.map Da.str)), some (.str k), some (.lst ds), some (.int t), some (.lst us), s8, s9, s10] [b2] := by
    intro us b2 B2 i2 n2
    exact hN _ _ (l32_ok B2 (by omega) i2 n2 hk fun b' s8 s9 B' => h b' _ s8 s9 B')
  obtain ⟨p1, p2⟩ := its_pl i1
  refine if_hide fun T U hT hU => ?_
  have nT : es ≠ [] → T [b1] := by
    intro c
    refine hT _ ?_
    walk_at "m"
    refine bent_ok B1 (by omega) hm (Nat.one_le_iff_ne_zero.2 fun z => c (List.length_eq_zero_iff.1 z)) (by omega) i1 fun us b2 B2 i2 n2 => fin us b2 (B2.mono (by omega)) i2 (by omega)
  have nU : U [b1] := hU _ (next_run (fin es b1 (B1.mono (by omega)) i1 (by omega)))
  walk_at "m"
  refine ite2 (fun c => ?_) (fun c => nU)
  refine ⟨⟨p1, by omega⟩, ?_⟩
  rw [eqL_nil]
  cases es with
  | nil => exact nU
  | cons e es => exact nT (by simp)
theorem st_it {k : Str} {ps : List (List Str)} (h : progL k (.lst (ps.map stD)) = true) : ∀ d ∈ ps.map stD, itOk d := by
  intro d hd
  obtain ⟨zs, hz, rfl⟩ := List.mem_map.1 hd
  have hl := progL_item h hz
  have p2 : dpL (List.map Da.str zs) = 0 := dpL_map (fun _ => rfl) zs
  refine ⟨plL_strs zs, ?_, ?_, by omega⟩
  · show dpL _ + 1 ≤ 2
    omega
  · rw [List.length_map]; omega
theorem l2_ok {s0 s1 s5 s6 s7 s8 s9 s10 : Option Da} {n : Nat} {b : Da} {k : Str} {ms : List Str} {D : En} (B : BoxD n b) (hn : n ≤ 9000) (hm : ms.length = 3) (hk : k ∈ kinds8)
    (h : ∀ b' s5 s6 s7 s8 s9 s10, BoxD (n + 500) b' → D.nx [s0, s1, some (.cell 0), some (.lst (ms.map Da.str)), some (.str k), s5, s6, s7, s8, s9, s10] [b']) :
    l_law_2 D [s0, s1, some (.cell 0), some (.lst (ms.map Da.str)), some (.str k), s5, s6, s7, s8, s9, s10] [b] := by
  unfold l_law_2
  refine seq_hide fun N hN => ?_
  walk_at "m"
  refine program_ok B (by omega) hm hk fun ps b1 B1 hps => hN _ _ ?_
  clear hN
  have hit := st_it hps
  obtain ⟨l1, l2⟩ := progL_len hps
  have hln : (ps.map stD).length = ps.length := by rw [List.length_map]
  obtain ⟨q1, q2⟩ := pr_of hit (by omega)
  unfold b_law_L2_1
  refine seq_hide fun N hN => ?_
  refine if_hide fun T U hT hU => ?_
  walk_at "m"
  refine is_program_ok q1 q2 hk ?_
  rw [prog_eq hk, hps]
  walk_at "m"
  refine law_is_program_ok q1 q2 ?_
  rw [hps]
  walk_at "m"
  refine hU _ (next_run (hN _ _ ?_))
  clear hN hT hU
  unfold b_law_L2_2
  refine seq_hide fun N hN => ?_
  walk_at "m"
  refine ⟨by decide, by decide, ?_⟩
  refine forL_ind (fun i ρ M => ∃ b s6 s7 s8 s9, BoxD (n + 200 + 50 * i) b ∧ M = [b] ∧ ρ = [s0, s1, some (.cell 0), some (.lst (ms.map Da.str)), some (.str k), some (.lst (ps.map stD)), s6, s7, s8, s9, s10])
    ⟨b1, _, _, _, _, B1.mono (by omega), rfl, rfl⟩ ?_ ?_
  · rintro i e _ _ he ⟨b, s6, s7, s8, s9, B, rfl, rfl⟩ C hC
    obtain ⟨hj, rfl⟩ := rngD_at he
    have hj : i < 4 := hj
    walk_at "m"
    exact l3_ok B (by omega) hm hit (by omega) (by omega) hk fun b' s7 s8 s9 B' => hC _ _ _ _ .same trivial ⟨b', _, _, _, _, B'.mono (by omega), rfl, rfl⟩
  · rintro _ _ ⟨b, s6, s7, s8, s9, B, rfl, rfl⟩
    have B : BoxD (n + 200 + 50 * 4) b := B
    refine hN _ _ ?_
    clear hN
    unfold b_law_L2_3
    refine seq_hide fun N hN => ?_
    walk_at "m"
    refine take_ok B (by omega) (by decide) (by decide +kernel) fun d1 b2 B2 f0 f1 => ?_
    obtain ⟨d, hd, e⟩ := atI_mem (xs := [Da.non, Da.int 5, Da.str "look", Da.tup [], Da.tup (ps.map stD), Da.dct [], Da.lst [], Da.lst [Da.non]]) f0 f1
    have hd : pdd d = true ∧ prOk d ∧ progP k d = false := by
      simp only [List.mem_cons, List.not_mem_nil, or_false] at hd
      rcases hd with rfl | rfl | rfl | rfl | rfl | rfl | rfl | rfl
      · exact ⟨rfl, trivial, rfl⟩
      · exact ⟨rfl, trivial, rfl⟩
      · exact ⟨rfl, trivial, rfl⟩
      · exact ⟨rfl, trivial, rfl⟩
      · exact ⟨(its_pl hit).1, trivial, rfl⟩
      · exact ⟨rfl, trivial, rfl⟩
      · exact ⟨rfl, ⟨by decide, by decide, by simp⟩, rfl⟩
      · exact ⟨rfl, ⟨by decide, by decide, by simp [pdd, plD, lenOk]⟩, rfl⟩
    obtain ⟨d1, d2, d3⟩ := hd
    try walk_at "m"
    rw [e]
    refine hN _ _ ?_
    clear hN
    unfold b_law_L2_4
    refine if_hide fun T U hT hU => ?_
    walk_at "m"
    refine is_program_ok d1 d2 hk ?_
    rw [d3]
    walk_at "m"
    refine told_no rfl (by decide) (fun k hk e => by cases e; exact absurd hk (by decide)) ?_
    walk_at "m"
    exact hU _ (next_run (h _ _ _ _ _ _ _ (B2.mono (by omega))))
theorem l1_ok {s2 s3 s4 s5 s6 s7 s8 s9 s10 : Option Da} {ns : List Int} {i : Int} {D : En} (h0 : 0 ≤ i) (h1 : i < 1000)
    (h : ∀ b s2 s3 s4 s5 s6 s7 s8 s9 s10, D.nx [some (.kl (ns.map Da.int)), some (.int i), s2, s3, s4, s5, s6, s7, s8, s9, s10] [b]) : l_law_1 D [some (.kl (ns.map Da.int)), some (.int i), s2, s3, s4, s5, s6, s7, s8, s9, s10] [] := by
  unfold l_law_1
  refine seq_hide fun N hN => ?_
  walk_at "m"
  refine cell_ok h0 h1 fun n => ?_
  refine box_ok fun b B => ?_
  refine hN _ _ ?_
  clear hN
  unfold b_law_L1_1
  refine seq_hide fun N hN => ?_
  walk_at "m"
  refine names_ok B (by decide) (by decide) (by decide) fun ms b1 B1 hz _ _ => ?_
  have hm : ms.length = 3 := by omega
  refine hN _ _ ?_
  clear hN
  unfold b_law_L1_2
  walk_at "m"
  refine law_kinds_ok ?_
  try walk_at "m"
  refine mixed_ok B1 (by omega) (by decide) (by decide) fun ys b2 B2 pm => ?_
  obtain ⟨ws, rfl, pw⟩ := strs_of_perm pm
  try walk_at "m"
  rw [cutL_take _ (by decide), ← List.map_take]
  try walk_at "m"
  refine forL_ind (fun k ρ M => ∃ b s4 s5 s6 s7 s8 s9 s10, BoxD (100 + 500 * k) b ∧ M = [b] ∧ ρ = [some (.kl (ns.map Da.int)), some (.int i), some (.cell 0), some (.lst (ms.map Da.str)), s4, s5, s6, s7, s8, s9, s10])
    ⟨b2, _, _, _, _, _, _, _, B2.mono (by decide), rfl, rfl⟩ ?_ ?_
  · rintro k e _ _ he ⟨b, s4, s5, s6, s7, s8, s9, s10, B, rfl, rfl⟩ C hC
    have hk : k < 4 := by
      have := (List.getElem?_eq_some_iff.1 he).1
      rw [List.length_map, List.length_take] at this
      omega
    obtain ⟨z, hz, rfl⟩ := List.mem_map.1 (List.mem_of_getElem? he)
    have hz : z ∈ kinds8 := pw.mem_iff.1 (List.mem_of_mem_take hz)
    walk_at "m"
    exact l2_ok B (by omega) hm hz fun b' s5 s6 s7 s8 s9 s10 B' => hC _ _ _ _ .same trivial ⟨b', _, _, _, _, _, _, _, B'.mono (by omega), rfl, rfl⟩
  · rintro _ _ ⟨b, s4, s5, s6, s7, s8, s9, s10, B, rfl, rfl⟩
    exact h _ _ _ _ _ _ _ _ _ _
theorem law_true : ∀ ns : List Int, ns.length ≤ 63 → f_law [.kl (ns.map Da.int)] [] (fun d _ => d = .bl true) XD0 := by
  intro ns hns
  unfold f_law m_law
  walk_at "m1"
  intro _ cD
  have cloKl : cloD 0 (.kl (ns.map Da.int)) = true := by
    unfold cloL at cD
    rw [Bool.and_eq_true] at cD
    exact cD.1
  walk_at "m"
  rw [List.length_map]
  refine ⟨?_, ?_, ?_⟩
  · split <;> (try split) <;> omega
  · split <;> (try split) <;> omega
  refine forL_ind (fun k ρ M => M = [] ∧ ∃ s1 s2 s3 s4 s5 s6 s7 s8 s9 s10, ρ = [some (.kl (ns.map Da.int)), s1, s2, s3, s4, s5, s6, s7, s8, s9, s10]) ⟨rfl, _, _, _, _, _, _, _, _, _, _, rfl⟩ ?_ ?_
  · rintro k d _ _ he ⟨rfl, s1, s2, s3, s4, s5, s6, s7, s8, s9, s10, rfl⟩ C hC
    obtain ⟨hk, rfl⟩ := rngD_at he
    walk_at "m"
    refine l1_ok (by omega) ?_ fun b s2 s3 s4 s5 s6 s7 s8 s9 s10 => ?_
    · have hk2 := hk
      split at hk2
      · split at hk2 <;> omega
      · omega
    · refine hC _ _ [some (.kl (ns.map Da.int)), none, none, none, none, none, none, none, none, none, none] [] (.inr ⟨Nat.zero_le _, rfl, rfl, ?_⟩) trivial ⟨rfl, _, _, _, _, _, _, _, _, _, _, rfl⟩
      refine ⟨rfl, ?_⟩
      rintro (_ | j) d e
      · cases e
        exact ⟨rfl, cloKl⟩
      · rw [List.getElem?_cons_succ] at e
        have e := List.mem_of_getElem? e
        simp at e
  · rintro _ _ ⟨rfl, s1, s2, s3, s4, s5, s6, s7, s8, s9, s10, rfl⟩
    unfold b_law_1
    walk_at "m"
    exact leave_same rfl
end Z

namespace Z
open PySem PySem.Spec PyProof.Rows L2 Evl
/-! ### the text by places, derivations (gen.py) -/
def top (i : Nat) : Stmt := PySem.Challenge.pw_shiftparts_k22_programs_of_kinds.main.body.getD i (.Pass ⟨0, 0, 0, 0⟩)
structure Txt (P : Program) (w : World) (K : PySem.W.Frag) (mg : Str → Option Value) : Prop where
  b_all : mg "all" = none
  b_any : mg "any" = none
  b_bool : mg "bool" = none
  b_enumerate : mg "enumerate" = none
  b_isinstance : mg "isinstance" = none
  b_len : mg "len" = none
  b_list : mg "list" = none
  b_max : mg "max" = none
  b_min : mg "min" = none
  b_range : mg "range" = none
  b_str : mg "str" = none
  b_super : mg "super" = none
  b_tuple : mg "tuple" = none
  g_CHANGES : mg "CHANGES" = some (.ref (He.ga K "CHANGES"))
  g_CHECKS : mg "CHECKS" = some (.ref (He.ga K "CHECKS"))
  g_DEEDS : mg "DEEDS" = some (.ref (He.ga K "DEEDS"))
  g_KINDS : mg "KINDS" = some (.ref (He.ga K "KINDS"))
  c_LETTERS : ∃ t, mg "LETTERS" = some (.str "abcdefghijklmnopqrstuvwxyz" t)
  g_LOCKED : mg "LOCKED" = some (.ref (He.ga K "LOCKED"))
  c_MOST_LETTERS : ∃ t, mg "MOST_LETTERS" = some (.int 8 t)
  c_MOST_STEPS : ∃ t, mg "MOST_STEPS" = some (.int 12 t)
  g_NoProgram : mg "NoProgram" = some (.ref (He.ga K "NoProgram"))
  g_PLAIN_STEPS : mg "PLAIN_STEPS" = some (.ref (He.ga K "PLAIN_STEPS"))
  c_TABLE : ∃ t, mg "TABLE" = some (.str "table" t)
  x_NoProgram : PySem.Sxkind.Txt P K mg "NoProgram" (He.ga K "NoProgram") (He.ma K (He.ga K "NoProgram") "__init__")
  xf_NoProgram : XfC K (He.ga K "NoProgram")
  na_NoProgram_kind : PySem.W.findIn K (.ref (He.ga K "NoProgram")) "kind" = some none
  k_LOCKED : ∃ es n, KDict K w (He.ga K "LOCKED") es n
  k_PLAIN_STEPS : ∃ es n, KDict K w (He.ga K "PLAIN_STEPS") es n
  tbl : Tbl K
  exm : Exm K
section
variable {P : Program} {w : World} {K : PySem.W.Frag} {mg : Str → Option Value} {base : Heap}
abbrev s_is_name : Stmt := top 7
theorem sc_is_name : FnScope ["value", "sign"] ["value"] (defScope s_is_name) := ⟨rfl, rfl, rfl, by decide +kernel, rfl, by decide +kernel, by decide +kernel⟩
theorem okf_is_name {fd : FuncData} (T : Txt P w K mg) (F : FunD K "is_name" "is_name" (defArgs s_is_name) (defBody s_is_name) (defScope s_is_name) [] [] (He.ga K "is_name") fd)   : FnOk P w K mg base CX0 1 (He.ga K "is_name") fd ["value"] (sp_is_name K) := by
  have nd := sc_is_name.nd
  refine F.ok (k := 0) sc_is_name (len_is_name K) (fun cdv A outer s H vs Q E hr h => ⟨t_is_name K, PSs.nox ?_, pure_is_name K vs H Q E h⟩)
  have hu : (A.deeper (envOfC "is_name" (defScope s_is_name) s.heap.objs.size (He.ga K "is_name") cdv)).units + 64 < cLine := by
    have h1 := hr.un
    omega
  skip
  exact (pss_cons (ps_if (PW.pt (pw_or (pt_not (pt_val (pe_callB call_isi (by rfl) T.b_isinstance (by decide +kernel) (pa_cons (pv 0) (pa_cons (pe_bltn (by rfl) T.b_str (by decide +kernel) rfl) pa_nil))))) (pw_or (pt_cmpR (op_eqA hu) (pv 0) (pe_gstr (by rfl) T.c_TABLE) (nomark _)) (pw_or1 (pt_not (pt_chain op_leA op_leA (pe_int) (pe_callB call_lenB (by rfl) T.b_len (by decide +kernel) (pa_cons (pv 0) pa_nil)) (pe_gint (by rfl) T.c_MOST_LETTERS))))))) (pss_one (ps_ret (pe_bl))) pss_nil)
    (pss_one (ps_ret (pe_callB (cr_all rfl) (by rfl) T.b_all (by decide +kernel) (pa_cons (pe_lc (own := [("sign", 1)]) rfl nd (pi_seq (pv 0)) (blkOk_by (own := [("sign", 1)]) (N := ["value", "sign"]) (sc := defScope s_is_name) (by decide +kernel)) (fun _ _ _ _ _ => (pg_name (i := 1) nd (by rfl) (by first | exact Or.inl rfl | exact Or.inr rfl))) (fun _ _ _ _ _ => pts_nil) (fun _ _ _ _ _ => (pe_cmpR (op_inB hu) (pv 1) (pe_gstr (by rfl) T.c_LETTERS) (by rfl)))) pa_nil)))))
theorem ok_is_name (T : Txt P w K mg) (FD : ∃ fd, FunD K "is_name" "is_name" (defArgs s_is_name) (defBody s_is_name) (defScope s_is_name) [] [] (He.ga K "is_name") fd) (hm : mg "is_name" = some (.ref (He.ga K "is_name")))   : Fok P w K mg base CX0 1 "is_name" ["value"] (sp_is_name K) := by
  obtain ⟨fd, F⟩ := FD
  exact ⟨⟨fd, okf_is_name T F  , F.bindsN fun _ _ _ _ _ _ us hl => match us, hl with | [_], _ => rfl⟩, hm, F.kp⟩
abbrev s_need_kind : Stmt := top 16
theorem sc_need_kind : FnScope ["kind"] ["kind"] (defScope s_need_kind) := ⟨rfl, rfl, rfl, by decide +kernel, rfl, by decide +kernel, by decide +kernel⟩
theorem okf_need_kind {fd : FuncData} (T : Txt P w K mg) (F : FunD K "need_kind" "need_kind" (defArgs s_need_kind) (defBody s_need_kind) (defScope s_need_kind) [] [] (He.ga K "need_kind") fd)   : FnOk P w K mg base (L2.CX P w) 2 (He.ga K "need_kind") fd ["kind"] (sp_need_kind K) := by
  have nd := sc_need_kind.nd
  refine F.ok (k := 1) sc_need_kind (len_need_kind K) (fun cdv A outer s H vs Q E hr h => ⟨t_need_kind K E, ?_, pure_need_kind K vs H Q E T.tbl h⟩)
  have hu : (A.deeper (envOfC "need_kind" (defScope s_need_kind) s.heap.objs.size (He.ga K "need_kind") cdv)).units + 64 < cLine := by
    have h1 := hr.un
    omega
  unfold t_need_kind tw_need_kind
  exact (pss_one (ps_if (pt_cmpR (op_ninB hu) (pv 0) (pe_glob (by rfl) T.g_KINDS rfl) (by rfl)) (pss_one (ps_raisekind (k := 1) rfl T.x_NoProgram (hr.mono (by decide)) (takes_of rfl rfl rfl rfl) (pa_cons (pv 0) pa_nil) (by rfl))) pss_nil))
theorem ok_need_kind (T : Txt P w K mg) (FD : ∃ fd, FunD K "need_kind" "need_kind" (defArgs s_need_kind) (defBody s_need_kind) (defScope s_need_kind) [] [] (He.ga K "need_kind") fd) (hm : mg "need_kind" = some (.ref (He.ga K "need_kind")))   : Fok P w K mg base (L2.CX P w) 2 "need_kind" ["kind"] (sp_need_kind K) := by
  obtain ⟨fd, F⟩ := FD
  exact ⟨⟨fd, okf_need_kind T F  , F.bindsN fun _ _ _ _ _ _ us hl => match us, hl with | [_], _ => rfl⟩, hm, F.kp⟩
abbrev s_has_step : Stmt := top 17
theorem sc_has_step : FnScope ["value", "kind", "item"] ["value", "kind"] (defScope s_has_step) := ⟨rfl, rfl, rfl, by decide +kernel, rfl, by decide +kernel, by decide +kernel⟩
theorem okf_has_step {fd : FuncData} (T : Txt P w K mg) (F : FunD K "has_step" "has_step" (defArgs s_has_step) (defBody s_has_step) (defScope s_has_step) [] [] (He.ga K "has_step") fd) (F_is_name : Fok P w K mg base CX0 1 "is_name" ["value"] (sp_is_name K))  : FnOk P w K mg base CX0 2 (He.ga K "has_step") fd ["value", "kind"] (sp_has_step K) := by
  have nd := sc_has_step.nd
  refine F.ok (k := 1) sc_has_step (len_has_step K) (fun cdv A outer s H vs Q E hr h => ⟨t_has_step K, PSs.nox ?_, pure_has_step K vs H Q E T.tbl h⟩)
  have hu : (A.deeper (envOfC "has_step" (defScope s_has_step) s.heap.objs.size (He.ga K "has_step") cdv)).units + 64 < cLine := by
    have h1 := hr.un
    omega
  skip
  exact (pss_cons (ps_if (PW.pt (pw_or (pt_not (pt_val (pe_callB call_isi (by rfl) T.b_isinstance (by decide +kernel) (pa_cons (pv 0) (pa_cons (pe_bltn (by rfl) T.b_tuple (by decide +kernel) rfl) pa_nil))))) (pw_or (pt_cmpR (op_eqA hu) (pe_callB call_lenB (by rfl) T.b_len (by decide +kernel) (pa_cons (pv 0) pa_nil)) (pe_int) (nomark _)) (pw_or1 (pt_not (pt_val (pe_callB (cr_all rfl) (by rfl) T.b_all (by decide +kernel) (pa_cons (pe_lc (own := [("item", 2)]) rfl nd (pi_seq (pv 0)) (blkOk_by (own := [("item", 2)]) (N := ["value", "kind", "item"]) (sc := defScope s_has_step) (by decide +kernel)) (fun _ _ _ _ _ => (pg_name (i := 2) nd (by rfl) (by first | exact Or.inl rfl | exact Or.inr rfl))) (fun _ _ _ _ _ => pts_nil) (fun _ _ _ _ _ => (pe_callB call_isi (by rfl) T.b_isinstance (by decide +kernel) (pa_cons (pv 2) (pa_cons (pe_bltn (by rfl) T.b_str (by decide +kernel) rfl) pa_nil))))) pa_nil)))))))) (pss_one (ps_ret (pe_bl))) pss_nil)
    (pss_cons (ps_if (pt_cmpR (op_eqA hu) (pe_callB call_lenB (by rfl) T.b_len (by decide +kernel) (pa_cons (pv 0) pa_nil)) (pe_int) (nomark _)) (pss_one (ps_ret ((pe_and (pe_cmpR (op_inK T.k_PLAIN_STEPS) (pe_ix (ix_B hu) (pv 0) (pe_int) (fun _ _ => rfl)) (pe_glob (by rfl) T.g_PLAIN_STEPS rfl) (by rfl)) (pe_one (pe_cmpR (op_inB hu) (pv 1) (pe_ix (ix_K T.k_PLAIN_STEPS) (pe_glob (by rfl) T.g_PLAIN_STEPS rfl) (pe_ix (ix_B hu) (pv 0) (pe_int) (fun _ _ => rfl)) (fun _ _ => rfl)) (by rfl))))))) pss_nil)
    (pss_cons (ps_if (pt_cmpR (op_eqA hu) (pe_ix (ix_B hu) (pv 0) (pe_int) (fun _ _ => rfl)) (pe_str) (nomark _)) (pss_one (ps_ret ((pe_and (pe_cmpR (op_eqA hu) (pv 1) (pe_str) (nomark _)) (pe_and (pe_cmpR (op_eqA hu) (pe_callB call_lenB (by rfl) T.b_len (by decide +kernel) (pa_cons (pv 0) pa_nil)) (pe_int) (nomark _)) (pe_one (pe_cmpR (op_inB hu) (pe_ix (ix_B hu) (pv 0) (pe_int) (fun _ _ => rfl)) (pe_tup (pa_cons (pe_str) (pa_cons (pe_str) pa_nil))) (by rfl)))))))) pss_nil)
    (pss_cons (ps_if (PW.pt (pw_or (pt_cmpR (op_neA hu) (pe_ix (ix_B hu) (pv 0) (pe_int) (fun _ _ => rfl)) (pe_str) (nomark _)) (pw_or (pt_cmpR (op_neA hu) (pe_callB call_lenB (by rfl) T.b_len (by decide +kernel) (pa_cons (pv 0) pa_nil)) (pe_int) (nomark _)) (pw_or1 (pt_cmpR (op_ninK T.k_LOCKED) (pe_ix (ix_B hu) (pv 0) (pe_int) (fun _ _ => rfl)) (pe_glob (by rfl) T.g_LOCKED rfl) (by rfl)))))) (pss_one (ps_ret (pe_bl))) pss_nil)
    (pss_one (ps_ret ((pe_and (pe_cmpR (op_inB hu) (pv 1) (pe_ix (ix_K T.k_LOCKED) (pe_glob (by rfl) T.g_LOCKED rfl) (pe_ix (ix_B hu) (pv 0) (pe_int) (fun _ _ => rfl)) (fun _ _ => rfl)) (by rfl)) (pe_one (pe_callF F_is_name (hr.mono (by decide)) (by rfl) pass0 (pa_cons (pe_ix (ix_B hu) (pv 0) (pe_int) (fun _ _ => rfl)) pa_nil)))))))))))
theorem ok_has_step (T : Txt P w K mg) (FD : ∃ fd, FunD K "has_step" "has_step" (defArgs s_has_step) (defBody s_has_step) (defScope s_has_step) [] [] (He.ga K "has_step") fd) (hm : mg "has_step" = some (.ref (He.ga K "has_step"))) (F_is_name : Fok P w K mg base CX0 1 "is_name" ["value"] (sp_is_name K))  : Fok P w K mg base CX0 2 "has_step" ["value", "kind"] (sp_has_step K) := by
  obtain ⟨fd, F⟩ := FD
  exact ⟨⟨fd, okf_has_step T F F_is_name , F.bindsN fun _ _ _ _ _ _ us hl => match us, hl with | [_, _], _ => rfl⟩, hm, F.kp⟩
abbrev s_words_of : Stmt := top 18
theorem sc_words_of : FnScope ["program", "step"] ["program"] (defScope s_words_of) := ⟨rfl, rfl, rfl, by decide +kernel, rfl, by decide +kernel, by decide +kernel⟩
theorem okf_words_of {fd : FuncData} (T : Txt P w K mg) (F : FunD K "words_of" "words_of" (defArgs s_words_of) (defBody s_words_of) (defScope s_words_of) [] [] (He.ga K "words_of") fd)   : FnOk P w K mg base CX0 1 (He.ga K "words_of") fd ["program"] (sp_words_of K) := by
  have nd := sc_words_of.nd
  refine F.ok (k := 0) sc_words_of (len_words_of K) (fun cdv A outer s H vs Q E hr h => ⟨t_words_of K, PSs.nox ?_, pure_words_of K vs H Q E h⟩)
  have hu : (A.deeper (envOfC "words_of" (defScope s_words_of) s.heap.objs.size (He.ga K "words_of") cdv)).units + 64 < cLine := by
    have h1 := hr.un
    omega
  skip
  exact (pss_one (ps_ret (pe_lc (own := [("step", 1)]) rfl nd (pi_seq (pv 0)) (blkOk_by (own := [("step", 1)]) (N := ["program", "step"]) (sc := defScope s_words_of) (by decide +kernel)) (fun _ _ _ _ _ => (pg_name (i := 1) nd (by rfl) (by first | exact Or.inl rfl | exact Or.inr rfl))) (fun _ _ _ _ _ => pts_nil) (fun _ _ _ _ _ => (pe_ix (ix_B hu) (pv 1) (pe_int) (fun _ _ => rfl))))))
theorem ok_words_of (T : Txt P w K mg) (FD : ∃ fd, FunD K "words_of" "words_of" (defArgs s_words_of) (defBody s_words_of) (defScope s_words_of) [] [] (He.ga K "words_of") fd) (hm : mg "words_of" = some (.ref (He.ga K "words_of")))   : Fok P w K mg base CX0 1 "words_of" ["program"] (sp_words_of K) := by
  obtain ⟨fd, F⟩ := FD
  exact ⟨⟨fd, okf_words_of T F  , F.bindsN fun _ _ _ _ _ _ us hl => match us, hl with | [_], _ => rfl⟩, hm, F.kp⟩
abbrev s_ends_well : Stmt := top 19
theorem sc_ends_well : FnScope ["program", "kind", "words", "last", "word"] ["program", "kind"] (defScope s_ends_well) := ⟨rfl, rfl, rfl, by decide +kernel, rfl, by decide +kernel, by decide +kernel⟩
theorem okf_ends_well {fd : FuncData} (T : Txt P w K mg) (F : FunD K "ends_well" "ends_well" (defArgs s_ends_well) (defBody s_ends_well) (defScope s_ends_well) [] [] (He.ga K "ends_well") fd) (F_words_of : Fok P w K mg base CX0 1 "words_of" ["program"] (sp_words_of K))  : FnOk P w K mg base CX0 2 (He.ga K "ends_well") fd ["program", "kind"] (sp_ends_well K) := by
  have nd := sc_ends_well.nd
  refine F.ok (k := 1) sc_ends_well (len_ends_well K) (fun cdv A outer s H vs Q E hr h => ⟨t_ends_well K, PSs.nox ?_, pure_ends_well K vs H Q E T.tbl h⟩)
  have hu : (A.deeper (envOfC "ends_well" (defScope s_ends_well) s.heap.objs.size (He.ga K "ends_well") cdv)).units + 64 < cLine := by
    have h1 := hr.un
    omega
  skip
  exact (pss_cons (ps_set (i := 2) nd (by rfl) (Or.inl rfl) (pe_callF F_words_of (hr.mono (by decide)) (by rfl) pass0 (pa_cons (pv 0) pa_nil)))
    (pss_cons (ps_set (i := 3) nd (by rfl) (Or.inl rfl) (pe_ifExp (pt_cmpR (op_inB hu) (pv 1) (pe_glob (by rfl) T.g_CHANGES rfl) (by rfl)) (pe_tup (pa_cons (pe_str) (pa_cons (pe_str) pa_nil))) (pe_tup (pa_cons (pe_str) pa_nil))))
    (pss_one (ps_ret ((pe_and (pe_cmpR (op_inB hu) (pe_ix (ix_B hu) (pv 2) (pe_un un_neg (pe_int)) (fun _ _ => rfl)) (pv 3) (by rfl)) (pe_one (pe_not (pe_callB (cr_any rfl) (by rfl) T.b_any (by decide +kernel) (pa_cons (pe_lc (own := [("word", 4)]) rfl nd (pi_seq (pe_slice sl_A (pv 2) po_none (po_some (pe_un un_neg (pe_int))))) (blkOk_by (own := [("word", 4)]) (N := ["program", "kind", "words", "last", "word"]) (sc := defScope s_ends_well) (by decide +kernel)) (fun _ _ _ _ _ => (pg_name (i := 4) nd (by rfl) (by first | exact Or.inl rfl | exact Or.inr rfl))) (fun _ _ _ _ _ => pts_nil) (fun _ _ _ _ _ => (pe_cmpR (op_inB hu) (pv 4) (pe_tup (pa_cons (pe_str) (pa_cons (pe_str) pa_nil))) (by rfl)))) pa_nil))))))))))
theorem ok_ends_well (T : Txt P w K mg) (FD : ∃ fd, FunD K "ends_well" "ends_well" (defArgs s_ends_well) (defBody s_ends_well) (defScope s_ends_well) [] [] (He.ga K "ends_well") fd) (hm : mg "ends_well" = some (.ref (He.ga K "ends_well"))) (F_words_of : Fok P w K mg base CX0 1 "words_of" ["program"] (sp_words_of K))  : Fok P w K mg base CX0 2 "ends_well" ["program", "kind"] (sp_ends_well K) := by
  obtain ⟨fd, F⟩ := FD
  exact ⟨⟨fd, okf_ends_well T F F_words_of , F.bindsN fun _ _ _ _ _ _ us hl => match us, hl with | [_, _], _ => rfl⟩, hm, F.kp⟩
abbrev s_stand_ahead : Stmt := top 20
theorem sc_stand_ahead : FnScope ["words", "wanted", "at", "word"] ["words", "wanted", "at"] (defScope s_stand_ahead) := ⟨rfl, rfl, rfl, by decide +kernel, rfl, by decide +kernel, by decide +kernel⟩
theorem okf_stand_ahead {fd : FuncData} (T : Txt P w K mg) (F : FunD K "stand_ahead" "stand_ahead" (defArgs s_stand_ahead) (defBody s_stand_ahead) (defScope s_stand_ahead) [] [] (He.ga K "stand_ahead") fd)   : FnOk P w K mg base CX0 1 (He.ga K "stand_ahead") fd ["words", "wanted", "at"] (sp_stand_ahead K) := by
  have nd := sc_stand_ahead.nd
  refine F.ok (k := 0) sc_stand_ahead (len_stand_ahead K) (fun cdv A outer s H vs Q E hr h => ⟨t_stand_ahead K, PSs.nox ?_, pure_stand_ahead K vs H Q E h⟩)
  have hu : (A.deeper (envOfC "stand_ahead" (defScope s_stand_ahead) s.heap.objs.size (He.ga K "stand_ahead") cdv)).units + 64 < cLine := by
    have h1 := hr.un
    omega
  skip
  exact (pss_one (ps_ret (pe_not (pe_callB (cr_any rfl) (by rfl) T.b_any (by decide +kernel) (pa_cons (pe_lc (own := [("word", 3)]) rfl nd (pi_seq (pe_slice sl_A (pv 0) (po_some (pv 2)) po_none)) (blkOk_by (own := [("word", 3)]) (N := ["words", "wanted", "at", "word"]) (sc := defScope s_stand_ahead) (by decide +kernel)) (fun _ _ _ _ _ => (pg_name (i := 3) nd (by rfl) (by first | exact Or.inl rfl | exact Or.inr rfl))) (fun _ _ _ _ _ => pts_nil) (fun _ _ _ _ _ => (pe_cmpR (op_inB hu) (pv 3) (pv 1) (by rfl)))) pa_nil)))))
theorem ok_stand_ahead (T : Txt P w K mg) (FD : ∃ fd, FunD K "stand_ahead" "stand_ahead" (defArgs s_stand_ahead) (defBody s_stand_ahead) (defScope s_stand_ahead) [] [] (He.ga K "stand_ahead") fd) (hm : mg "stand_ahead" = some (.ref (He.ga K "stand_ahead")))   : Fok P w K mg base CX0 1 "stand_ahead" ["words", "wanted", "at"] (sp_stand_ahead K) := by
  obtain ⟨fd, F⟩ := FD
  exact ⟨⟨fd, okf_stand_ahead T F  , F.bindsN fun _ _ _ _ _ _ us hl => match us, hl with | [_, _, _], _ => rfl⟩, hm, F.kp⟩
abbrev s_asks_well : Stmt := top 21
theorem sc_asks_well : FnScope ["program", "kind", "words", "deeds", "early", "at", "word", "step"] ["program", "kind"] (defScope s_asks_well) := ⟨rfl, rfl, rfl, by decide +kernel, rfl, by decide +kernel, by decide +kernel⟩
theorem okf_asks_well {fd : FuncData} (T : Txt P w K mg) (F : FunD K "asks_well" "asks_well" (defArgs s_asks_well) (defBody s_asks_well) (defScope s_asks_well) [] [] (He.ga K "asks_well") fd) (F_words_of : Fok P w K mg base CX0 1 "words_of" ["program"] (sp_words_of K)) (F_stand_ahead : Fok P w K mg base CX0 1 "stand_ahead" ["words", "wanted", "at"] (sp_stand_ahead K))  : FnOk P w K mg base CX0 2 (He.ga K "asks_well") fd ["program", "kind"] (sp_asks_well K) := by
  have nd := sc_asks_well.nd
  refine F.ok (k := 1) sc_asks_well (len_asks_well K) (fun cdv A outer s H vs Q E hr h => ⟨t_asks_well K, PSs.nox ?_, pure_asks_well K vs H Q E T.tbl h⟩)
  have hu : (A.deeper (envOfC "asks_well" (defScope s_asks_well) s.heap.objs.size (He.ga K "asks_well") cdv)).units + 64 < cLine := by
    have h1 := hr.un
    omega
  skip
  exact (pss_cons (ps_set (i := 2) nd (by rfl) (Or.inr rfl) (pe_callF F_words_of (hr.mono (by decide)) (by rfl) pass0 (pa_cons (pv 0) pa_nil)))
    (pss_cons (ps_setLc (own := [("at", 5), ("word", 6)]) (i := 3) rfl nd rfl rfl (sw_true rfl rfl rfl (by decide +kernel)) (pi_enum (by rfl) T.b_enumerate (pa_cons (pv 2) pa_nil)) (blkOk_by (own := [("at", 5), ("word", 6)]) (N := ["program", "kind", "words", "deeds", "early", "at", "word", "step"]) (sc := defScope s_asks_well) (by decide +kernel)) (fun _ _ _ _ _ => (pg_tup (by rfl) (pgs_cons (pg_name (i := 5) nd (by rfl) (by first | exact Or.inl rfl | exact Or.inr rfl)) (pgs_cons (pg_name (i := 6) nd (by rfl) (by first | exact Or.inl rfl | exact Or.inr rfl)) pgs_nil)))) (fun _ _ _ _ _ => (pts_one (pt_cmpR (op_inB hu) (pv 6) (pe_glob (by rfl) T.g_DEEDS rfl) (by rfl)))) (fun _ _ _ _ _ => (pv 5)))
    (pss_cons (ps_if (PW.pt (pw_or (pt_cmpR (op_neA hu) (pe_callB call_lenB (by rfl) T.b_len (by decide +kernel) (pa_cons (pv 3) pa_nil)) (pe_int) (nomark _)) (pw_or1 (pt_val (pe_callB (cr_any rfl) (by rfl) T.b_any (by decide +kernel) (pa_cons (pe_lc (own := [("word", 6)]) rfl nd (pi_seq (pe_glob (by rfl) T.g_CHECKS rfl)) (blkOk_by (own := [("word", 6)]) (N := ["program", "kind", "words", "deeds", "early", "at", "word", "step"]) (sc := defScope s_asks_well) (by decide +kernel)) (fun _ _ _ _ _ => (pg_name (i := 6) nd (by rfl) (by first | exact Or.inl rfl | exact Or.inr rfl))) (fun _ _ _ _ _ => pts_nil) (fun _ _ _ _ _ => (pe_cmpR op_gtA (pe_bmW PySem.F.plainAttrs_list PySem.F.slot_list_count PySem.F.type_list_count (mt_countG hu) (pv 2) (pa_cons (pv 6) pa_nil)) (pe_int) (nomark _)))) pa_nil)))))) (pss_one (ps_ret (pe_bl))) pss_nil)
    (pss_cons (ps_if (pt_not (pt_val (pe_callF F_stand_ahead (hr.mono (by decide)) (by rfl) pass0 (pa_cons (pv 2) (pa_cons (pe_tup (pa_cons (pe_str) (pa_cons (pe_str) (pa_cons (pe_str) (pa_cons (pe_str) pa_nil))))) (pa_cons (pe_ix (ix_B hu) (pv 3) (pe_int) (fun _ _ => rfl)) pa_nil)))))) (pss_one (ps_ret (pe_bl))) pss_nil)
    (pss_cons (ps_if (pt_cmpR (op_eqA hu) (pv 1) (pe_str) (nomark _)) (pss_one (ps_ret (pe_bl))) pss_nil)
    (pss_cons (ps_if (PW.pt (pw_or (pt_cmpR (op_neA hu) (pe_bmW PySem.F.plainAttrs_list PySem.F.slot_list_count PySem.F.type_list_count (mt_countG hu) (pv 2) (pa_cons (pe_str) pa_nil)) (pe_int) (nomark _)) (pw_or1 (PW.pt (pw_and (pt_cmpR (op_eqA hu) (pv 1) (pe_str) (nomark _)) (pw_and1 (pt_cmpR (op_neA hu) (pe_bmW PySem.F.plainAttrs_list PySem.F.slot_list_count PySem.F.type_list_count (mt_countG hu) (pv 2) (pa_cons (pe_str) pa_nil)) (pe_int) (nomark _)))))))) (pss_one (ps_ret (pe_bl))) pss_nil)
    (pss_cons (ps_set (i := 4) nd (by rfl) (Or.inl rfl) (pe_slice sl_A (pv 0) po_none (po_some (pe_bmW PySem.F.plainAttrs_list PySem.F.slot_list_index PySem.F.type_list_index (mt_indexG hu) (pv 2) (pa_cons (pe_str) pa_nil)))))
    (pss_one (ps_ret (pe_not (pe_callB (cr_any rfl) (by rfl) T.b_any (by decide +kernel) (pa_cons (pe_lc (own := [("step", 7)]) rfl nd (pi_seq (pv 4)) (blkOk_by (own := [("step", 7)]) (N := ["program", "kind", "words", "deeds", "early", "at", "word", "step"]) (sc := defScope s_asks_well) (by decide +kernel)) (fun _ _ _ _ _ => (pg_name (i := 7) nd (by rfl) (by first | exact Or.inl rfl | exact Or.inr rfl))) (fun _ _ _ _ _ => pts_nil) (fun _ _ _ _ _ => ((pe_or (pe_cmpR (op_inB hu) (pe_ix (ix_B hu) (pv 7) (pe_int) (fun _ _ => rfl)) (pe_tup (pa_cons (pe_str) (pa_cons (pe_str) (StX.pa_star (pe_glob (by rfl) T.g_DEEDS rfl) pa_nil)))) (by rfl)) (pe_one (pe_cmpR (op_eqA hu) (pe_slice sl_A (pv 7) po_none (po_some (pe_int))) (pe_tup (pa_cons (pe_str) (pa_cons (pe_str) pa_nil))) (nomark _))))))) pa_nil))))))))))))
theorem ok_asks_well (T : Txt P w K mg) (FD : ∃ fd, FunD K "asks_well" "asks_well" (defArgs s_asks_well) (defBody s_asks_well) (defScope s_asks_well) [] [] (He.ga K "asks_well") fd) (hm : mg "asks_well" = some (.ref (He.ga K "asks_well"))) (F_words_of : Fok P w K mg base CX0 1 "words_of" ["program"] (sp_words_of K)) (F_stand_ahead : Fok P w K mg base CX0 1 "stand_ahead" ["words", "wanted", "at"] (sp_stand_ahead K))  : Fok P w K mg base CX0 2 "asks_well" ["program", "kind"] (sp_asks_well K) := by
  obtain ⟨fd, F⟩ := FD
  exact ⟨⟨fd, okf_asks_well T F F_words_of F_stand_ahead , F.bindsN fun _ _ _ _ _ _ us hl => match us, hl with | [_, _], _ => rfl⟩, hm, F.kp⟩
abbrev s_changes_well : Stmt := top 22
theorem sc_changes_well : FnScope ["program", "kind", "words", "turns", "at", "word", "which"] ["program", "kind"] (defScope s_changes_well) := ⟨rfl, rfl, rfl, by decide +kernel, rfl, by decide +kernel, by decide +kernel⟩
theorem okf_changes_well {fd : FuncData} (T : Txt P w K mg) (F : FunD K "changes_well" "changes_well" (defArgs s_changes_well) (defBody s_changes_well) (defScope s_changes_well) [] [] (He.ga K "changes_well") fd) (F_words_of : Fok P w K mg base CX0 1 "words_of" ["program"] (sp_words_of K)) (F_stand_ahead : Fok P w K mg base CX0 1 "stand_ahead" ["words", "wanted", "at"] (sp_stand_ahead K))  : FnOk P w K mg base CX0 2 (He.ga K "changes_well") fd ["program", "kind"] (sp_changes_well K) := by
  have nd := sc_changes_well.nd
  refine F.ok (k := 1) sc_changes_well (len_changes_well K) (fun cdv A outer s H vs Q E hr h => ⟨t_changes_well K, PSs.nox ?_, pure_changes_well K vs H Q E h⟩)
  have hu : (A.deeper (envOfC "changes_well" (defScope s_changes_well) s.heap.objs.size (He.ga K "changes_well") cdv)).units + 64 < cLine := by
    have h1 := hr.un
    omega
  skip
  exact (pss_cons (ps_set (i := 2) nd (by rfl) (Or.inl rfl) (pe_callF F_words_of (hr.mono (by decide)) (by rfl) pass0 (pa_cons (pv 0) pa_nil)))
    (pss_cons (ps_setLc (own := [("at", 4), ("word", 5)]) (i := 3) rfl nd rfl rfl (sw_true rfl rfl rfl (by decide +kernel)) (pi_enum (by rfl) T.b_enumerate (pa_cons (pv 2) pa_nil)) (blkOk_by (own := [("at", 4), ("word", 5)]) (N := ["program", "kind", "words", "turns", "at", "word", "which"]) (sc := defScope s_changes_well) (by decide +kernel)) (fun _ _ _ _ _ => (pg_tup (by rfl) (pgs_cons (pg_name (i := 4) nd (by rfl) (by first | exact Or.inl rfl | exact Or.inr rfl)) (pgs_cons (pg_name (i := 5) nd (by rfl) (by first | exact Or.inl rfl | exact Or.inr rfl)) pgs_nil)))) (fun _ _ _ _ _ => (pts_one (pt_cmpR (op_inB hu) (pv 5) (pe_tup (pa_cons (pe_str) (pa_cons (pe_str) pa_nil))) (by rfl)))) (fun _ _ _ _ _ => (pv 4)))
    (pss_cons (ps_if (PW.pt (pw_or (pt_cmpR (op_neA hu) (pe_callB call_lenB (by rfl) T.b_len (by decide +kernel) (pa_cons (pv 3) pa_nil)) (pe_int) (nomark _)) (pw_or1 (pt_not (pt_val (pe_callF F_stand_ahead (hr.mono (by decide)) (by rfl) pass0 (pa_cons (pv 2) (pa_cons (pe_tup (pa_cons (pe_str) (pa_cons (pe_str) pa_nil))) (pa_cons (pe_ix (ix_B hu) (pv 3) (pe_int) (fun _ _ => rfl)) pa_nil))))))))) (pss_one (ps_ret (pe_bl))) pss_nil)
    (pss_cons (ps_if (PW.pt (pw_and (pt_cmpR (op_inB hu) (pe_str) (pv 2) (by rfl)) (pw_and1 (pt_cmpR op_ltA (pe_bmW PySem.F.plainAttrs_list PySem.F.slot_list_index PySem.F.type_list_index (mt_indexG hu) (pv 2) (pa_cons (pe_str) pa_nil)) (pe_ix (ix_B hu) (pv 3) (pe_int) (fun _ _ => rfl)) (nomark _))))) (pss_one (ps_ret (pe_bl))) pss_nil)
    (pss_cons (ps_if (pt_cmpR (op_inB hu) (pv 1) (pe_tup (pa_cons (pe_str) (pa_cons (pe_str) pa_nil))) (by rfl)) (pss_one (ps_ret (pe_cmpR (op_eqA hu) (pe_bmW PySem.F.plainAttrs_list PySem.F.slot_list_count PySem.F.type_list_count (mt_countG hu) (pv 2) (pa_cons (pe_str) pa_nil)) (pe_int) (nomark _)))) pss_nil)
    (pss_one (ps_ret (pe_callB (cr_all rfl) (by rfl) T.b_all (by decide +kernel) (pa_cons (pe_lc (own := [("which", 6)]) rfl nd (pi_seq (pe_tup (pa_cons (pe_str) (pa_cons (pe_str) pa_nil)))) (blkOk_by (own := [("which", 6)]) (N := ["program", "kind", "words", "turns", "at", "word", "which"]) (sc := defScope s_changes_well) (by decide +kernel)) (fun _ _ _ _ _ => (pg_name (i := 6) nd (by rfl) (by first | exact Or.inl rfl | exact Or.inr rfl))) (fun _ _ _ _ _ => pts_nil) (fun _ _ _ _ _ => (pe_cmpR op_leA (pe_bmW PySem.F.plainAttrs_list PySem.F.slot_list_count PySem.F.type_list_count (mt_countG hu) (pv 0) (pa_cons (pe_tup (pa_cons (pe_str) (pa_cons (pv 6) pa_nil))) pa_nil)) (pe_int) (nomark _)))) pa_nil)))))))))
theorem ok_changes_well (T : Txt P w K mg) (FD : ∃ fd, FunD K "changes_well" "changes_well" (defArgs s_changes_well) (defBody s_changes_well) (defScope s_changes_well) [] [] (He.ga K "changes_well") fd) (hm : mg "changes_well" = some (.ref (He.ga K "changes_well"))) (F_words_of : Fok P w K mg base CX0 1 "words_of" ["program"] (sp_words_of K)) (F_stand_ahead : Fok P w K mg base CX0 1 "stand_ahead" ["words", "wanted", "at"] (sp_stand_ahead K))  : Fok P w K mg base CX0 2 "changes_well" ["program", "kind"] (sp_changes_well K) := by
  obtain ⟨fd, F⟩ := FD
  exact ⟨⟨fd, okf_changes_well T F F_words_of F_stand_ahead , F.bindsN fun _ _ _ _ _ _ us hl => match us, hl with | [_, _], _ => rfl⟩, hm, F.kp⟩
abbrev s_has_program : Stmt := top 23
theorem sc_has_program : FnScope ["value", "kind", "step"] ["value", "kind"] (defScope s_has_program) := ⟨rfl, rfl, rfl, by decide +kernel, rfl, by decide +kernel, by decide +kernel⟩
theorem okf_has_program {fd : FuncData} (T : Txt P w K mg) (F : FunD K "has_program" "has_program" (defArgs s_has_program) (defBody s_has_program) (defScope s_has_program) [] [] (He.ga K "has_program") fd) (F_has_step : Fok P w K mg base CX0 2 "has_step" ["value", "kind"] (sp_has_step K)) (F_ends_well : Fok P w K mg base CX0 2 "ends_well" ["program", "kind"] (sp_ends_well K)) (F_changes_well : Fok P w K mg base CX0 2 "changes_well" ["program", "kind"] (sp_changes_well K)) (F_asks_well : Fok P w K mg base CX0 2 "asks_well" ["program", "kind"] (sp_asks_well K))  : FnOk P w K mg base CX0 3 (He.ga K "has_program") fd ["value", "kind"] (sp_has_program K) := by
  have nd := sc_has_program.nd
  refine F.ok (k := 2) sc_has_program (len_has_program K) (fun cdv A outer s H vs Q E hr h => ⟨t_has_program K, PSs.nox ?_, pure_has_program K vs H Q E T.tbl h⟩)
  have hu : (A.deeper (envOfC "has_program" (defScope s_has_program) s.heap.objs.size (He.ga K "has_program") cdv)).units + 64 < cLine := by
    have h1 := hr.un
    omega
  skip
  exact (pss_cons (ps_if (PW.pt (pw_or (pt_not (pt_val (pe_callB call_isi (by rfl) T.b_isinstance (by decide +kernel) (pa_cons (pv 0) (pa_cons (pe_bltn (by rfl) T.b_list (by decide +kernel) rfl) pa_nil))))) (pw_or1 (pt_not (pt_chain op_leA op_leA (pe_int) (pe_callB call_lenB (by rfl) T.b_len (by decide +kernel) (pa_cons (pv 0) pa_nil)) (pe_gint (by rfl) T.c_MOST_STEPS)))))) (pss_one (ps_ret (pe_bl))) pss_nil)
    (pss_cons (ps_if (PW.pt (pw_or (pt_not (pt_val (pe_callB (cr_all rfl) (by rfl) T.b_all (by decide +kernel) (pa_cons (pe_lc (own := [("step", 2)]) rfl nd (pi_seq (pv 0)) (blkOk_by (own := [("step", 2)]) (N := ["value", "kind", "step"]) (sc := defScope s_has_program) (by decide +kernel)) (fun _ _ _ _ _ => (pg_name (i := 2) nd (by rfl) (by first | exact Or.inl rfl | exact Or.inr rfl))) (fun _ _ _ _ _ => pts_nil) (fun _ _ _ _ _ => (pe_callF F_has_step (hr.mono (by decide)) (by rfl) pass0 (pa_cons (pv 2) (pa_cons (pv 1) pa_nil))))) pa_nil)))) (pw_or1 (pt_not (pt_val (pe_callF F_ends_well (hr.mono (by decide)) (by rfl) pass0 (pa_cons (pv 0) (pa_cons (pv 1) pa_nil)))))))) (pss_one (ps_ret (pe_bl))) pss_nil)
    (pss_one (ps_ret (pe_ifExp (pt_cmpR (op_inB hu) (pv 1) (pe_glob (by rfl) T.g_CHANGES rfl) (by rfl)) (pe_callF F_changes_well (hr.mono (by decide)) (by rfl) pass0 (pa_cons (pv 0) (pa_cons (pv 1) pa_nil))) (pe_callF F_asks_well (hr.mono (by decide)) (by rfl) pass0 (pa_cons (pv 0) (pa_cons (pv 1) pa_nil))))))))
theorem ok_has_program (T : Txt P w K mg) (FD : ∃ fd, FunD K "has_program" "has_program" (defArgs s_has_program) (defBody s_has_program) (defScope s_has_program) [] [] (He.ga K "has_program") fd) (hm : mg "has_program" = some (.ref (He.ga K "has_program"))) (F_has_step : Fok P w K mg base CX0 2 "has_step" ["value", "kind"] (sp_has_step K)) (F_ends_well : Fok P w K mg base CX0 2 "ends_well" ["program", "kind"] (sp_ends_well K)) (F_changes_well : Fok P w K mg base CX0 2 "changes_well" ["program", "kind"] (sp_changes_well K)) (F_asks_well : Fok P w K mg base CX0 2 "asks_well" ["program", "kind"] (sp_asks_well K))  : Fok P w K mg base CX0 3 "has_program" ["value", "kind"] (sp_has_program K) := by
  obtain ⟨fd, F⟩ := FD
  exact ⟨⟨fd, okf_has_program T F F_has_step F_ends_well F_changes_well F_asks_well , F.bindsN fun _ _ _ _ _ _ us hl => match us, hl with | [_, _], _ => rfl⟩, hm, F.kp⟩
abbrev s_is_program : Stmt := top 24
theorem sc_is_program : FnScope ["value", "kind"] ["value", "kind"] (defScope s_is_program) := ⟨rfl, rfl, rfl, by decide +kernel, rfl, by decide +kernel, by decide +kernel⟩
theorem okf_is_program {fd : FuncData} (T : Txt P w K mg) (F : FunD K "is_program" "is_program" (defArgs s_is_program) (defBody s_is_program) (defScope s_is_program) [] [] (He.ga K "is_program") fd) (F_need_kind : Fok P w K mg base (L2.CX P w) 2 "need_kind" ["kind"] (sp_need_kind K)) (F_has_program : Fok P w K mg base CX0 3 "has_program" ["value", "kind"] (sp_has_program K))  : FnOk P w K mg base (L2.CX P w) 4 (He.ga K "is_program") fd ["value", "kind"] (sp_is_program K) := by
  have nd := sc_is_program.nd
  refine F.ok (k := 3) sc_is_program (len_is_program K) (fun cdv A outer s H vs Q E hr h => ⟨t_is_program K E, ?_, pure_is_program K vs H Q E h⟩)
  have hu : (A.deeper (envOfC "is_program" (defScope s_is_program) s.heap.objs.size (He.ga K "is_program") cdv)).units + 64 < cLine := by
    have h1 := hr.un
    omega
  unfold t_is_program tw_is_program
  exact (pss_cons (ps_expr (pe_callG F_need_kind (hr.mono (by decide)) (by rfl) (takes_of rfl rfl rfl rfl) (pa_cons (pv 1) pa_nil)))
    (pss_one (ps_ret (pe_callF F_has_program (hr.mono (by decide)) (by rfl) pass0 (pa_cons (pv 0) (pa_cons (pv 1) pa_nil))))))
theorem ok_is_program (T : Txt P w K mg) (FD : ∃ fd, FunD K "is_program" "is_program" (defArgs s_is_program) (defBody s_is_program) (defScope s_is_program) [] [] (He.ga K "is_program") fd) (hm : mg "is_program" = some (.ref (He.ga K "is_program"))) (F_need_kind : Fok P w K mg base (L2.CX P w) 2 "need_kind" ["kind"] (sp_need_kind K)) (F_has_program : Fok P w K mg base CX0 3 "has_program" ["value", "kind"] (sp_has_program K))  : Fok P w K mg base (L2.CX P w) 4 "is_program" ["value", "kind"] (sp_is_program K) := by
  obtain ⟨fd, F⟩ := FD
  exact ⟨⟨fd, okf_is_program T F F_need_kind F_has_program , F.bindsN fun _ _ _ _ _ _ us hl => match us, hl with | [_, _], _ => rfl⟩, hm, F.kp⟩
abbrev s_law_cell : Stmt := top 26
theorem sc_law_cell : FnScope ["script", "k"] ["script", "k"] (defScope s_law_cell) := ⟨rfl, rfl, rfl, by decide +kernel, rfl, by decide +kernel, by decide +kernel⟩
theorem okf_law_cell {fd : FuncData} (T : Txt P w K mg) (F : FunD K "_law_cell" "_law_cell" (defArgs s_law_cell) (defBody s_law_cell) (defScope s_law_cell) [] [] (He.ga K "_law_cell") fd)   : FnOk P w K mg base CX0 1 (He.ga K "_law_cell") fd ["script", "k"] (sp_law_cell K) := by
  have nd := sc_law_cell.nd
  refine F.ok (k := 0) sc_law_cell (len_law_cell K) (fun cdv A outer s H vs Q E hr h => ⟨t_law_cell K, PSs.nox ?_, pure_law_cell K vs H Q E h⟩)
  have hu : (A.deeper (envOfC "_law_cell" (defScope s_law_cell) s.heap.objs.size (He.ga K "_law_cell") cdv)).units + 64 < cLine := by
    have h1 := hr.un
    omega
  skip
  exact (pss_cons (ps_if (pt_cmpR op_ltA (pv 1) (pe_callB call_lenB (by rfl) T.b_len (by decide +kernel) (pa_cons (pv 0) pa_nil)) (nomark _)) (pss_one (ps_ret (pe_ix (ix_B hu) (pv 0) (pv 1) (fun _ _ => rfl)))) pss_nil)
    (pss_one (ps_ret (pe_op op_addA (pe_op op_mulA (pe_int) (pv 1)) (pe_int)))))
theorem ok_law_cell (T : Txt P w K mg) (FD : ∃ fd, FunD K "_law_cell" "_law_cell" (defArgs s_law_cell) (defBody s_law_cell) (defScope s_law_cell) [] [] (He.ga K "_law_cell") fd) (hm : mg "_law_cell" = some (.ref (He.ga K "_law_cell")))   : Fok P w K mg base CX0 1 "_law_cell" ["script", "k"] (sp_law_cell K) := by
  obtain ⟨fd, F⟩ := FD
  exact ⟨⟨fd, okf_law_cell T F  , F.bindsN fun _ _ _ _ _ _ us hl => match us, hl with | [_, _], _ => rfl⟩, hm, F.kp⟩
abbrev s_law_box : Stmt := top 27
theorem sc_law_box : FnScope ["cell"] ["cell"] (defScope s_law_box) := ⟨rfl, rfl, rfl, by decide +kernel, rfl, by decide +kernel, by decide +kernel⟩
theorem okf_law_box {fd : FuncData} (T : Txt P w K mg) (F : FunD K "_law_box" "_law_box" (defArgs s_law_box) (defBody s_law_box) (defScope s_law_box) [] [] (He.ga K "_law_box") fd)   : FnOk P w K mg base CX0 1 (He.ga K "_law_box") fd ["cell"] (sp_law_box K) := by
  have nd := sc_law_box.nd
  refine F.ok (k := 0) sc_law_box (len_law_box K) (fun cdv A outer s H vs Q E hr h => ⟨t_law_box K, PSs.nox ?_, pure_law_box K vs H Q E h⟩)
  have hu : (A.deeper (envOfC "_law_box" (defScope s_law_box) s.heap.objs.size (He.ga K "_law_box") cdv)).units + 64 < cLine := by
    have h1 := hr.un
    omega
  skip
  exact (pss_one (ps_ret (pe_lst (pa_cons (pe_callB (call_maxA rfl) (by rfl) T.b_max (by decide +kernel) (pa_cons (pe_int) (pa_cons (pe_op op_subA (pv 0) (pe_op op_powA (pe_int) (pe_int))) pa_nil))) (pa_cons (pe_op op_modA (pv 0) (pe_int)) (pa_cons (pe_int) pa_nil))))))
theorem ok_law_box (T : Txt P w K mg) (FD : ∃ fd, FunD K "_law_box" "_law_box" (defArgs s_law_box) (defBody s_law_box) (defScope s_law_box) [] [] (He.ga K "_law_box") fd) (hm : mg "_law_box" = some (.ref (He.ga K "_law_box")))   : Fok P w K mg base CX0 1 "_law_box" ["cell"] (sp_law_box K) := by
  obtain ⟨fd, F⟩ := FD
  exact ⟨⟨fd, okf_law_box T F  , F.bindsN fun _ _ _ _ _ _ us hl => match us, hl with | [_], _ => rfl⟩, hm, F.kp⟩
abbrev s_law_take : Stmt := top 28
theorem sc_law_take : FnScope ["box", "many", "digit", "number"] ["box", "many"] (defScope s_law_take) := ⟨rfl, rfl, rfl, by decide +kernel, rfl, by decide +kernel, by decide +kernel⟩
theorem okf_law_take {fd : FuncData} (T : Txt P w K mg) (F : FunD K "_law_take" "_law_take" (defArgs s_law_take) (defBody s_law_take) (defScope s_law_take) [] [] (He.ga K "_law_take") fd)   : FnOk P w K mg base CX0 1 (He.ga K "_law_take") fd ["box", "many"] (sp_law_take K) := by
  have nd := sc_law_take.nd
  refine F.ok (k := 0) sc_law_take (len_law_take K) (fun cdv A outer s H vs Q E hr h => ⟨t_law_take K, PSs.nox ?_, pure_law_take K vs H Q E h⟩)
  have hu : (A.deeper (envOfC "_law_take" (defScope s_law_take) s.heap.objs.size (He.ga K "_law_take") cdv)).units + 64 < cLine := by
    have h1 := hr.un
    omega
  skip
  exact (pss_cons (ps_if (pt_cmpR op_gtA (pe_ix (ix_B hu) (pv 0) (pe_int) (fun _ _ => rfl)) (pe_int) (nomark _)) (pss_cons (ps_set (i := 2) nd (by rfl) (Or.inl rfl) (pe_op op_modA (pe_ix (ix_B hu) (pv 0) (pe_int) (fun _ _ => rfl)) (pv 1)))
    (pss_cons (ps_asg (pe_op op_divA (pe_ix (ix_B hu) (pv 0) (pe_int) (fun _ _ => rfl)) (pv 1)) (pg_sub (pv 0) (pe_int) (set_B hu)))
    (pss_one (ps_ret (pv 2))))) pss_nil)
    (pss_cons (ps_asg (pe_op op_addA (pe_ix (ix_B hu) (pv 0) (pe_int) (fun _ _ => rfl)) (pe_int)) (pg_sub (pv 0) (pe_int) (set_B hu)))
    (pss_cons (ps_set (i := 3) nd (by rfl) (Or.inl rfl) (pe_op op_modA (pe_op op_powA (pe_op op_addA (pe_op op_addA (pe_ix (ix_B hu) (pv 0) (pe_int) (fun _ _ => rfl)) (pe_op op_mulA (pe_int) (pe_ix (ix_B hu) (pv 0) (pe_int) (fun _ _ => rfl)))) (pe_int)) (pe_int)) (pe_int)))
    (pss_cons (ps_set (i := 3) nd (by rfl) (Or.inl rfl) (pe_op op_modA (pe_op op_powA (pe_op op_addA (pv 3) (pe_op op_mulA (pe_int) (pe_ix (ix_B hu) (pv 0) (pe_int) (fun _ _ => rfl)))) (pe_int)) (pe_int)))
    (pss_one (ps_ret (pe_op op_modA (pe_op op_divA (pv 3) (pe_int)) (pv 1))))))))
theorem ok_law_take (T : Txt P w K mg) (FD : ∃ fd, FunD K "_law_take" "_law_take" (defArgs s_law_take) (defBody s_law_take) (defScope s_law_take) [] [] (He.ga K "_law_take") fd) (hm : mg "_law_take" = some (.ref (He.ga K "_law_take")))   : Fok P w K mg base CX0 1 "_law_take" ["box", "many"] (sp_law_take K) := by
  obtain ⟨fd, F⟩ := FD
  exact ⟨⟨fd, okf_law_take T F  , F.bindsN fun _ _ _ _ _ _ us hl => match us, hl with | [_, _], _ => rfl⟩, hm, F.kp⟩
abbrev s_law_mixed : Stmt := top 29
theorem sc_law_mixed : FnScope ["box", "some", "left", "k"] ["box", "some"] (defScope s_law_mixed) := ⟨rfl, rfl, rfl, by decide +kernel, rfl, by decide +kernel, by decide +kernel⟩
theorem okf_law_mixed {fd : FuncData} (T : Txt P w K mg) (F : FunD K "_law_mixed" "_law_mixed" (defArgs s_law_mixed) (defBody s_law_mixed) (defScope s_law_mixed) [] [] (He.ga K "_law_mixed") fd) (F_law_take : Fok P w K mg base CX0 1 "_law_take" ["box", "many"] (sp_law_take K))  : FnOk P w K mg base CX0 2 (He.ga K "_law_mixed") fd ["box", "some"] (sp_law_mixed K) := by
  have nd := sc_law_mixed.nd
  refine F.ok (k := 1) sc_law_mixed (len_law_mixed K) (fun cdv A outer s H vs Q E hr h => ⟨t_law_mixed K, PSs.nox ?_, pure_law_mixed K vs H Q E h⟩)
  have hu : (A.deeper (envOfC "_law_mixed" (defScope s_law_mixed) s.heap.objs.size (He.ga K "_law_mixed") cdv)).units + 64 < cLine := by
    have h1 := hr.un
    omega
  skip
  exact (pss_cons (ps_set (i := 2) nd (by rfl) (Or.inr rfl) (pe_callTy call_listA (by rfl) T.b_list (by decide +kernel) (pa_cons (pv 1) pa_nil)))
    (pss_one (ps_ret (pe_lc (own := [("k", 3)]) rfl nd (pi_range1 (by rfl) T.b_range (pa_cons (pe_callB call_lenB (by rfl) T.b_len (by decide +kernel) (pa_cons (pv 1) pa_nil)) pa_nil)) (blkOk_by (own := [("k", 3)]) (N := ["box", "some", "left", "k"]) (sc := defScope s_law_mixed) (by decide +kernel)) (fun _ _ _ _ _ => (pg_name (i := 3) nd (by rfl) (by first | exact Or.inl rfl | exact Or.inr rfl))) (fun _ _ _ _ _ => pts_nil) (fun _ _ _ _ _ => (pe_bmW PySem.F.plainAttrs_list PySem.F.slot_list_pop PySem.F.type_list_pop mt_popA (pv 2) (pa_cons (pe_callF F_law_take (hr.mono (by decide)) (by rfl) pass0 (pa_cons (pv 0) (pa_cons (pe_callB call_lenB (by rfl) T.b_len (by decide +kernel) (pa_cons (pv 2) pa_nil)) pa_nil))) pa_nil)))))))
theorem ok_law_mixed (T : Txt P w K mg) (FD : ∃ fd, FunD K "_law_mixed" "_law_mixed" (defArgs s_law_mixed) (defBody s_law_mixed) (defScope s_law_mixed) [] [] (He.ga K "_law_mixed") fd) (hm : mg "_law_mixed" = some (.ref (He.ga K "_law_mixed"))) (F_law_take : Fok P w K mg base CX0 1 "_law_take" ["box", "many"] (sp_law_take K))  : Fok P w K mg base CX0 2 "_law_mixed" ["box", "some"] (sp_law_mixed K) := by
  obtain ⟨fd, F⟩ := FD
  exact ⟨⟨fd, okf_law_mixed T F F_law_take , F.bindsN fun _ _ _ _ _ _ us hl => match us, hl with | [_, _], _ => rfl⟩, hm, F.kp⟩
abbrev s_law_names : Stmt := top 30
theorem sc_law_names : FnScope ["box", "many", "letters", "words", "stem", "first", "step", "way", "found", "k", "sign", "name"] ["box", "many"] (defScope s_law_names) := ⟨rfl, rfl, rfl, by decide +kernel, rfl, by decide +kernel, by decide +kernel⟩
theorem okf_law_names {fd : FuncData} (T : Txt P w K mg) (F : FunD K "_law_names" "_law_names" (defArgs s_law_names) (defBody s_law_names) (defScope s_law_names) [] [] (He.ga K "_law_names") fd) (F_law_take : Fok P w K mg base CX0 1 "_law_take" ["box", "many"] (sp_law_take K)) (F_law_mixed : Fok P w K mg base CX0 2 "_law_mixed" ["box", "some"] (sp_law_mixed K))  : FnOk P w K mg base CX0 3 (He.ga K "_law_names") fd ["box", "many"] (sp_law_names K) := by
  have nd := sc_law_names.nd
  refine F.ok (k := 2) sc_law_names (len_law_names K) (fun cdv A outer s H vs Q E hr h => ⟨t_law_names K, PSs.nox ?_, pure_law_names K vs H Q E h⟩)
  have hu : (A.deeper (envOfC "_law_names" (defScope s_law_names) s.heap.objs.size (He.ga K "_law_names") cdv)).units + 64 < cLine := by
    have h1 := hr.un
    omega
  skip
  exact (pss_cons (ps_set (i := 2) nd (by rfl) (Or.inl rfl) (pe_str))
    (pss_cons (ps_if (pt_cmpR (op_eqA hu) (pe_callF F_law_take (hr.mono (by decide)) (by rfl) pass0 (pa_cons (pv 0) (pa_cons (pe_int) pa_nil))) (pe_int) (nomark _)) (pss_cons (ps_set (i := 3) nd (by rfl) (Or.inl rfl) (pe_lst (pa_cons (pe_str) (pa_cons (pe_str) (pa_cons (pe_str) (pa_cons (pe_str) (pa_cons (pe_str) (pa_cons (pe_str) (pa_cons (pe_str) (pa_cons (pe_str) (pa_cons (pe_str) (pa_cons (pe_str) (pa_cons (pe_str) (pa_cons (pe_str) (pa_cons (pe_str) pa_nil)))))))))))))))
    (pss_one (ps_ret (pe_slice sl_A (pe_callF F_law_mixed (hr.mono (by decide)) (by rfl) pass0 (pa_cons (pv 0) (pa_cons (pv 3) pa_nil))) po_none (po_some (pv 1)))))) pss_nil)
    (pss_cons (ps_set (i := 4) nd (by rfl) (Or.inl rfl) (pe_ix (ix_B hu) (pe_lst (pa_cons (pe_str) (pa_cons (pe_str) (pa_cons (pe_str) (pa_cons (pe_str) (pa_cons (pe_str) (pa_cons (pe_str) pa_nil))))))) (pe_callF F_law_take (hr.mono (by decide)) (by rfl) pass0 (pa_cons (pv 0) (pa_cons (pe_int) pa_nil))) (fun _ _ => rfl)))
    (pss_cons (ps_par3 (by rfl) nd rfl rfl rfl (by decide) (by decide) (by decide) rfl rfl rfl (pa_cons (pe_callF F_law_take (hr.mono (by decide)) (by rfl) pass0 (pa_cons (pv 0) (pa_cons (pe_int) pa_nil))) (pa_cons (pe_ix (ix_B hu) (pe_lst (pa_cons (pe_int) (pa_cons (pe_int) (pa_cons (pe_int) (pa_cons (pe_int) (pa_cons (pe_int) (pa_cons (pe_int) pa_nil))))))) (pe_callF F_law_take (hr.mono (by decide)) (by rfl) pass0 (pa_cons (pv 0) (pa_cons (pe_int) pa_nil))) (fun _ _ => rfl)) (pa_cons (pe_callF F_law_take (hr.mono (by decide)) (by rfl) pass0 (pa_cons (pv 0) (pa_cons (pe_int) pa_nil))) pa_nil))) (by rfl))
    (pss_cons (ps_set (i := 8) nd (by rfl) (Or.inl rfl) (pe_lst pa_nil))
    (pss_cons (ps_for PassesOwn.never rfl (pi_range1 (by rfl) T.b_range (pa_cons (pv 1) pa_nil)) (pg_name (i := 9) nd (by rfl) (by first | exact Or.inl rfl | exact Or.inr rfl)) (pss_cons (ps_set (i := 10) nd (by rfl) (Or.inl rfl) (pe_ix (ix_B hu) (pv 2) (pe_op op_modA (pe_op op_addA (pv 5) (pe_op op_mulA (pv 6) (pv 9))) (pe_int)) (fun _ _ => rfl)))
    (pss_cons (ps_set (i := 11) nd (by rfl) (Or.inl rfl) (pe_ix (ix_B hu) (pe_lst (pa_cons (pe_op op_addA (pv 4) (pv 10)) (pa_cons (pe_op op_addA (pv 10) (pv 4)) (pa_cons (pv 10) pa_nil)))) (pe_ifExp (pt_cmpR op_gtA (pv 9) (pe_int) (nomark _)) (pv 7) (pe_int)) (fun _ _ => rfl)))
    (pss_one (ps_expr (pe_bmW PySem.F.plainAttrs_list PySem.F.slot_list_append PySem.F.type_list_append mt_append (pv 8) (pa_cons (pe_ifExp (pt_cmpR (op_eqA hu) (pv 11) (pe_str) (nomark _)) (pe_str) (pv 11)) pa_nil)))))))
    (pss_one (ps_ret (pv 8)))))))))
theorem ok_law_names (T : Txt P w K mg) (FD : ∃ fd, FunD K "_law_names" "_law_names" (defArgs s_law_names) (defBody s_law_names) (defScope s_law_names) [] [] (He.ga K "_law_names") fd) (hm : mg "_law_names" = some (.ref (He.ga K "_law_names"))) (F_law_take : Fok P w K mg base CX0 1 "_law_take" ["box", "many"] (sp_law_take K)) (F_law_mixed : Fok P w K mg base CX0 2 "_law_mixed" ["box", "some"] (sp_law_mixed K))  : Fok P w K mg base CX0 3 "_law_names" ["box", "many"] (sp_law_names K) := by
  obtain ⟨fd, F⟩ := FD
  exact ⟨⟨fd, okf_law_names T F F_law_take F_law_mixed , F.bindsN fun _ _ _ _ _ _ us hl => match us, hl with | [_, _], _ => rfl⟩, hm, F.kp⟩
abbrev s_law_kinds : Stmt := top 31
theorem sc_law_kinds : FnScope [] [] (defScope s_law_kinds) := ⟨rfl, rfl, rfl, by decide +kernel, rfl, by decide +kernel, by decide +kernel⟩
theorem okf_law_kinds {fd : FuncData} (T : Txt P w K mg) (F : FunD K "_law_kinds" "_law_kinds" (defArgs s_law_kinds) (defBody s_law_kinds) (defScope s_law_kinds) [] [] (He.ga K "_law_kinds") fd)   : FnOk P w K mg base CX0 1 (He.ga K "_law_kinds") fd [] (sp_law_kinds K) := by
  have nd := sc_law_kinds.nd
  refine F.ok (k := 0) sc_law_kinds (len_law_kinds K) (fun cdv A outer s H vs Q E hr h => ⟨t_law_kinds K, PSs.nox ?_, pure_law_kinds K vs H Q E h⟩)
  have hu : (A.deeper (envOfC "_law_kinds" (defScope s_law_kinds) s.heap.objs.size (He.ga K "_law_kinds") cdv)).units + 64 < cLine := by
    have h1 := hr.un
    omega
  skip
  exact (pss_one (ps_ret (pe_lst (pa_cons (pe_str) (pa_cons (pe_str) (pa_cons (pe_str) (pa_cons (pe_str) (pa_cons (pe_str) (pa_cons (pe_str) (pa_cons (pe_str) (pa_cons (pe_str) pa_nil)))))))))))
theorem ok_law_kinds (T : Txt P w K mg) (FD : ∃ fd, FunD K "_law_kinds" "_law_kinds" (defArgs s_law_kinds) (defBody s_law_kinds) (defScope s_law_kinds) [] [] (He.ga K "_law_kinds") fd) (hm : mg "_law_kinds" = some (.ref (He.ga K "_law_kinds")))   : Fok P w K mg base CX0 1 "_law_kinds" [] (sp_law_kinds K) := by
  obtain ⟨fd, F⟩ := FD
  exact ⟨⟨fd, okf_law_kinds T F  , F.bindsN fun _ _ _ _ _ _ us hl => match us, hl with | [], _ => rfl⟩, hm, F.kp⟩
theorem okkG_law_kinds_0_ (T : Txt P w K mg) (FD : ∃ fd, FunD K "_law_kinds" "_law_kinds" (defArgs s_law_kinds) (defBody s_law_kinds) (defScope s_law_kinds) [] [] (He.ga K "_law_kinds") fd) (hm : mg "_law_kinds" = some (.ref (He.ga K "_law_kinds")))   : FokK P w K mg base CX0 1 "_law_kinds" [] (sp_law_kinds K) 0 [] [] := by
  obtain ⟨fd, F⟩ := FD
  exact ⟨⟨fd, okf_law_kinds T F  , kbinds F fun _ _ _ _ _ _ us ws h1 h2 => match us, ws, h1, h2 with | [], [], _, _ => rfl⟩, hm, F.kp⟩
abbrev s_law_is_name : Stmt := top 32
theorem sc_law_is_name : FnScope ["value", "sign"] ["value"] (defScope s_law_is_name) := ⟨rfl, rfl, rfl, by decide +kernel, rfl, by decide +kernel, by decide +kernel⟩
theorem okf_law_is_name {fd : FuncData} (T : Txt P w K mg) (F : FunD K "_law_is_name" "_law_is_name" (defArgs s_law_is_name) (defBody s_law_is_name) (defScope s_law_is_name) [] [] (He.ga K "_law_is_name") fd)   : FnOk P w K mg base CX0 1 (He.ga K "_law_is_name") fd ["value"] (sp_law_is_name K) := by
  have nd := sc_law_is_name.nd
  refine F.ok (k := 0) sc_law_is_name (len_law_is_name K) (fun cdv A outer s H vs Q E hr h => ⟨t_law_is_name K, PSs.nox ?_, pure_law_is_name K vs H Q E h⟩)
  have hu : (A.deeper (envOfC "_law_is_name" (defScope s_law_is_name) s.heap.objs.size (He.ga K "_law_is_name") cdv)).units + 64 < cLine := by
    have h1 := hr.un
    omega
  skip
  exact (pss_cons (ps_if (PW.pt (pw_or (pt_not (pt_val (pe_callB call_isi (by rfl) T.b_isinstance (by decide +kernel) (pa_cons (pv 0) (pa_cons (pe_bltn (by rfl) T.b_str (by decide +kernel) rfl) pa_nil))))) (pw_or (pt_cmpR (op_eqA hu) (pv 0) (pe_str) (nomark _)) (pw_or (pt_cmpR op_ltA (pe_callB call_lenB (by rfl) T.b_len (by decide +kernel) (pa_cons (pv 0) pa_nil)) (pe_int) (nomark _)) (pw_or1 (pt_cmpR op_gtA (pe_callB call_lenB (by rfl) T.b_len (by decide +kernel) (pa_cons (pv 0) pa_nil)) (pe_int) (nomark _))))))) (pss_one (ps_ret (pe_bl))) pss_nil)
    (pss_one (ps_ret (pe_cmpR (op_eqA hu) (pe_lc (own := [("sign", 1)]) rfl nd (pi_seq (pv 0)) (blkOk_by (own := [("sign", 1)]) (N := ["value", "sign"]) (sc := defScope s_law_is_name) (by decide +kernel)) (fun _ _ _ _ _ => (pg_name (i := 1) nd (by rfl) (by first | exact Or.inl rfl | exact Or.inr rfl))) (fun _ _ _ _ _ => (pts_one (pt_cmpR (op_ninB hu) (pv 1) (pe_str) (by rfl)))) (fun _ _ _ _ _ => (pv 1))) (pe_lst pa_nil) (nomark _)))))
theorem ok_law_is_name (T : Txt P w K mg) (FD : ∃ fd, FunD K "_law_is_name" "_law_is_name" (defArgs s_law_is_name) (defBody s_law_is_name) (defScope s_law_is_name) [] [] (He.ga K "_law_is_name") fd) (hm : mg "_law_is_name" = some (.ref (He.ga K "_law_is_name")))   : Fok P w K mg base CX0 1 "_law_is_name" ["value"] (sp_law_is_name K) := by
  obtain ⟨fd, F⟩ := FD
  exact ⟨⟨fd, okf_law_is_name T F  , F.bindsN fun _ _ _ _ _ _ us hl => match us, hl with | [_], _ => rfl⟩, hm, F.kp⟩
abbrev s_law_is_step : Stmt := top 33
theorem sc_law_is_step : FnScope ["value", "kind", "askers", "changes", "at", "where", "word", "item"] ["value", "kind"] (defScope s_law_is_step) := ⟨rfl, rfl, rfl, by decide +kernel, rfl, by decide +kernel, by decide +kernel⟩
theorem okf_law_is_step {fd : FuncData} (T : Txt P w K mg) (F : FunD K "_law_is_step" "_law_is_step" (defArgs s_law_is_step) (defBody s_law_is_step) (defScope s_law_is_step) [] [] (He.ga K "_law_is_step") fd) (F_law_is_name : Fok P w K mg base CX0 1 "_law_is_name" ["value"] (sp_law_is_name K)) (G_law_kinds_0_ : FokK P w K mg base CX0 1 "_law_kinds" [] (sp_law_kinds K) 0 [] []) : FnOk P w K mg base CX0 2 (He.ga K "_law_is_step") fd ["value", "kind"] (sp_law_is_step K) := by
  have nd := sc_law_is_step.nd
  refine F.ok (k := 1) sc_law_is_step (len_law_is_step K) (fun cdv A outer s H vs Q E hr h => ⟨t_law_is_step K, PSs.nox ?_, pure_law_is_step K vs H Q E h⟩)
  have hu : (A.deeper (envOfC "_law_is_step" (defScope s_law_is_step) s.heap.objs.size (He.ga K "_law_is_step") cdv)).units + 64 < cLine := by
    have h1 := hr.un
    omega
  skip
  exact (pss_cons (ps_par (by rfl) nd rfl rfl (by decide) rfl rfl (pa_cons (pe_lst (pa_cons (pe_str) (pa_cons (pe_str) (pa_cons (pe_str) pa_nil)))) (pa_cons (pe_lst (pa_cons (pe_str) (pa_cons (pe_str) (pa_cons (pe_str) (pa_cons (pe_str) pa_nil))))) pa_nil)) (by rfl))
    (pss_cons (ps_if (PW.pt (pw_or (pt_not (pt_val (pe_callB call_isi (by rfl) T.b_isinstance (by decide +kernel) (pa_cons (pv 0) (pa_cons (pe_bltn (by rfl) T.b_tuple (by decide +kernel) rfl) pa_nil))))) (pw_or (pt_cmpR (op_eqA hu) (pv 0) (pe_tup pa_nil) (nomark _)) (pw_or1 (pt_cmpR (op_neA hu) (pe_lc (own := [("item", 7)]) rfl nd (pi_seq (pv 0)) (blkOk_by (own := [("item", 7)]) (N := ["value", "kind", "askers", "changes", "at", "where", "word", "item"]) (sc := defScope s_law_is_step) (by decide +kernel)) (fun _ _ _ _ _ => (pg_name (i := 7) nd (by rfl) (by first | exact Or.inl rfl | exact Or.inr rfl))) (fun _ _ _ _ _ => (pts_one (pt_not (pt_val (pe_callB call_isi (by rfl) T.b_isinstance (by decide +kernel) (pa_cons (pv 7) (pa_cons (pe_bltn (by rfl) T.b_str (by decide +kernel) rfl) pa_nil))))))) (fun _ _ _ _ _ => (pv 7))) (pe_lst pa_nil) (nomark _)))))) (pss_one (ps_ret (pe_bl))) pss_nil)
    (pss_cons (ps_if (pt_cmpR (op_eqA hu) (pe_ix (ix_B hu) (pv 0) (pe_int) (fun _ _ => rfl)) (pe_str) (nomark _)) (pss_cons (ps_if (PW.pt (pw_or (pt_cmpR (op_neA hu) (pe_callB call_lenB (by rfl) T.b_len (by decide +kernel) (pa_cons (pv 0) pa_nil)) (pe_int) (nomark _)) (pw_or1 (pt_not (pt_val (pe_callF F_law_is_name (hr.mono (by decide)) (by rfl) pass0 (pa_cons (pe_ix (ix_B hu) (pv 0) (pe_int) (fun _ _ => rfl)) pa_nil))))))) (pss_one (ps_ret (pe_bl))) pss_nil)
    (pss_cons (ps_set (i := 4) nd (by rfl) (Or.inl rfl) (pe_disp (pps_cons (pe_str) (pe_op op_addA (pv 2) (pv 3)) (pps_cons (pe_str) (pe_op op_addA (pv 2) (pe_lst (pa_cons (pe_str) pa_nil))) (pps_cons (pe_str) (pe_slice sl_A (pv 3) (po_some (pe_int)) po_none) (pps_cons (pe_str) (pv 3) pps_nil)))) (by rfl) (by rfl) (fun z => by cases z) (by decide)))
    (pss_cons (ps_asg (pe_lst (pa_cons (pe_str) (pa_cons (pe_str) (pa_cons (pe_str) pa_nil)))) (pg_sub (pv 4) (pe_str) (set_B hu)))
    (pss_one (ps_ret (pe_cmpR (op_inB hu) (pv 1) (pe_bmW PySem.F.plainAttrs_dict PySem.F.slot_dict_get PySem.F.type_dict_get (mt_dget hu) (pv 4) (pa_cons (pe_ix (ix_B hu) (pv 0) (pe_int) (fun _ _ => rfl)) (pa_cons (pe_lst pa_nil) pa_nil))) (by rfl))))))) pss_nil)
    (pss_cons (ps_if (pt_cmpR (op_eqA hu) (pe_ix (ix_B hu) (pv 0) (pe_int) (fun _ _ => rfl)) (pe_str) (nomark _)) (pss_one (ps_ret ((pe_and (pe_cmpR (op_eqA hu) (pv 1) (pe_str) (nomark _)) (pe_one (pe_cmpR (op_inB hu) (pe_slice sl_A (pv 0) (po_some (pe_int)) po_none) (pe_lst (pa_cons (pe_tup (pa_cons (pe_str) pa_nil)) (pa_cons (pe_tup (pa_cons (pe_str) pa_nil)) pa_nil))) (by rfl))))))) pss_nil)
    (pss_cons (ps_if (pt_cmpR (op_neA hu) (pe_callB call_lenB (by rfl) T.b_len (by decide +kernel) (pa_cons (pv 0) pa_nil)) (pe_int) (nomark _)) (pss_one (ps_ret (pe_bl))) pss_nil)
    (pss_cons (ps_set (i := 5) nd (by rfl) (Or.inl rfl) (pe_disp (pps_cons (pe_str) (pv 2) (pps_cons (pe_str) (pv 2) (pps_cons (pe_str) (pe_lst (pa_cons (pe_str) pa_nil)) (pps_cons (pe_str) (pe_lst (pa_cons (pe_str) pa_nil)) (pps_cons (pe_str) (pe_callP0 G_law_kinds_0_ (hr.mono (by decide)) (by rfl) passAt0 pk_nil) pps_nil))))) (by rfl) (by rfl) (fun z => by cases z) (by decide)))
    (pss_cons (ps_for PassesOwn.never rfl (pi_seq (pe_lst (pa_cons (pe_str) (pa_cons (pe_str) (pa_cons (pe_str) pa_nil))))) (pg_name (i := 6) nd (by rfl) (by first | exact Or.inl rfl | exact Or.inr rfl)) (pss_one (ps_asg (pe_lst (pa_cons (pe_str) (pa_cons (pe_str) pa_nil))) (pg_sub (pv 5) (pv 6) (set_B hu)))))
    (pss_cons (ps_for PassesOwn.never rfl (pi_seq (pe_lst (pa_cons (pe_str) (pa_cons (pe_str) pa_nil)))) (pg_name (i := 6) nd (by rfl) (by first | exact Or.inl rfl | exact Or.inr rfl)) (pss_one (ps_asg (pe_lst (pa_cons (pe_str) pa_nil)) (pg_sub (pv 5) (pv 6) (set_B hu)))))
    (pss_cons (ps_for PassesOwn.never rfl (pi_seq (pe_lst (pa_cons (pe_str) (pa_cons (pe_str) (pa_cons (pe_str) pa_nil))))) (pg_name (i := 6) nd (by rfl) (by first | exact Or.inl rfl | exact Or.inr rfl)) (pss_one (ps_asg (pv 3) (pg_sub (pv 5) (pv 6) (set_B hu)))))
    (pss_cons (ps_asg (pe_lst (pa_cons (pe_str) (pa_cons (pe_str) pa_nil))) (pg_sub (pv 5) (pe_str) (set_B hu)))
    (pss_one (ps_ret (pe_cmpR (op_inB hu) (pv 1) (pe_bmW PySem.F.plainAttrs_dict PySem.F.slot_dict_get PySem.F.type_dict_get (mt_dget hu) (pv 5) (pa_cons (pe_ix (ix_B hu) (pv 0) (pe_int) (fun _ _ => rfl)) (pa_cons (pe_lst pa_nil) pa_nil))) (by rfl))))))))))))))
theorem ok_law_is_step (T : Txt P w K mg) (FD : ∃ fd, FunD K "_law_is_step" "_law_is_step" (defArgs s_law_is_step) (defBody s_law_is_step) (defScope s_law_is_step) [] [] (He.ga K "_law_is_step") fd) (hm : mg "_law_is_step" = some (.ref (He.ga K "_law_is_step"))) (F_law_is_name : Fok P w K mg base CX0 1 "_law_is_name" ["value"] (sp_law_is_name K)) (G_law_kinds_0_ : FokK P w K mg base CX0 1 "_law_kinds" [] (sp_law_kinds K) 0 [] []) : Fok P w K mg base CX0 2 "_law_is_step" ["value", "kind"] (sp_law_is_step K) := by
  obtain ⟨fd, F⟩ := FD
  exact ⟨⟨fd, okf_law_is_step T F F_law_is_name G_law_kinds_0_, F.bindsN fun _ _ _ _ _ _ us hl => match us, hl with | [_, _], _ => rfl⟩, hm, F.kp⟩
abbrev s_law_count : Stmt := top 34
theorem sc_law_count : FnScope ["words", "some", "word"] ["words", "some"] (defScope s_law_count) := ⟨rfl, rfl, rfl, by decide +kernel, rfl, by decide +kernel, by decide +kernel⟩
theorem okf_law_count {fd : FuncData} (T : Txt P w K mg) (F : FunD K "_law_count" "_law_count" (defArgs s_law_count) (defBody s_law_count) (defScope s_law_count) [] [] (He.ga K "_law_count") fd)   : FnOk P w K mg base CX0 1 (He.ga K "_law_count") fd ["words", "some"] (sp_law_count K) := by
  have nd := sc_law_count.nd
  refine F.ok (k := 0) sc_law_count (len_law_count K) (fun cdv A outer s H vs Q E hr h => ⟨t_law_count K, PSs.nox ?_, pure_law_count K vs H Q E h⟩)
  have hu : (A.deeper (envOfC "_law_count" (defScope s_law_count) s.heap.objs.size (He.ga K "_law_count") cdv)).units + 64 < cLine := by
    have h1 := hr.un
    omega
  skip
  exact (pss_one (ps_ret (pe_callB call_lenB (by rfl) T.b_len (by decide +kernel) (pa_cons (pe_lc (own := [("word", 2)]) rfl nd (pi_seq (pv 0)) (blkOk_by (own := [("word", 2)]) (N := ["words", "some", "word"]) (sc := defScope s_law_count) (by decide +kernel)) (fun _ _ _ _ _ => (pg_name (i := 2) nd (by rfl) (by first | exact Or.inl rfl | exact Or.inr rfl))) (fun _ _ _ _ _ => (pts_one (pt_cmpR (op_inB hu) (pv 2) (pv 1) (by rfl)))) (fun _ _ _ _ _ => (pv 2))) pa_nil))))
theorem ok_law_count (T : Txt P w K mg) (FD : ∃ fd, FunD K "_law_count" "_law_count" (defArgs s_law_count) (defBody s_law_count) (defScope s_law_count) [] [] (He.ga K "_law_count") fd) (hm : mg "_law_count" = some (.ref (He.ga K "_law_count")))   : Fok P w K mg base CX0 1 "_law_count" ["words", "some"] (sp_law_count K) := by
  obtain ⟨fd, F⟩ := FD
  exact ⟨⟨fd, okf_law_count T F  , F.bindsN fun _ _ _ _ _ _ us hl => match us, hl with | [_, _], _ => rfl⟩, hm, F.kp⟩
abbrev s_law_order : Stmt := top 35
theorem sc_law_order : FnScope ["words", "first", "later", "ends", "at"] ["words", "first", "later"] (defScope s_law_order) := ⟨rfl, rfl, rfl, by decide +kernel, rfl, by decide +kernel, by decide +kernel⟩
theorem okf_law_order {fd : FuncData} (T : Txt P w K mg) (F : FunD K "_law_order" "_law_order" (defArgs s_law_order) (defBody s_law_order) (defScope s_law_order) [] [] (He.ga K "_law_order") fd)   : FnOk P w K mg base CX0 1 (He.ga K "_law_order") fd ["words", "first", "later"] (sp_law_order K) := by
  have nd := sc_law_order.nd
  refine F.ok (k := 0) sc_law_order (len_law_order K) (fun cdv A outer s H vs Q E hr h => ⟨t_law_order K, PSs.nox ?_, pure_law_order K vs H Q E h⟩)
  have hu : (A.deeper (envOfC "_law_order" (defScope s_law_order) s.heap.objs.size (He.ga K "_law_order") cdv)).units + 64 < cLine := by
    have h1 := hr.un
    omega
  skip
  exact (pss_cons (ps_set (i := 3) nd (by rfl) (Or.inr rfl) (pe_lc (own := [("at", 4)]) rfl nd (pi_range1 (by rfl) T.b_range (pa_cons (pe_callB call_lenB (by rfl) T.b_len (by decide +kernel) (pa_cons (pv 0) pa_nil)) pa_nil)) (blkOk_by (own := [("at", 4)]) (N := ["words", "first", "later", "ends", "at"]) (sc := defScope s_law_order) (by decide +kernel)) (fun _ _ _ _ _ => (pg_name (i := 4) nd (by rfl) (by first | exact Or.inl rfl | exact Or.inr rfl))) (fun _ _ _ _ _ => (pts_one (pt_cmpR (op_inB hu) (pe_ix (ix_B hu) (pv 0) (pv 4) (fun _ _ => rfl)) (pv 1) (by rfl)))) (fun _ _ _ _ _ => (pv 4))))
    (pss_one (ps_ret (pe_cmpR (op_eqA hu) (pe_lc (own := [("at", 4)]) rfl nd (pi_range1 (by rfl) T.b_range (pa_cons (pe_callB call_lenB (by rfl) T.b_len (by decide +kernel) (pa_cons (pv 0) pa_nil)) pa_nil)) (blkOk_by (own := [("at", 4)]) (N := ["words", "first", "later", "ends", "at"]) (sc := defScope s_law_order) (by decide +kernel)) (fun _ _ _ _ _ => (pg_name (i := 4) nd (by rfl) (by first | exact Or.inl rfl | exact Or.inr rfl))) (fun _ _ _ _ _ => (pts_one (PW.pt (pw_and (pt_cmpR (op_inB hu) (pe_ix (ix_B hu) (pv 0) (pv 4) (fun _ _ => rfl)) (pv 2) (by rfl)) (pw_and (pt_cmpR (op_neA hu) (pv 3) (pe_lst pa_nil) (nomark _)) (pw_and1 (pt_cmpR op_ltA (pv 4) (pe_callB (call_maxA rfl) (by rfl) T.b_max (by decide +kernel) (pa_cons (pv 3) pa_nil)) (nomark _)))))))) (fun _ _ _ _ _ => (pv 4))) (pe_lst pa_nil) (nomark _)))))
theorem ok_law_order (T : Txt P w K mg) (FD : ∃ fd, FunD K "_law_order" "_law_order" (defArgs s_law_order) (defBody s_law_order) (defScope s_law_order) [] [] (He.ga K "_law_order") fd) (hm : mg "_law_order" = some (.ref (He.ga K "_law_order")))   : Fok P w K mg base CX0 1 "_law_order" ["words", "first", "later"] (sp_law_order K) := by
  obtain ⟨fd, F⟩ := FD
  exact ⟨⟨fd, okf_law_order T F  , F.bindsN fun _ _ _ _ _ _ us hl => match us, hl with | [_, _, _], _ => rfl⟩, hm, F.kp⟩
abbrev s_law_is_program : Stmt := top 36
theorem sc_law_is_program : FnScope ["value", "kind", "words", "last", "deeds", "scans", "step", "at"] ["value", "kind"] (defScope s_law_is_program) := ⟨rfl, rfl, rfl, by decide +kernel, rfl, by decide +kernel, by decide +kernel⟩
theorem okf_law_is_program {fd : FuncData} (T : Txt P w K mg) (F : FunD K "_law_is_program" "_law_is_program" (defArgs s_law_is_program) (defBody s_law_is_program) (defScope s_law_is_program) [] [] (He.ga K "_law_is_program") fd) (F_law_is_step : Fok P w K mg base CX0 2 "_law_is_step" ["value", "kind"] (sp_law_is_step K)) (F_law_count : Fok P w K mg base CX0 1 "_law_count" ["words", "some"] (sp_law_count K)) (F_law_order : Fok P w K mg base CX0 1 "_law_order" ["words", "first", "later"] (sp_law_order K)) (G_law_kinds_0_ : FokK P w K mg base CX0 1 "_law_kinds" [] (sp_law_kinds K) 0 [] []) : FnOk P w K mg base CX0 3 (He.ga K "_law_is_program") fd ["value", "kind"] (sp_law_is_program K) := by
  have nd := sc_law_is_program.nd
  refine F.ok (k := 2) sc_law_is_program (len_law_is_program K) (fun cdv A outer s H vs Q E hr h => ⟨t_law_is_program K, PSs.nox ?_, pure_law_is_program K vs H Q E h⟩)
  have hu : (A.deeper (envOfC "_law_is_program" (defScope s_law_is_program) s.heap.objs.size (He.ga K "_law_is_program") cdv)).units + 64 < cLine := by
    have h1 := hr.un
    omega
  skip
  exact (pss_cons (ps_if (PW.pt (pw_or (pt_not (pt_val (pe_callB call_isi (by rfl) T.b_isinstance (by decide +kernel) (pa_cons (pv 0) (pa_cons (pe_bltn (by rfl) T.b_list (by decide +kernel) rfl) pa_nil))))) (pw_or (pt_cmpR op_ltA (pe_callB call_lenB (by rfl) T.b_len (by decide +kernel) (pa_cons (pv 0) pa_nil)) (pe_int) (nomark _)) (pw_or1 (pt_cmpR op_gtA (pe_callB call_lenB (by rfl) T.b_len (by decide +kernel) (pa_cons (pv 0) pa_nil)) (pe_int) (nomark _)))))) (pss_one (ps_ret (pe_bl))) pss_nil)
    (pss_cons (ps_if (pt_cmpR (op_neA hu) (pe_lc (own := [("step", 6)]) rfl nd (pi_seq (pv 0)) (blkOk_by (own := [("step", 6)]) (N := ["value", "kind", "words", "last", "deeds", "scans", "step", "at"]) (sc := defScope s_law_is_program) (by decide +kernel)) (fun _ _ _ _ _ => (pg_name (i := 6) nd (by rfl) (by first | exact Or.inl rfl | exact Or.inr rfl))) (fun _ _ _ _ _ => (pts_one (pt_not (pt_val (pe_callF F_law_is_step (hr.mono (by decide)) (by rfl) pass0 (pa_cons (pv 6) (pa_cons (pv 1) pa_nil))))))) (fun _ _ _ _ _ => (pv 6))) (pe_lst pa_nil) (nomark _)) (pss_one (ps_ret (pe_bl))) pss_nil)
    (pss_cons (ps_setLc (own := [("step", 6)]) (i := 2) rfl nd rfl rfl (sw_true rfl rfl rfl (by decide +kernel)) (pi_seq (pv 0)) (blkOk_by (own := [("step", 6)]) (N := ["value", "kind", "words", "last", "deeds", "scans", "step", "at"]) (sc := defScope s_law_is_program) (by decide +kernel)) (fun _ _ _ _ _ => (pg_name (i := 6) nd (by rfl) (by first | exact Or.inl rfl | exact Or.inr rfl))) (fun _ _ _ _ _ => pts_nil) (fun _ _ _ _ _ => (pe_ifExp (pt_cmpR (op_eqA hu) (pe_slice sl_A (pv 6) po_none (po_some (pe_int))) (pe_tup (pa_cons (pe_str) (pa_cons (pe_str) pa_nil))) (nomark _)) (pe_str) (pe_ix (ix_B hu) (pv 6) (pe_int) (fun _ _ => rfl)))))
    (pss_cons (ps_set (i := 3) nd (by rfl) (Or.inl rfl) (pe_ifExp (pt_cmpR (op_inB hu) (pv 1) (pe_slice sl_A (pe_callP0 G_law_kinds_0_ (hr.mono (by decide)) (by rfl) passAt0 pk_nil) po_none (po_some (pe_int))) (by rfl)) (pe_lst (pa_cons (pe_str) pa_nil)) (pe_lst (pa_cons (pe_str) (pa_cons (pe_str) pa_nil)))))
    (pss_cons (ps_if (PW.pt (pw_or (pt_cmpR (op_ninB hu) (pe_ix (ix_B hu) (pv 2) (pe_un un_neg (pe_int)) (fun _ _ => rfl)) (pv 3) (by rfl)) (pw_or1 (pt_cmpR op_gtA (pe_callF F_law_count (hr.mono (by decide)) (by rfl) pass0 (pa_cons (pe_slice sl_A (pv 2) po_none (po_some (pe_un un_neg (pe_int)))) (pa_cons (pe_lst (pa_cons (pe_str) (pa_cons (pe_str) pa_nil))) pa_nil))) (pe_int) (nomark _))))) (pss_one (ps_ret (pe_bl))) pss_nil)
    (pss_cons (ps_set (i := 4) nd (by rfl) (Or.inl rfl) (pe_lst (pa_cons (pe_str) (pa_cons (pe_str) (pa_cons (pe_str) (pa_cons (pe_str) pa_nil))))))
    (pss_cons (ps_if (pt_cmpR (op_inB hu) (pv 1) (pe_slice sl_A (pe_callP0 G_law_kinds_0_ (hr.mono (by decide)) (by rfl) passAt0 pk_nil) po_none (po_some (pe_int))) (by rfl)) (pss_cons (ps_if (PW.pt (pw_or (pt_cmpR (op_neA hu) (pe_callF F_law_count (hr.mono (by decide)) (by rfl) pass0 (pa_cons (pv 2) (pa_cons (pv 4) pa_nil))) (pe_int) (nomark _)) (pw_or (pt_cmpR op_gtA (pe_callF F_law_count (hr.mono (by decide)) (by rfl) pass0 (pa_cons (pv 2) (pa_cons (pe_lst (pa_cons (pe_str) pa_nil)) pa_nil))) (pe_int) (nomark _)) (pw_or1 (pt_cmpR op_gtA (pe_callF F_law_count (hr.mono (by decide)) (by rfl) pass0 (pa_cons (pv 2) (pa_cons (pe_lst (pa_cons (pe_str) pa_nil)) pa_nil))) (pe_int) (nomark _)))))) (pss_one (ps_ret (pe_bl))) pss_nil)
    (pss_cons (ps_if (pt_not (pt_val (pe_callF F_law_order (hr.mono (by decide)) (by rfl) pass0 (pa_cons (pv 2) (pa_cons (pe_lst (pa_cons (pe_str) (pa_cons (pe_str) (pa_cons (pe_str) (pa_cons (pe_str) pa_nil))))) (pa_cons (pv 4) pa_nil)))))) (pss_one (ps_ret (pe_bl))) pss_nil)
    (pss_cons (ps_if (pt_cmpR (op_eqA hu) (pv 1) (pe_str) (nomark _)) (pss_one (ps_ret (pe_bl))) pss_nil)
    (pss_cons (ps_if (PW.pt (pw_or (pt_cmpR (op_neA hu) (pe_callF F_law_count (hr.mono (by decide)) (by rfl) pass0 (pa_cons (pv 2) (pa_cons (pe_lst (pa_cons (pe_str) pa_nil)) pa_nil))) (pe_int) (nomark _)) (pw_or1 (PW.pt (pw_and (pt_cmpR (op_eqA hu) (pv 1) (pe_str) (nomark _)) (pw_and1 (pt_cmpR (op_neA hu) (pe_callF F_law_count (hr.mono (by decide)) (by rfl) pass0 (pa_cons (pv 2) (pa_cons (pe_lst (pa_cons (pe_str) pa_nil)) pa_nil))) (pe_int) (nomark _)))))))) (pss_one (ps_ret (pe_bl))) pss_nil)
    (pss_one (ps_ret (pe_callF F_law_order (hr.mono (by decide)) (by rfl) pass0 (pa_cons (pv 2) (pa_cons (pe_lst (pa_cons (pe_str) pa_nil)) (pa_cons (pe_op op_addA (pe_lst (pa_cons (pe_str) (pa_cons (pe_str) (pa_cons (pe_str) pa_nil)))) (pv 4)) pa_nil)))))))))) pss_nil)
    (pss_cons (ps_if (PW.pt (pw_or (pt_cmpR (op_neA hu) (pe_callF F_law_count (hr.mono (by decide)) (by rfl) pass0 (pa_cons (pv 2) (pa_cons (pe_lst (pa_cons (pe_str) (pa_cons (pe_str) pa_nil))) pa_nil))) (pe_int) (nomark _)) (pw_or1 (pt_not (pt_val (pe_callF F_law_order (hr.mono (by decide)) (by rfl) pass0 (pa_cons (pv 2) (pa_cons (pe_lst (pa_cons (pe_str) (pa_cons (pe_str) pa_nil))) (pa_cons (pe_lst (pa_cons (pe_str) (pa_cons (pe_str) pa_nil))) pa_nil))))))))) (pss_one (ps_ret (pe_bl))) pss_nil)
    (pss_cons (ps_if (PW.pt (pw_or (pt_not (pt_val (pe_callF F_law_order (hr.mono (by decide)) (by rfl) pass0 (pa_cons (pv 2) (pa_cons (pe_lst (pa_cons (pe_str) (pa_cons (pe_str) pa_nil))) (pa_cons (pe_lst (pa_cons (pe_str) pa_nil)) pa_nil)))))) (pw_or1 (PW.pt (pw_and (pt_cmpR (op_inB hu) (pe_str) (pv 2) (by rfl)) (pw_and1 (pt_cmpR (op_inB hu) (pe_str) (pv 2) (by rfl)))))))) (pss_one (ps_ret (pe_bl))) pss_nil)
    (pss_cons (ps_if (PW.pt (pw_and (pt_cmpR (op_inB hu) (pv 1) (pe_lst (pa_cons (pe_str) (pa_cons (pe_str) pa_nil))) (by rfl)) (pw_and1 (pt_cmpR (op_neA hu) (pe_callF F_law_count (hr.mono (by decide)) (by rfl) pass0 (pa_cons (pv 2) (pa_cons (pe_lst (pa_cons (pe_str) pa_nil)) pa_nil))) (pe_int) (nomark _))))) (pss_one (ps_ret (pe_bl))) pss_nil)
    (pss_cons (ps_set (i := 5) nd (by rfl) (Or.inr rfl) (pe_lc (own := [("step", 6)]) rfl nd (pi_seq (pv 0)) (blkOk_by (own := [("step", 6)]) (N := ["value", "kind", "words", "last", "deeds", "scans", "step", "at"]) (sc := defScope s_law_is_program) (by decide +kernel)) (fun _ _ _ _ _ => (pg_name (i := 6) nd (by rfl) (by first | exact Or.inl rfl | exact Or.inr rfl))) (fun _ _ _ _ _ => (pts_one (pt_cmpR (op_eqA hu) (pe_ix (ix_B hu) (pv 6) (pe_int) (fun _ _ => rfl)) (pe_str) (nomark _)))) (fun _ _ _ _ _ => (pv 6))))
    (pss_one (ps_ret (pe_cmpR (op_eqA hu) (pe_lc (own := [("at", 7)]) rfl nd (pi_range1 (by rfl) T.b_range (pa_cons (pe_callB call_lenB (by rfl) T.b_len (by decide +kernel) (pa_cons (pv 5) pa_nil)) pa_nil)) (blkOk_by (own := [("at", 7)]) (N := ["value", "kind", "words", "last", "deeds", "scans", "step", "at"]) (sc := defScope s_law_is_program) (by decide +kernel)) (fun _ _ _ _ _ => (pg_name (i := 7) nd (by rfl) (by first | exact Or.inl rfl | exact Or.inr rfl))) (fun _ _ _ _ _ => (pts_one (pt_cmpR (op_inB hu) (pe_ix (ix_B hu) (pv 5) (pv 7) (fun _ _ => rfl)) (pe_slice sl_A (pv 5) po_none (po_some (pv 7))) (by rfl)))) (fun _ _ _ _ _ => (pv 7))) (pe_lst pa_nil) (nomark _)))))))))))))))
theorem ok_law_is_program (T : Txt P w K mg) (FD : ∃ fd, FunD K "_law_is_program" "_law_is_program" (defArgs s_law_is_program) (defBody s_law_is_program) (defScope s_law_is_program) [] [] (He.ga K "_law_is_program") fd) (hm : mg "_law_is_program" = some (.ref (He.ga K "_law_is_program"))) (F_law_is_step : Fok P w K mg base CX0 2 "_law_is_step" ["value", "kind"] (sp_law_is_step K)) (F_law_count : Fok P w K mg base CX0 1 "_law_count" ["words", "some"] (sp_law_count K)) (F_law_order : Fok P w K mg base CX0 1 "_law_order" ["words", "first", "later"] (sp_law_order K)) (G_law_kinds_0_ : FokK P w K mg base CX0 1 "_law_kinds" [] (sp_law_kinds K) 0 [] []) : Fok P w K mg base CX0 3 "_law_is_program" ["value", "kind"] (sp_law_is_program K) := by
  obtain ⟨fd, F⟩ := FD
  exact ⟨⟨fd, okf_law_is_program T F F_law_is_step F_law_count F_law_order G_law_kinds_0_, F.bindsN fun _ _ _ _ _ _ us hl => match us, hl with | [_, _], _ => rfl⟩, hm, F.kp⟩
abbrev s_law_drawn_step : Stmt := top 37
theorem sc_law_drawn_step : FnScope ["box", "modes", "plain", "where"] ["box", "modes"] (defScope s_law_drawn_step) := ⟨rfl, rfl, rfl, by decide +kernel, rfl, by decide +kernel, by decide +kernel⟩
theorem okf_law_drawn_step {fd : FuncData} (T : Txt P w K mg) (F : FunD K "_law_drawn_step" "_law_drawn_step" (defArgs s_law_drawn_step) (defBody s_law_drawn_step) (defScope s_law_drawn_step) [] [] (He.ga K "_law_drawn_step") fd) (F_law_take : Fok P w K mg base CX0 1 "_law_take" ["box", "many"] (sp_law_take K))  : FnOk P w K mg base CX0 2 (He.ga K "_law_drawn_step") fd ["box", "modes"] (sp_law_drawn_step K) := by
  have nd := sc_law_drawn_step.nd
  refine F.ok (k := 1) sc_law_drawn_step (len_law_drawn_step K) (fun cdv A outer s H vs Q E hr h => ⟨t_law_drawn_step K, PSs.nox ?_, pure_law_drawn_step K vs H Q E h⟩)
  have hu : (A.deeper (envOfC "_law_drawn_step" (defScope s_law_drawn_step) s.heap.objs.size (He.ga K "_law_drawn_step") cdv)).units + 64 < cLine := by
    have h1 := hr.un
    omega
  skip
  exact (pss_cons (ps_set (i := 2) nd (by rfl) (Or.inl rfl) (pe_lst (pa_cons (pe_str) (pa_cons (pe_str) (pa_cons (pe_str) (pa_cons (pe_str) (pa_cons (pe_str) (pa_cons (pe_str) (pa_cons (pe_str) pa_nil)))))))))
    (pss_cons (ps_set (i := 2) nd (by rfl) (Or.inl rfl) (pe_op op_addA (pv 2) (pe_lst (pa_cons (pe_str) (pa_cons (pe_str) (pa_cons (pe_str) (pa_cons (pe_str) (pa_cons (pe_str) (pa_cons (pe_str) pa_nil)))))))))
    (pss_cons (ps_if (pt_cmpR (op_eqA hu) (pe_callF F_law_take (hr.mono (by decide)) (by rfl) pass0 (pa_cons (pv 0) (pa_cons (pe_int) pa_nil))) (pe_int) (nomark _)) (pss_cons (ps_set (i := 3) nd (by rfl) (Or.inl rfl) (pe_ix (ix_B hu) (pe_lst (pa_cons (pe_str) (pa_cons (pe_str) (pa_cons (pe_str) (pa_cons (pe_str) (pa_cons (pe_str) pa_nil)))))) (pe_callF F_law_take (hr.mono (by decide)) (by rfl) pass0 (pa_cons (pv 0) (pa_cons (pe_int) pa_nil))) (fun _ _ => rfl)))
    (pss_one (ps_ret (pe_tup (pa_cons (pe_str) (pa_cons (pv 3) (pa_cons (pe_ix (ix_B hu) (pv 1) (pe_callF F_law_take (hr.mono (by decide)) (by rfl) pass0 (pa_cons (pv 0) (pa_cons (pe_callB call_lenB (by rfl) T.b_len (by decide +kernel) (pa_cons (pv 1) pa_nil)) pa_nil))) (fun _ _ => rfl)) pa_nil))))))) pss_nil)
    (pss_cons (ps_if (pt_cmpR (op_eqA hu) (pe_callF F_law_take (hr.mono (by decide)) (by rfl) pass0 (pa_cons (pv 0) (pa_cons (pe_int) pa_nil))) (pe_int) (nomark _)) (pss_one (ps_ret (pe_tup (pa_cons (pe_str) (pa_cons (pe_ix (ix_B hu) (pe_lst (pa_cons (pe_str) (pa_cons (pe_str) pa_nil))) (pe_callF F_law_take (hr.mono (by decide)) (by rfl) pass0 (pa_cons (pv 0) (pa_cons (pe_int) pa_nil))) (fun _ _ => rfl)) pa_nil))))) pss_nil)
    (pss_one (ps_ret (pe_tup (pa_cons (pe_ix (ix_B hu) (pv 2) (pe_callF F_law_take (hr.mono (by decide)) (by rfl) pass0 (pa_cons (pv 0) (pa_cons (pe_int) pa_nil))) (fun _ _ => rfl)) pa_nil))))))))
theorem ok_law_drawn_step (T : Txt P w K mg) (FD : ∃ fd, FunD K "_law_drawn_step" "_law_drawn_step" (defArgs s_law_drawn_step) (defBody s_law_drawn_step) (defScope s_law_drawn_step) [] [] (He.ga K "_law_drawn_step") fd) (hm : mg "_law_drawn_step" = some (.ref (He.ga K "_law_drawn_step"))) (F_law_take : Fok P w K mg base CX0 1 "_law_take" ["box", "many"] (sp_law_take K))  : Fok P w K mg base CX0 2 "_law_drawn_step" ["box", "modes"] (sp_law_drawn_step K) := by
  obtain ⟨fd, F⟩ := FD
  exact ⟨⟨fd, okf_law_drawn_step T F F_law_take , F.bindsN fun _ _ _ _ _ _ us hl => match us, hl with | [_, _], _ => rfl⟩, hm, F.kp⟩
abbrev s_law_base : Stmt := top 38
theorem sc_law_base : FnScope ["box", "kind", "deed", "last"] ["box", "kind"] (defScope s_law_base) := ⟨rfl, rfl, rfl, by decide +kernel, rfl, by decide +kernel, by decide +kernel⟩
theorem okf_law_base {fd : FuncData} (T : Txt P w K mg) (F : FunD K "_law_base" "_law_base" (defArgs s_law_base) (defBody s_law_base) (defScope s_law_base) [] [] (He.ga K "_law_base") fd) (F_law_take : Fok P w K mg base CX0 1 "_law_take" ["box", "many"] (sp_law_take K))  : FnOk P w K mg base CX0 2 (He.ga K "_law_base") fd ["box", "kind"] (sp_law_base K) := by
  have nd := sc_law_base.nd
  refine F.ok (k := 1) sc_law_base (len_law_base K) (fun cdv A outer s H vs Q E hr h => ⟨t_law_base K, PSs.nox ?_, pure_law_base K vs H Q E h⟩)
  have hu : (A.deeper (envOfC "_law_base" (defScope s_law_base) s.heap.objs.size (He.ga K "_law_base") cdv)).units + 64 < cLine := by
    have h1 := hr.un
    omega
  skip
  exact (pss_cons (ps_set (i := 2) nd (by rfl) (Or.inl rfl) (pe_ifExp (pt_cmpR (op_eqA hu) (pe_callF F_law_take (hr.mono (by decide)) (by rfl) pass0 (pa_cons (pv 0) (pa_cons (pe_int) pa_nil))) (pe_int) (nomark _)) (pe_tup (pa_cons (pe_str) pa_nil)) (pe_tup (pa_cons (pe_str) pa_nil))))
    (pss_cons (ps_set (i := 3) nd (by rfl) (Or.inl rfl) (pe_ix (ix_B hu) (pe_lst (pa_cons (pe_lst (pa_cons (pe_tup (pa_cons (pe_str) pa_nil)) pa_nil)) (pa_cons (pe_lst (pa_cons (pe_tup (pa_cons (pe_str) pa_nil)) (pa_cons (pe_tup (pa_cons (pe_str) pa_nil)) pa_nil))) (pa_cons (pe_lst (pa_cons (pe_tup (pa_cons (pe_str) pa_nil)) (pa_cons (pe_tup (pa_cons (pe_str) pa_nil)) (pa_cons (pe_tup (pa_cons (pe_str) pa_nil)) pa_nil)))) pa_nil)))) (pe_callF F_law_take (hr.mono (by decide)) (by rfl) pass0 (pa_cons (pv 0) (pa_cons (pe_int) pa_nil))) (fun _ _ => rfl)))
    (pss_cons (ps_if (pt_cmpR (op_inB hu) (pv 1) (pe_lst (pa_cons (pe_str) (pa_cons (pe_str) pa_nil))) (by rfl)) (pss_one (ps_ret (pe_op op_addA (pe_ifExp (pt_cmpR (op_eqA hu) (pv 1) (pe_str) (nomark _)) (pe_lst (pa_cons (pe_tup (pa_cons (pe_str) pa_nil)) pa_nil)) (pe_lst pa_nil)) (pe_lst (pa_cons (pv 2) (pa_cons (pe_tup (pa_cons (pe_str) pa_nil)) pa_nil)))))) pss_nil)
    (pss_cons (ps_if (pt_cmpR (op_eqA hu) (pv 1) (pe_str) (nomark _)) (pss_one (ps_ret (pe_lst (pa_cons (pe_tup (pa_cons (pe_str) pa_nil)) (pa_cons (pe_tup (pa_cons (pe_str) pa_nil)) (pa_cons (pe_tup (pa_cons (pe_str) pa_nil)) pa_nil)))))) pss_nil)
    (pss_cons (ps_if (pt_cmpR (op_eqA hu) (pv 1) (pe_str) (nomark _)) (pss_one (ps_ret (pe_op op_addA (pe_ix (ix_B hu) (pe_lst (pa_cons (pe_lst (pa_cons (pe_tup (pa_cons (pe_str) pa_nil)) (pa_cons (pe_tup (pa_cons (pe_str) pa_nil)) pa_nil))) (pa_cons (pe_lst (pa_cons (pe_tup (pa_cons (pe_str) pa_nil)) (pa_cons (pe_tup (pa_cons (pe_str) pa_nil)) pa_nil))) pa_nil))) (pe_callF F_law_take (hr.mono (by decide)) (by rfl) pass0 (pa_cons (pv 0) (pa_cons (pe_int) pa_nil))) (fun _ _ => rfl)) (pe_lst (pa_cons (pe_tup (pa_cons (pe_str) pa_nil)) (pa_cons (pe_tup (pa_cons (pe_str) pa_nil)) pa_nil)))))) pss_nil)
    (pss_one (ps_ret (pe_op op_addA (pe_ifExp (pt_cmpR (op_inB hu) (pv 1) (pe_lst (pa_cons (pe_str) (pa_cons (pe_str) pa_nil))) (by rfl)) (pe_lst (pa_cons (pe_tup (pa_cons (pe_str) pa_nil)) pa_nil)) (pe_lst pa_nil)) (pv 3)))))))))
theorem ok_law_base (T : Txt P w K mg) (FD : ∃ fd, FunD K "_law_base" "_law_base" (defArgs s_law_base) (defBody s_law_base) (defScope s_law_base) [] [] (He.ga K "_law_base") fd) (hm : mg "_law_base" = some (.ref (He.ga K "_law_base"))) (F_law_take : Fok P w K mg base CX0 1 "_law_take" ["box", "many"] (sp_law_take K))  : Fok P w K mg base CX0 2 "_law_base" ["box", "kind"] (sp_law_base K) := by
  obtain ⟨fd, F⟩ := FD
  exact ⟨⟨fd, okf_law_base T F F_law_take , F.bindsN fun _ _ _ _ _ _ us hl => match us, hl with | [_, _], _ => rfl⟩, hm, F.kp⟩
abbrev s_law_program : Stmt := top 39
theorem sc_law_program : FnScope ["box", "kind", "modes", "found", "turn", "step", "at", "more"] ["box", "kind", "modes"] (defScope s_law_program) := ⟨rfl, rfl, rfl, by decide +kernel, rfl, by decide +kernel, by decide +kernel⟩
theorem okf_law_program {fd : FuncData} (T : Txt P w K mg) (F : FunD K "_law_program" "_law_program" (defArgs s_law_program) (defBody s_law_program) (defScope s_law_program) [] [] (He.ga K "_law_program") fd) (F_law_base : Fok P w K mg base CX0 2 "_law_base" ["box", "kind"] (sp_law_base K)) (F_law_take : Fok P w K mg base CX0 1 "_law_take" ["box", "many"] (sp_law_take K)) (F_law_drawn_step : Fok P w K mg base CX0 2 "_law_drawn_step" ["box", "modes"] (sp_law_drawn_step K)) (F_law_is_program : Fok P w K mg base CX0 3 "_law_is_program" ["value", "kind"] (sp_law_is_program K))  : FnOk P w K mg base CX0 4 (He.ga K "_law_program") fd ["box", "kind", "modes"] (sp_law_program K) := by
  have nd := sc_law_program.nd
  refine F.ok (k := 3) sc_law_program (len_law_program K) (fun cdv A outer s H vs Q E hr h => ⟨t_law_program K, PSs.nox ?_, pure_law_program K vs H Q E h⟩)
  have hu : (A.deeper (envOfC "_law_program" (defScope s_law_program) s.heap.objs.size (He.ga K "_law_program") cdv)).units + 64 < cLine := by
    have h1 := hr.un
    omega
  skip
  exact (pss_cons (ps_set (i := 3) nd (by rfl) (Or.inl rfl) (pe_callF F_law_base (hr.mono (by decide)) (by rfl) pass0 (pa_cons (pv 0) (pa_cons (pv 1) pa_nil))))
    (pss_cons (ps_for PassesOwn.never rfl (pi_range1 (by rfl) T.b_range (pa_cons (pe_callF F_law_take (hr.mono (by decide)) (by rfl) pass0 (pa_cons (pv 0) (pa_cons (pe_int) pa_nil))) pa_nil)) (pg_name (i := 4) nd (by rfl) (by first | exact Or.inl rfl | exact Or.inr rfl)) (pss_cons (ps_set (i := 5) nd (by rfl) (Or.inl rfl) (pe_callF F_law_drawn_step (hr.mono (by decide)) (by rfl) pass0 (pa_cons (pv 0) (pa_cons (pv 2) pa_nil))))
    (pss_cons (ps_set (i := 6) nd (by rfl) (Or.inl rfl) (pe_callF F_law_take (hr.mono (by decide)) (by rfl) pass0 (pa_cons (pv 0) (pa_cons (pe_callB call_lenB (by rfl) T.b_len (by decide +kernel) (pa_cons (pv 3) pa_nil)) pa_nil))))
    (pss_cons (ps_set (i := 7) nd (by rfl) (Or.inl rfl) (pe_op op_addA (pe_op op_addA (pe_slice sl_A (pv 3) po_none (po_some (pv 6))) (pe_lst (pa_cons (pv 5) pa_nil))) (pe_slice sl_A (pv 3) (po_some (pv 6)) po_none)))
    (pss_one (ps_if (pt_val (pe_callF F_law_is_program (hr.mono (by decide)) (by rfl) pass0 (pa_cons (pv 7) (pa_cons (pv 1) pa_nil)))) (pss_one (ps_set (i := 3) nd (by rfl) (Or.inl rfl) (pv 7))) pss_nil))))))
    (pss_one (ps_ret (pv 3)))))
theorem ok_law_program (T : Txt P w K mg) (FD : ∃ fd, FunD K "_law_program" "_law_program" (defArgs s_law_program) (defBody s_law_program) (defScope s_law_program) [] [] (He.ga K "_law_program") fd) (hm : mg "_law_program" = some (.ref (He.ga K "_law_program"))) (F_law_base : Fok P w K mg base CX0 2 "_law_base" ["box", "kind"] (sp_law_base K)) (F_law_take : Fok P w K mg base CX0 1 "_law_take" ["box", "many"] (sp_law_take K)) (F_law_drawn_step : Fok P w K mg base CX0 2 "_law_drawn_step" ["box", "modes"] (sp_law_drawn_step K)) (F_law_is_program : Fok P w K mg base CX0 3 "_law_is_program" ["value", "kind"] (sp_law_is_program K))  : Fok P w K mg base CX0 4 "_law_program" ["box", "kind", "modes"] (sp_law_program K) := by
  obtain ⟨fd, F⟩ := FD
  exact ⟨⟨fd, okf_law_program T F F_law_base F_law_take F_law_drawn_step F_law_is_program , F.bindsN fun _ _ _ _ _ _ us hl => match us, hl with | [_, _, _], _ => rfl⟩, hm, F.kp⟩
abbrev s_law_bent : Stmt := top 40
theorem sc_law_bent : FnScope ["box", "program", "modes", "found", "at", "other", "way"] ["box", "program", "modes"] (defScope s_law_bent) := ⟨rfl, rfl, rfl, by decide +kernel, rfl, by decide +kernel, by decide +kernel⟩
theorem okf_law_bent {fd : FuncData} (T : Txt P w K mg) (F : FunD K "_law_bent" "_law_bent" (defArgs s_law_bent) (defBody s_law_bent) (defScope s_law_bent) [] [] (He.ga K "_law_bent") fd) (F_law_take : Fok P w K mg base CX0 1 "_law_take" ["box", "many"] (sp_law_take K)) (F_law_drawn_step : Fok P w K mg base CX0 2 "_law_drawn_step" ["box", "modes"] (sp_law_drawn_step K))  : FnOk P w K mg base CX0 3 (He.ga K "_law_bent") fd ["box", "program", "modes"] (sp_law_bent K) := by
  have nd := sc_law_bent.nd
  refine F.ok (k := 2) sc_law_bent (len_law_bent K) (fun cdv A outer s H vs Q E hr h => ⟨t_law_bent K, PSs.nox ?_, pure_law_bent K vs H Q E h⟩)
  have hu : (A.deeper (envOfC "_law_bent" (defScope s_law_bent) s.heap.objs.size (He.ga K "_law_bent") cdv)).units + 64 < cLine := by
    have h1 := hr.un
    omega
  skip
  exact (pss_cons (ps_set (i := 3) nd (by rfl) (Or.inl rfl) (pe_callTy call_listA (by rfl) T.b_list (by decide +kernel) (pa_cons (pv 1) pa_nil)))
    (pss_cons (ps_par (by rfl) nd rfl rfl (by decide) rfl rfl (pa_cons (pe_callF F_law_take (hr.mono (by decide)) (by rfl) pass0 (pa_cons (pv 0) (pa_cons (pe_callB call_lenB (by rfl) T.b_len (by decide +kernel) (pa_cons (pv 3) pa_nil)) pa_nil))) (pa_cons (pe_callF F_law_take (hr.mono (by decide)) (by rfl) pass0 (pa_cons (pv 0) (pa_cons (pe_callB call_lenB (by rfl) T.b_len (by decide +kernel) (pa_cons (pv 3) pa_nil)) pa_nil))) pa_nil)) (by rfl))
    (pss_cons (ps_set (i := 6) nd (by rfl) (Or.inl rfl) (pe_callF F_law_take (hr.mono (by decide)) (by rfl) pass0 (pa_cons (pv 0) (pa_cons (pe_int) pa_nil))))
    (pss_cut (ps_if (pt_cmpR (op_eqA hu) (pv 6) (pe_int) (nomark _)) (pss_one (ps_expr (pe_bmW PySem.F.plainAttrs_list PySem.F.slot_list_pop PySem.F.type_list_pop mt_popA (pv 3) (pa_cons (pv 4) pa_nil)))) pss_nil)
    (pss_cut (ps_if (pt_cmpR (op_eqA hu) (pv 6) (pe_int) (nomark _)) (pss_one (ps_expr (pe_bmW PySem.F.plainAttrs_list PySem.F.slot_list_insert PySem.F.type_list_insert mt_insertA (pv 3) (pa_cons (pv 4) (pa_cons (pe_ix (ix_B hu) (pv 3) (pv 5) (fun _ _ => rfl)) pa_nil))))) pss_nil)
    (pss_cut (ps_if (pt_cmpR (op_eqA hu) (pv 6) (pe_int) (nomark _)) (pss_one (ps_asg (pe_tup (pa_cons (pe_ix (ix_B hu) (pv 3) (pv 5) (fun _ _ => rfl)) (pa_cons (pe_ix (ix_B hu) (pv 3) (pv 4) (fun _ _ => rfl)) pa_nil))) (pg_tup (by rfl) (pgs_cons (pg_sub (pv 3) (pv 4) (set_B hu)) (pgs_cons (pg_sub (pv 3) (pv 5) (set_B hu)) pgs_nil))))) pss_nil)
    (pss_cut (ps_if (pt_cmpR (op_eqA hu) (pv 6) (pe_int) (nomark _)) (pss_one (ps_expr (pe_bmW PySem.F.plainAttrs_list PySem.F.slot_list_insert PySem.F.type_list_insert mt_insertA (pv 3) (pa_cons (pe_callF F_law_take (hr.mono (by decide)) (by rfl) pass0 (pa_cons (pv 0) (pa_cons (pe_op op_addA (pe_callB call_lenB (by rfl) T.b_len (by decide +kernel) (pa_cons (pv 3) pa_nil)) (pe_int)) pa_nil))) (pa_cons (pe_callF F_law_drawn_step (hr.mono (by decide)) (by rfl) pass0 (pa_cons (pv 0) (pa_cons (pv 2) pa_nil))) pa_nil))))) pss_nil)
    (pss_cut (ps_if (pt_cmpR (op_eqA hu) (pv 6) (pe_int) (nomark _)) (pss_one (ps_asg (pe_ix (ix_B hu) (pe_lst (pa_cons (pe_non) (pa_cons (pe_int) (pa_cons (pe_str) (pa_cons (pe_tup (pa_cons (pe_str) (pa_cons (pe_str) pa_nil))) (pa_cons (pe_tup pa_nil) (pa_cons (pe_lst (pa_cons (pe_tup (pa_cons (pe_str) pa_nil)) pa_nil)) pa_nil))))))) (pe_callF F_law_take (hr.mono (by decide)) (by rfl) pass0 (pa_cons (pv 0) (pa_cons (pe_int) pa_nil))) (fun _ _ => rfl)) (pg_sub (pv 3) (pv 4) (set_B hu)))) pss_nil)
    (pss_cut (ps_if (pt_cmpR (op_eqA hu) (pv 6) (pe_int) (nomark _)) (pss_one (ps_set (i := 3) nd (by rfl) (Or.inl rfl) (pe_op op_addA (pe_op op_mulA (pe_slice sl_A (pv 3) po_none (po_some (pe_int))) (pe_ix (ix_B hu) (pe_lst (pa_cons (pe_int) (pa_cons (pe_int) (pa_cons (pe_int) pa_nil)))) (pe_callF F_law_take (hr.mono (by decide)) (by rfl) pass0 (pa_cons (pv 0) (pa_cons (pe_int) pa_nil))) (fun _ _ => rfl))) (pv 3)))) pss_nil)
    (pss_one (ps_ret (pv 3))))))))))))
theorem ok_law_bent (T : Txt P w K mg) (FD : ∃ fd, FunD K "_law_bent" "_law_bent" (defArgs s_law_bent) (defBody s_law_bent) (defScope s_law_bent) [] [] (He.ga K "_law_bent") fd) (hm : mg "_law_bent" = some (.ref (He.ga K "_law_bent"))) (F_law_take : Fok P w K mg base CX0 1 "_law_take" ["box", "many"] (sp_law_take K)) (F_law_drawn_step : Fok P w K mg base CX0 2 "_law_drawn_step" ["box", "modes"] (sp_law_drawn_step K))  : Fok P w K mg base CX0 3 "_law_bent" ["box", "program", "modes"] (sp_law_bent K) := by
  obtain ⟨fd, F⟩ := FD
  exact ⟨⟨fd, okf_law_bent T F F_law_take F_law_drawn_step , F.bindsN fun _ _ _ _ _ _ us hl => match us, hl with | [_, _, _], _ => rfl⟩, hm, F.kp⟩
abbrev s_law_told : Stmt := top 41
theorem sc_law_told : FnScope ["value", "kind", "e"] ["value", "kind"] (defScope s_law_told) := ⟨rfl, rfl, rfl, by decide +kernel, rfl, by decide +kernel, by decide +kernel⟩
theorem okf_law_told {fd : FuncData} (T : Txt P w K mg) (F : FunD K "_law_told" "_law_told" (defArgs s_law_told) (defBody s_law_told) (defScope s_law_told) [] [] (He.ga K "_law_told") fd) (F_is_program : Fok P w K mg base (L2.CX P w) 4 "is_program" ["value", "kind"] (sp_is_program K))  : FnOk P w K mg base CX0 5 (He.ga K "_law_told") fd ["value", "kind"] (sp_law_told K) := by
  have nd := sc_law_told.nd
  refine F.ok (k := 4) sc_law_told (len_law_told K) (fun cdv A outer s H vs Q E hr h => ⟨t_law_told K, PSs.nox ?_, pure_law_told K vs H Q E T.exm h⟩)
  have hu : (A.deeper (envOfC "_law_told" (defScope s_law_told) s.heap.objs.size (He.ga K "_law_told") cdv)).units + 64 < cLine := by
    have h1 := hr.un
    omega
  skip
  exact (pss_one (ps_try_mix (tb := fun W => (tRet (tLst (tCons (tC (.str "told")) (tCons (tCallS (sp_is_program K) (WE W) (tCons (tVar 0) (tCons (tVar 1) tNil))) tNil))))) (Wout := (fun _ _ _ _ => False)) (l := (.ref (He.ga K "NoProgram"), some 2, fun a cls d => (tRet (tLst (tCons (tC (.str "kind")) (tCons (tXf a cls d (He.ga K "NoProgram") "kind" (tVar 2)) tNil))))) :: ([])) rfl rfl takes_none5 (fun W pn xe tk po => (pss_one (ps_ret (pe_lst (pa_cons (pe_str) (pa_cons (pe_callG F_is_program (hr.mono (by decide)) (by rfl) tk (pa_cons (pv 0) (pa_cons (pv 1) pa_nil))) pa_nil)))))) (HdZ.as_ nd (by rfl) rfl ⟨by rfl, by decide, Or.inl T.g_NoProgram⟩ (fun a oe cls d pn hz hf => (pss_one (ps_ret (pe_lst (pa_cons (pe_str) (pa_cons (pe_xf T.xf_NoProgram T.na_NoProgram_kind hz hf (pv 2)) pa_nil)))))) HdZ.nil)))
theorem ok_law_told (T : Txt P w K mg) (FD : ∃ fd, FunD K "_law_told" "_law_told" (defArgs s_law_told) (defBody s_law_told) (defScope s_law_told) [] [] (He.ga K "_law_told") fd) (hm : mg "_law_told" = some (.ref (He.ga K "_law_told"))) (F_is_program : Fok P w K mg base (L2.CX P w) 4 "is_program" ["value", "kind"] (sp_is_program K))  : Fok P w K mg base CX0 5 "_law_told" ["value", "kind"] (sp_law_told K) := by
  obtain ⟨fd, F⟩ := FD
  exact ⟨⟨fd, okf_law_told T F F_is_program , F.bindsN fun _ _ _ _ _ _ us hl => match us, hl with | [_, _], _ => rfl⟩, hm, F.kp⟩
abbrev s_law : Stmt := top 42
theorem sc_law : FnScope ["script", "k", "box", "modes", "kind", "program", "turn", "bent", "other", "told", "odd"] ["script"] (defScope s_law) := ⟨rfl, rfl, rfl, by decide +kernel, rfl, by decide +kernel, by decide +kernel⟩
theorem okf_law {fd : FuncData} (T : Txt P w K mg) (F : FunD K "law" "law" (defArgs s_law) (defBody s_law) (defScope s_law) [] [] (He.ga K "law") fd) (F_law_box : Fok P w K mg base CX0 1 "_law_box" ["cell"] (sp_law_box K)) (F_law_cell : Fok P w K mg base CX0 1 "_law_cell" ["script", "k"] (sp_law_cell K)) (F_law_names : Fok P w K mg base CX0 3 "_law_names" ["box", "many"] (sp_law_names K)) (F_law_mixed : Fok P w K mg base CX0 2 "_law_mixed" ["box", "some"] (sp_law_mixed K)) (F_law_program : Fok P w K mg base CX0 4 "_law_program" ["box", "kind", "modes"] (sp_law_program K)) (F_is_program : Fok P w K mg base (L2.CX P w) 4 "is_program" ["value", "kind"] (sp_is_program K)) (F_law_is_program : Fok P w K mg base CX0 3 "_law_is_program" ["value", "kind"] (sp_law_is_program K)) (F_law_bent : Fok P w K mg base CX0 3 "_law_bent" ["box", "program", "modes"] (sp_law_bent K)) (F_law_take : Fok P w K mg base CX0 1 "_law_take" ["box", "many"] (sp_law_take K)) (F_law_told : Fok P w K mg base CX0 5 "_law_told" ["value", "kind"] (sp_law_told K)) (G_law_kinds_0_ : FokK P w K mg base CX0 1 "_law_kinds" [] (sp_law_kinds K) 0 [] []) : FnOk P w K mg base CX0 6 (He.ga K "law") fd ["script"] (sp_law K) := by
  have nd := sc_law.nd
  refine F.ok (k := 5) sc_law (len_law K) (fun cdv A outer s H vs Q E hr h => ⟨t_law K, PSs.nox ?_, pure_law K vs H Q E h⟩)
  have hu : (A.deeper (envOfC "law" (defScope s_law) s.heap.objs.size (He.ga K "law") cdv)).units + 64 < cLine := by
    have h1 := hr.un
    omega
  skip
  exact (pss_cons (ps_for PassesOwn.never rfl (pi_range1 (by rfl) T.b_range (pa_cons (pe_callB (call_maxA rfl) (by rfl) T.b_max (by decide +kernel) (pa_cons (pe_int) (pa_cons (pe_callB (call_minA rfl) (by rfl) T.b_min (by decide +kernel) (pa_cons (pe_int) (pa_cons (pe_callB call_lenB (by rfl) T.b_len (by decide +kernel) (pa_cons (pv 0) pa_nil)) pa_nil))) pa_nil))) pa_nil)) (pg_name (i := 1) nd (by rfl) (by first | exact Or.inl rfl | exact Or.inr rfl)) (pss_cons (ps_set (i := 2) nd (by rfl) (Or.inl rfl) (pe_callF F_law_box (hr.mono (by decide)) (by rfl) pass0 (pa_cons (pe_callF F_law_cell (hr.mono (by decide)) (by rfl) pass0 (pa_cons (pv 0) (pa_cons (pv 1) pa_nil))) pa_nil)))
    (pss_cons (ps_set (i := 3) nd (by rfl) (Or.inl rfl) (pe_callF F_law_names (hr.mono (by decide)) (by rfl) pass0 (pa_cons (pv 2) (pa_cons (pe_int) pa_nil))))
    (pss_one (ps_for PassesOwn.never rfl (pi_seq (pe_slice sl_A (pe_callF F_law_mixed (hr.mono (by decide)) (by rfl) pass0 (pa_cons (pv 2) (pa_cons (pe_callP0 G_law_kinds_0_ (hr.mono (by decide)) (by rfl) passAt0 pk_nil) pa_nil))) po_none (po_some (pe_int)))) (pg_name (i := 4) nd (by rfl) (by first | exact Or.inl rfl | exact Or.inr rfl)) (pss_cons (ps_set (i := 5) nd (by rfl) (Or.inl rfl) (pe_callF F_law_program (hr.mono (by decide)) (by rfl) pass0 (pa_cons (pv 2) (pa_cons (pv 4) (pa_cons (pv 3) pa_nil)))))
    (pss_cons (ps_if (PW.pt (pw_or (pt_not (pt_val (pe_callF F_is_program (hr.mono (by decide)) (by rfl) passL (pa_cons (pv 5) (pa_cons (pv 4) pa_nil))))) (pw_or1 (pt_not (pt_val (pe_callF F_law_is_program (hr.mono (by decide)) (by rfl) pass0 (pa_cons (pv 5) (pa_cons (pv 4) pa_nil)))))))) (pss_one (ps_ret (pe_bl))) pss_nil)
    (pss_cons (ps_for PassesOwn.never rfl (pi_range1 (by rfl) T.b_range (pa_cons (pe_int) pa_nil)) (pg_name (i := 6) nd (by rfl) (by first | exact Or.inl rfl | exact Or.inr rfl)) (pss_cons (ps_set (i := 7) nd (by rfl) (Or.inl rfl) (pe_callF F_law_bent (hr.mono (by decide)) (by rfl) pass0 (pa_cons (pv 2) (pa_cons (pv 5) (pa_cons (pv 3) pa_nil)))))
    (pss_cut (ps_if (PW.pt (pw_and (pt_cmpR (op_eqA hu) (pv 6) (pe_int) (nomark _)) (pw_and1 (pt_cmpR (op_neA hu) (pv 7) (pe_lst pa_nil) (nomark _))))) (pss_one (ps_set (i := 7) nd (by rfl) (Or.inl rfl) (pe_callF F_law_bent (hr.mono (by decide)) (by rfl) pass0 (pa_cons (pv 2) (pa_cons (pv 7) (pa_cons (pv 3) pa_nil)))))) pss_nil)
    (pss_one (ps_for PassesOwn.never rfl (pi_seq (pe_lst (pa_cons (pv 4) (pa_cons (pe_ix (ix_B hu) (pe_callP0 G_law_kinds_0_ (hr.mono (by decide)) (by rfl) passAt0 pk_nil) (pe_callF F_law_take (hr.mono (by decide)) (by rfl) pass0 (pa_cons (pv 2) (pa_cons (pe_int) pa_nil))) (fun _ _ => rfl)) pa_nil)))) (pg_name (i := 8) nd (by rfl) (by first | exact Or.inl rfl | exact Or.inr rfl)) (pss_cons (ps_set (i := 9) nd (by rfl) (Or.inl rfl) (pe_callF F_is_program (hr.mono (by decide)) (by rfl) passL (pa_cons (pv 7) (pa_cons (pv 8) pa_nil))))
    (pss_one (ps_if (PW.pt (pw_or (pt_not (pt_val (pe_callB call_isi (by rfl) T.b_isinstance (by decide +kernel) (pa_cons (pv 9) (pa_cons (pe_bltn (by rfl) T.b_bool (by decide +kernel) rfl) pa_nil))))) (pw_or1 (pt_cmpR (op_neA hu) (pv 9) (pe_callF F_law_is_program (hr.mono (by decide)) (by rfl) pass0 (pa_cons (pv 7) (pa_cons (pv 8) pa_nil))) (nomark _))))) (pss_one (ps_ret (pe_bl))) pss_nil))))))))
    (pss_cons (ps_set (i := 10) nd (by rfl) (Or.inl rfl) (pe_ix (ix_B hu) (pe_lst (pa_cons (pe_non) (pa_cons (pe_int) (pa_cons (pe_str) (pa_cons (pe_tup pa_nil) (pa_cons (pe_callTy call_tupA (by rfl) T.b_tuple (by decide +kernel) (pa_cons (pv 5) pa_nil)) (pa_cons (pe_dnewK) (pa_cons (pe_lst pa_nil) (pa_cons (pe_lst (pa_cons (pe_non) pa_nil)) pa_nil))))))))) (pe_callF F_law_take (hr.mono (by decide)) (by rfl) pass0 (pa_cons (pv 2) (pa_cons (pe_int) pa_nil))) (fun _ _ => rfl)))
    (pss_one (ps_if (PW.pt (pw_or (pt_val (pe_callF F_is_program (hr.mono (by decide)) (by rfl) passL (pa_cons (pv 10) (pa_cons (pv 4) pa_nil)))) (pw_or1 (pt_cmpR (op_neA hu) (pe_callF F_law_told (hr.mono (by decide)) (by rfl) pass0 (pa_cons (pv 10) (pa_cons (pe_str) pa_nil))) (pe_lst (pa_cons (pe_str) (pa_cons (pe_str) pa_nil))) (nomark _))))) (pss_one (ps_ret (pe_bl))) pss_nil)))))))))))
    (pss_one (ps_ret (pe_bl))))
theorem ok_law (T : Txt P w K mg) (FD : ∃ fd, FunD K "law" "law" (defArgs s_law) (defBody s_law) (defScope s_law) [] [] (He.ga K "law") fd) (hm : mg "law" = some (.ref (He.ga K "law"))) (F_law_box : Fok P w K mg base CX0 1 "_law_box" ["cell"] (sp_law_box K)) (F_law_cell : Fok P w K mg base CX0 1 "_law_cell" ["script", "k"] (sp_law_cell K)) (F_law_names : Fok P w K mg base CX0 3 "_law_names" ["box", "many"] (sp_law_names K)) (F_law_mixed : Fok P w K mg base CX0 2 "_law_mixed" ["box", "some"] (sp_law_mixed K)) (F_law_program : Fok P w K mg base CX0 4 "_law_program" ["box", "kind", "modes"] (sp_law_program K)) (F_is_program : Fok P w K mg base (L2.CX P w) 4 "is_program" ["value", "kind"] (sp_is_program K)) (F_law_is_program : Fok P w K mg base CX0 3 "_law_is_program" ["value", "kind"] (sp_law_is_program K)) (F_law_bent : Fok P w K mg base CX0 3 "_law_bent" ["box", "program", "modes"] (sp_law_bent K)) (F_law_take : Fok P w K mg base CX0 1 "_law_take" ["box", "many"] (sp_law_take K)) (F_law_told : Fok P w K mg base CX0 5 "_law_told" ["value", "kind"] (sp_law_told K)) (G_law_kinds_0_ : FokK P w K mg base CX0 1 "_law_kinds" [] (sp_law_kinds K) 0 [] []) : Fok P w K mg base CX0 6 "law" ["script"] (sp_law K) := by
  obtain ⟨fd, F⟩ := FD
  exact ⟨⟨fd, okf_law T F F_law_box F_law_cell F_law_names F_law_mixed F_law_program F_is_program F_law_is_program F_law_bent F_law_take F_law_told G_law_kinds_0_, F.bindsN fun _ _ _ _ _ _ us hl => match us, hl with | [_], _ => rfl⟩, hm, F.kp⟩
end
/-! ### the head's facts -/
def fa : List He.Fa := [.free "all", .free "any", .free "bool", .free "enumerate", .free "isinstance", .free "len", .free "list", .free "max", .free "min", .free "range", .free "str", .free "super", .free "tuple", .glo "CHANGES", .glo "CHECKS", .glo "DEEDS", .glo "KINDS", .str "LETTERS" "abcdefghijklmnopqrstuvwxyz", .glo "LOCKED", .int "MOST_LETTERS" 8, .int "MOST_STEPS" 12, .glo "NoProgram", .glo "PLAIN_STEPS", .str "TABLE" "table", .exm "NoProgram" "NoProgram" true, .glo "is_name", .glo "need_kind", .glo "has_step", .glo "words_of", .glo "ends_well", .glo "stand_ahead", .glo "asks_well", .glo "changes_well", .glo "has_program", .glo "is_program", .glo "_law_cell", .glo "_law_box", .glo "_law_take", .glo "_law_mixed", .glo "_law_names", .glo "_law_kinds", .glo "_law_is_name", .glo "_law_is_step", .glo "_law_count", .glo "_law_order", .glo "_law_is_program", .glo "_law_drawn_step", .glo "_law_base", .glo "_law_program", .glo "_law_bent", .glo "_law_told", .glo "law"]
def fn : List He.DefD := [⟨("is_name", none), "is_name", "is_name", defArgs s_is_name, defBody s_is_name, defScope s_is_name, [], []⟩, ⟨("need_kind", none), "need_kind", "need_kind", defArgs s_need_kind, defBody s_need_kind, defScope s_need_kind, [], []⟩, ⟨("has_step", none), "has_step", "has_step", defArgs s_has_step, defBody s_has_step, defScope s_has_step, [], []⟩, ⟨("words_of", none), "words_of", "words_of", defArgs s_words_of, defBody s_words_of, defScope s_words_of, [], []⟩, ⟨("ends_well", none), "ends_well", "ends_well", defArgs s_ends_well, defBody s_ends_well, defScope s_ends_well, [], []⟩, ⟨("stand_ahead", none), "stand_ahead", "stand_ahead", defArgs s_stand_ahead, defBody s_stand_ahead, defScope s_stand_ahead, [], []⟩, ⟨("asks_well", none), "asks_well", "asks_well", defArgs s_asks_well, defBody s_asks_well, defScope s_asks_well, [], []⟩, ⟨("changes_well", none), "changes_well", "changes_well", defArgs s_changes_well, defBody s_changes_well, defScope s_changes_well, [], []⟩, ⟨("has_program", none), "has_program", "has_program", defArgs s_has_program, defBody s_has_program, defScope s_has_program, [], []⟩, ⟨("is_program", none), "is_program", "is_program", defArgs s_is_program, defBody s_is_program, defScope s_is_program, [], []⟩, ⟨("_law_cell", none), "_law_cell", "_law_cell", defArgs s_law_cell, defBody s_law_cell, defScope s_law_cell, [], []⟩, ⟨("_law_box", none), "_law_box", "_law_box", defArgs s_law_box, defBody s_law_box, defScope s_law_box, [], []⟩, ⟨("_law_take", none), "_law_take", "_law_take", defArgs s_law_take, defBody s_law_take, defScope s_law_take, [], []⟩, ⟨("_law_mixed", none), "_law_mixed", "_law_mixed", defArgs s_law_mixed, defBody s_law_mixed, defScope s_law_mixed, [], []⟩, ⟨("_law_names", none), "_law_names", "_law_names", defArgs s_law_names, defBody s_law_names, defScope s_law_names, [], []⟩, ⟨("_law_kinds", none), "_law_kinds", "_law_kinds", defArgs s_law_kinds, defBody s_law_kinds, defScope s_law_kinds, [], []⟩, ⟨("_law_is_name", none), "_law_is_name", "_law_is_name", defArgs s_law_is_name, defBody s_law_is_name, defScope s_law_is_name, [], []⟩, ⟨("_law_is_step", none), "_law_is_step", "_law_is_step", defArgs s_law_is_step, defBody s_law_is_step, defScope s_law_is_step, [], []⟩, ⟨("_law_count", none), "_law_count", "_law_count", defArgs s_law_count, defBody s_law_count, defScope s_law_count, [], []⟩, ⟨("_law_order", none), "_law_order", "_law_order", defArgs s_law_order, defBody s_law_order, defScope s_law_order, [], []⟩, ⟨("_law_is_program", none), "_law_is_program", "_law_is_program", defArgs s_law_is_program, defBody s_law_is_program, defScope s_law_is_program, [], []⟩, ⟨("_law_drawn_step", none), "_law_drawn_step", "_law_drawn_step", defArgs s_law_drawn_step, defBody s_law_drawn_step, defScope s_law_drawn_step, [], []⟩, ⟨("_law_base", none), "_law_base", "_law_base", defArgs s_law_base, defBody s_law_base, defScope s_law_base, [], []⟩, ⟨("_law_program", none), "_law_program", "_law_program", defArgs s_law_program, defBody s_law_program, defScope s_law_program, [], []⟩, ⟨("_law_bent", none), "_law_bent", "_law_bent", defArgs s_law_bent, defBody s_law_bent, defScope s_law_bent, [], []⟩, ⟨("_law_told", none), "_law_told", "_law_told", defArgs s_law_told, defBody s_law_told, defScope s_law_told, [], []⟩, ⟨("law", none), "law", "law", defArgs s_law, defBody s_law, defScope s_law, [], []⟩]
def fs : List ((Str × Option Str) × FnS) := [(("NoProgram", some "__init__"), some ("__init__", "NoProgram.__init__", (PySem.Sxkind.iA ⟨6, 17, 6, 21⟩ ⟨6, 23, 6, 27⟩), FuncBody.stmts (PySem.Sxkind.iB "there is no program of this kind" ⟨7, 8, 7, 13⟩ ⟨7, 8, 7, 15⟩ ⟨7, 8, 7, 24⟩ ⟨7, 25, 7, 59⟩ ⟨7, 8, 7, 60⟩ ⟨7, 8, 7, 60⟩ ⟨8, 8, 8, 12⟩ ⟨8, 8, 8, 17⟩ ⟨8, 20, 8, 24⟩ ⟨8, 8, 8, 24⟩), PySem.Sxkind.iS, mainGlobals, [("__class__" : Str)], builtinsNs))]
def ts : List He.Tab := [(fun K => He.ga K "LOCKED", ["table", "part", "old", "new", "rest"]), (fun K => He.ga K "PLAIN_STEPS", ["look", "again", "border", "key", "put", "claim", "strike", "view", "read", "move", "switch", "wait", "close", "end"])]
def cu : List (PySem.W.Frag → Bool) := [fun K => Chkkind PySem.Challenge.pw_shiftparts_k22_programs_of_kinds K "NoProgram", fun K => xfB K (He.ga K "NoProgram"), fun K => eqB (PySem.W.findIn K (.ref (He.ga K "NoProgram")) "kind") (some none), fun K => tupK K (He.ga K "CHANGES") [.str "hang", .str "take", .str "split", .str "join"], fun K => tupK K (He.ga K "CHECKS") [.str "border", .str "key"], fun K => tupK K (He.ga K "DEEDS") [.str "put", .str "claim", .str "strike", .str "read"], fun K => tupK K (He.ga K "KINDS") [.str "put", .str "strike", .str "read", .str "direct", .str "hang", .str "take", .str "split", .str "join"], fun K => keysB K (He.ga K "LOCKED") ["table", "part", "old", "new", "rest"], fun K => eqB (PySem.W.nsIn K (He.ga K "LOCKED") "table") (some (some (.ref (kAt K (He.ga K "LOCKED") "table")))), fun K => tupK K (kAt K (He.ga K "LOCKED") "table") [.str "put", .str "strike", .str "read", .str "hang", .str "take", .str "split", .str "join"], fun K => eqB (PySem.W.nsIn K (He.ga K "LOCKED") "part") (some (some (.ref (kAt K (He.ga K "LOCKED") "part")))), fun K => tupK K (kAt K (He.ga K "LOCKED") "part") [.str "put", .str "strike", .str "read", .str "direct"], fun K => eqB (PySem.W.nsIn K (He.ga K "LOCKED") "old") (some (some (.ref (kAt K (He.ga K "LOCKED") "old")))), fun K => tupK K (kAt K (He.ga K "LOCKED") "old") [.str "take", .str "split", .str "join"], fun K => eqB (PySem.W.nsIn K (He.ga K "LOCKED") "new") (some (some (.ref (kAt K (He.ga K "LOCKED") "new")))), fun K => tupK K (kAt K (He.ga K "LOCKED") "new") [.str "hang", .str "split", .str "join"], fun K => eqB (PySem.W.nsIn K (He.ga K "LOCKED") "rest") (some (some (.ref (kAt K (He.ga K "LOCKED") "rest")))), fun K => tupK K (kAt K (He.ga K "LOCKED") "rest") [.str "hang", .str "take", .str "split", .str "join"], fun K => keysB K (He.ga K "PLAIN_STEPS") ["look", "again", "border", "key", "put", "claim", "strike", "view", "read", "move", "switch", "wait", "close", "end"], fun K => eqB (PySem.W.nsIn K (He.ga K "PLAIN_STEPS") "look") (some (some (.ref (kAt K (He.ga K "PLAIN_STEPS") "look")))), fun K => tupK K (kAt K (He.ga K "PLAIN_STEPS") "look") [.str "put", .str "strike", .str "read"], fun K => eqB (PySem.W.nsIn K (He.ga K "PLAIN_STEPS") "again") (some (some (.ref (kAt K (He.ga K "PLAIN_STEPS") "again")))), fun K => tupK K (kAt K (He.ga K "PLAIN_STEPS") "again") [.str "put", .str "strike", .str "read"], fun K => eqB (PySem.W.nsIn K (He.ga K "PLAIN_STEPS") "border") (some (some (.ref (kAt K (He.ga K "PLAIN_STEPS") "border")))), fun K => tupK K (kAt K (He.ga K "PLAIN_STEPS") "border") [.str "direct"], fun K => eqB (PySem.W.nsIn K (He.ga K "PLAIN_STEPS") "key") (some (some (.ref (kAt K (He.ga K "PLAIN_STEPS") "key")))), fun K => tupK K (kAt K (He.ga K "PLAIN_STEPS") "key") [.str "put", .str "direct"], fun K => eqB (PySem.W.nsIn K (He.ga K "PLAIN_STEPS") "put") (some (some (.ref (kAt K (He.ga K "PLAIN_STEPS") "put")))), fun K => tupK K (kAt K (He.ga K "PLAIN_STEPS") "put") [.str "put", .str "direct"], fun K => eqB (PySem.W.nsIn K (He.ga K "PLAIN_STEPS") "claim") (some (some (.ref (kAt K (He.ga K "PLAIN_STEPS") "claim")))), fun K => tupK K (kAt K (He.ga K "PLAIN_STEPS") "claim") [.str "put", .str "direct"], fun K => eqB (PySem.W.nsIn K (He.ga K "PLAIN_STEPS") "strike") (some (some (.ref (kAt K (He.ga K "PLAIN_STEPS") "strike")))), fun K => tupK K (kAt K (He.ga K "PLAIN_STEPS") "strike") [.str "strike"], fun K => eqB (PySem.W.nsIn K (He.ga K "PLAIN_STEPS") "view") (some (some (.ref (kAt K (He.ga K "PLAIN_STEPS") "view")))), fun K => tupK K (kAt K (He.ga K "PLAIN_STEPS") "view") [.str "read"], fun K => eqB (PySem.W.nsIn K (He.ga K "PLAIN_STEPS") "read") (some (some (.ref (kAt K (He.ga K "PLAIN_STEPS") "read")))), fun K => tupK K (kAt K (He.ga K "PLAIN_STEPS") "read") [.str "read"], fun K => eqB (PySem.W.nsIn K (He.ga K "PLAIN_STEPS") "move") (some (some (.ref (kAt K (He.ga K "PLAIN_STEPS") "move")))), fun K => tupK K (kAt K (He.ga K "PLAIN_STEPS") "move") [.str "split", .str "join"], fun K => eqB (PySem.W.nsIn K (He.ga K "PLAIN_STEPS") "switch") (some (some (.ref (kAt K (He.ga K "PLAIN_STEPS") "switch")))), fun K => tupK K (kAt K (He.ga K "PLAIN_STEPS") "switch") [.str "hang", .str "take", .str "split", .str "join"], fun K => eqB (PySem.W.nsIn K (He.ga K "PLAIN_STEPS") "wait") (some (some (.ref (kAt K (He.ga K "PLAIN_STEPS") "wait")))), fun K => tupK K (kAt K (He.ga K "PLAIN_STEPS") "wait") [.str "hang", .str "take", .str "split", .str "join"], fun K => eqB (PySem.W.nsIn K (He.ga K "PLAIN_STEPS") "close") (some (some (.ref (kAt K (He.ga K "PLAIN_STEPS") "close")))), fun K => tupK K (kAt K (He.ga K "PLAIN_STEPS") "close") [.str "hang", .str "take", .str "split", .str "join"], fun K => eqB (PySem.W.nsIn K (He.ga K "PLAIN_STEPS") "end") (some (some (.ref (kAt K (He.ga K "PLAIN_STEPS") "end")))), fun K => tupK K (kAt K (He.ga K "PLAIN_STEPS") "end") [.str "put", .str "strike", .str "read", .str "direct", .str "hang", .str "take", .str "split", .str "join"]]
theorem all_ok {P : Program} {w : World} {K : PySem.W.Frag} {h : Heap} {mg : Str → Option Value} {f : Addr} (hPf : P.main.file = PySem.Challenge.pw_shiftparts_k22_programs_of_kinds.main.file) (hPs : (P.main.scope.names.lookup ("super" : Str)).isSome = false) (X : K.In h) (G : h.Ns mainGlobals mg) (hfa : mg ("law" : Str) = some (.ref f)) (c : SaysX fa fn fs cu ts w K) :
    ∃ fd : FuncData, (∀ (s : Shared) (v : Value), BindsTo s fd ⟨[v], []⟩ [("script", v)]) ∧ ∀ base : Heap, K.In base → base.Ns mainGlobals mg → FnOk P w K mg base CX0 6 f fd ["script"] (sp_law K) := by
  have T : Txt P w K mg := ⟨(He.free_ok X G (c.fact 0 (f := .free "all") rfl)),
    (He.free_ok X G (c.fact 1 (f := .free "any") rfl)),
    (He.free_ok X G (c.fact 2 (f := .free "bool") rfl)),
    (He.free_ok X G (c.fact 3 (f := .free "enumerate") rfl)),
    (He.free_ok X G (c.fact 4 (f := .free "isinstance") rfl)),
    (He.free_ok X G (c.fact 5 (f := .free "len") rfl)),
    (He.free_ok X G (c.fact 6 (f := .free "list") rfl)),
    (He.free_ok X G (c.fact 7 (f := .free "max") rfl)),
    (He.free_ok X G (c.fact 8 (f := .free "min") rfl)),
    (He.free_ok X G (c.fact 9 (f := .free "range") rfl)),
    (He.free_ok X G (c.fact 10 (f := .free "str") rfl)),
    (He.free_ok X G (c.fact 11 (f := .free "super") rfl)),
    (He.free_ok X G (c.fact 12 (f := .free "tuple") rfl)),
    (He.glo_ok X G (c.fact 13 (f := .glo "CHANGES") rfl)),
    (He.glo_ok X G (c.fact 14 (f := .glo "CHECKS") rfl)),
    (He.glo_ok X G (c.fact 15 (f := .glo "DEEDS") rfl)),
    (He.glo_ok X G (c.fact 16 (f := .glo "KINDS") rfl)),
    (He.str_ok X G (c.fact 17 (f := .str "LETTERS" "abcdefghijklmnopqrstuvwxyz") rfl)),
    (He.glo_ok X G (c.fact 18 (f := .glo "LOCKED") rfl)),
    (He.int_ok X G (c.fact 19 (f := .int "MOST_LETTERS" 8) rfl)),
    (He.int_ok X G (c.fact 20 (f := .int "MOST_STEPS" 12) rfl)),
    (He.glo_ok X G (c.fact 21 (f := .glo "NoProgram") rfl)),
    (He.glo_ok X G (c.fact 22 (f := .glo "PLAIN_STEPS") rfl)),
    (He.str_ok X G (c.fact 23 (f := .str "TABLE" "table") rfl)),
    (chkkind_ok (P0 := PySem.Challenge.pw_shiftparts_k22_programs_of_kinds) (He.glo_ok X G (c.fact 21 (f := .glo "NoProgram") rfl)) (He.free_ok X G (c.fact 11 (f := .free "super") rfl)) hPf hPs (c.init 0 (f := (("NoProgram", some "__init__"), some ("__init__", "NoProgram.__init__", (PySem.Sxkind.iA ⟨6, 17, 6, 21⟩ ⟨6, 23, 6, 27⟩), FuncBody.stmts (PySem.Sxkind.iB "there is no program of this kind" ⟨7, 8, 7, 13⟩ ⟨7, 8, 7, 15⟩ ⟨7, 8, 7, 24⟩ ⟨7, 25, 7, 59⟩ ⟨7, 8, 7, 60⟩ ⟨7, 8, 7, 60⟩ ⟨8, 8, 8, 12⟩ ⟨8, 8, 8, 17⟩ ⟨8, 20, 8, 24⟩ ⟨8, 8, 8, 24⟩), PySem.Sxkind.iS, mainGlobals, [("__class__" : Str)], builtinsNs))) rfl) (by decide) (c.own 0 (f := fun K => Chkkind PySem.Challenge.pw_shiftparts_k22_programs_of_kinds K "NoProgram") rfl)),
    (xfB_ok (c.own 1 (f := fun K => xfB K (He.ga K "NoProgram")) rfl)),
    (eqB_ok (c.own 2 (f := fun K => eqB (PySem.W.findIn K (.ref (He.ga K "NoProgram")) "kind") (some none)) rfl)),
    (c.tab 0 (t := (fun K => He.ga K "LOCKED", ["table", "part", "old", "new", "rest"])) rfl),
    (c.tab 1 (t := (fun K => He.ga K "PLAIN_STEPS", ["look", "again", "border", "key", "put", "claim", "strike", "view", "read", "move", "switch", "wait", "close", "end"])) rfl),
    ⟨(fun H => tupK_ok (c.own 3 (f := fun K => tupK K (He.ga K "CHANGES") [.str "hang", .str "take", .str "split", .str "join"]) rfl) H), (fun H => tupK_ok (c.own 4 (f := fun K => tupK K (He.ga K "CHECKS") [.str "border", .str "key"]) rfl) H), (fun H => tupK_ok (c.own 5 (f := fun K => tupK K (He.ga K "DEEDS") [.str "put", .str "claim", .str "strike", .str "read"]) rfl) H), (fun H => tupK_ok (c.own 6 (f := fun K => tupK K (He.ga K "KINDS") [.str "put", .str "strike", .str "read", .str "direct", .str "hang", .str "take", .str "split", .str "join"]) rfl) H), (fun z hz => keysB_none (c.own 7 (f := fun K => keysB K (He.ga K "LOCKED") ["table", "part", "old", "new", "rest"]) rfl) hz), (eqB_ok (c.own 8 (f := fun K => eqB (PySem.W.nsIn K (He.ga K "LOCKED") "table") (some (some (.ref (kAt K (He.ga K "LOCKED") "table"))))) rfl)), (fun H => tupK_ok (c.own 9 (f := fun K => tupK K (kAt K (He.ga K "LOCKED") "table") [.str "put", .str "strike", .str "read", .str "hang", .str "take", .str "split", .str "join"]) rfl) H), (eqB_ok (c.own 10 (f := fun K => eqB (PySem.W.nsIn K (He.ga K "LOCKED") "part") (some (some (.ref (kAt K (He.ga K "LOCKED") "part"))))) rfl)), (fun H => tupK_ok (c.own 11 (f := fun K => tupK K (kAt K (He.ga K "LOCKED") "part") [.str "put", .str "strike", .str "read", .str "direct"]) rfl) H), (eqB_ok (c.own 12 (f := fun K => eqB (PySem.W.nsIn K (He.ga K "LOCKED") "old") (some (some (.ref (kAt K (He.ga K "LOCKED") "old"))))) rfl)), (fun H => tupK_ok (c.own 13 (f := fun K => tupK K (kAt K (He.ga K "LOCKED") "old") [.str "take", .str "split", .str "join"]) rfl) H), (eqB_ok (c.own 14 (f := fun K => eqB (PySem.W.nsIn K (He.ga K "LOCKED") "new") (some (some (.ref (kAt K (He.ga K "LOCKED") "new"))))) rfl)), (fun H => tupK_ok (c.own 15 (f := fun K => tupK K (kAt K (He.ga K "LOCKED") "new") [.str "hang", .str "split", .str "join"]) rfl) H), (eqB_ok (c.own 16 (f := fun K => eqB (PySem.W.nsIn K (He.ga K "LOCKED") "rest") (some (some (.ref (kAt K (He.ga K "LOCKED") "rest"))))) rfl)), (fun H => tupK_ok (c.own 17 (f := fun K => tupK K (kAt K (He.ga K "LOCKED") "rest") [.str "hang", .str "take", .str "split", .str "join"]) rfl) H), (fun z hz => keysB_none (c.own 18 (f := fun K => keysB K (He.ga K "PLAIN_STEPS") ["look", "again", "border", "key", "put", "claim", "strike", "view", "read", "move", "switch", "wait", "close", "end"]) rfl) hz), (eqB_ok (c.own 19 (f := fun K => eqB (PySem.W.nsIn K (He.ga K "PLAIN_STEPS") "look") (some (some (.ref (kAt K (He.ga K "PLAIN_STEPS") "look"))))) rfl)), (fun H => tupK_ok (c.own 20 (f := fun K => tupK K (kAt K (He.ga K "PLAIN_STEPS") "look") [.str "put", .str "strike", .str "read"]) rfl) H), (eqB_ok (c.own 21 (f := fun K => eqB (PySem.W.nsIn K (He.ga K "PLAIN_STEPS") "again") (some (some (.ref (kAt K (He.ga K "PLAIN_STEPS") "again"))))) rfl)), (fun H => tupK_ok (c.own 22 (f := fun K => tupK K (kAt K (He.ga K "PLAIN_STEPS") "again") [.str "put", .str "strike", .str "read"]) rfl) H), (eqB_ok (c.own 23 (f := fun K => eqB (PySem.W.nsIn K (He.ga K "PLAIN_STEPS") "border") (some (some (.ref (kAt K (He.ga K "PLAIN_STEPS") "border"))))) rfl)), (fun H => tupK_ok (c.own 24 (f := fun K => tupK K (kAt K (He.ga K "PLAIN_STEPS") "border") [.str "direct"]) rfl) H), (eqB_ok (c.own 25 (f := fun K => eqB (PySem.W.nsIn K (He.ga K "PLAIN_STEPS") "key") (some (some (.ref (kAt K (He.ga K "PLAIN_STEPS") "key"))))) rfl)), (fun H => tupK_ok (c.own 26 (f := fun K => tupK K (kAt K (He.ga K "PLAIN_STEPS") "key") [.str "put", .str "direct"]) rfl) H), (eqB_ok (c.own 27 (f := fun K => eqB (PySem.W.nsIn K (He.ga K "PLAIN_STEPS") "put") (some (some (.ref (kAt K (He.ga K "PLAIN_STEPS") "put"))))) rfl)), (fun H => tupK_ok (c.own 28 (f := fun K => tupK K (kAt K (He.ga K "PLAIN_STEPS") "put") [.str "put", .str "direct"]) rfl) H), (eqB_ok (c.own 29 (f := fun K => eqB (PySem.W.nsIn K (He.ga K "PLAIN_STEPS") "claim") (some (some (.ref (kAt K (He.ga K "PLAIN_STEPS") "claim"))))) rfl)), (fun H => tupK_ok (c.own 30 (f := fun K => tupK K (kAt K (He.ga K "PLAIN_STEPS") "claim") [.str "put", .str "direct"]) rfl) H), (eqB_ok (c.own 31 (f := fun K => eqB (PySem.W.nsIn K (He.ga K "PLAIN_STEPS") "strike") (some (some (.ref (kAt K (He.ga K "PLAIN_STEPS") "strike"))))) rfl)), (fun H => tupK_ok (c.own 32 (f := fun K => tupK K (kAt K (He.ga K "PLAIN_STEPS") "strike") [.str "strike"]) rfl) H), (eqB_ok (c.own 33 (f := fun K => eqB (PySem.W.nsIn K (He.ga K "PLAIN_STEPS") "view") (some (some (.ref (kAt K (He.ga K "PLAIN_STEPS") "view"))))) rfl)), (fun H => tupK_ok (c.own 34 (f := fun K => tupK K (kAt K (He.ga K "PLAIN_STEPS") "view") [.str "read"]) rfl) H), (eqB_ok (c.own 35 (f := fun K => eqB (PySem.W.nsIn K (He.ga K "PLAIN_STEPS") "read") (some (some (.ref (kAt K (He.ga K "PLAIN_STEPS") "read"))))) rfl)), (fun H => tupK_ok (c.own 36 (f := fun K => tupK K (kAt K (He.ga K "PLAIN_STEPS") "read") [.str "read"]) rfl) H), (eqB_ok (c.own 37 (f := fun K => eqB (PySem.W.nsIn K (He.ga K "PLAIN_STEPS") "move") (some (some (.ref (kAt K (He.ga K "PLAIN_STEPS") "move"))))) rfl)), (fun H => tupK_ok (c.own 38 (f := fun K => tupK K (kAt K (He.ga K "PLAIN_STEPS") "move") [.str "split", .str "join"]) rfl) H), (eqB_ok (c.own 39 (f := fun K => eqB (PySem.W.nsIn K (He.ga K "PLAIN_STEPS") "switch") (some (some (.ref (kAt K (He.ga K "PLAIN_STEPS") "switch"))))) rfl)), (fun H => tupK_ok (c.own 40 (f := fun K => tupK K (kAt K (He.ga K "PLAIN_STEPS") "switch") [.str "hang", .str "take", .str "split", .str "join"]) rfl) H), (eqB_ok (c.own 41 (f := fun K => eqB (PySem.W.nsIn K (He.ga K "PLAIN_STEPS") "wait") (some (some (.ref (kAt K (He.ga K "PLAIN_STEPS") "wait"))))) rfl)), (fun H => tupK_ok (c.own 42 (f := fun K => tupK K (kAt K (He.ga K "PLAIN_STEPS") "wait") [.str "hang", .str "take", .str "split", .str "join"]) rfl) H), (eqB_ok (c.own 43 (f := fun K => eqB (PySem.W.nsIn K (He.ga K "PLAIN_STEPS") "close") (some (some (.ref (kAt K (He.ga K "PLAIN_STEPS") "close"))))) rfl)), (fun H => tupK_ok (c.own 44 (f := fun K => tupK K (kAt K (He.ga K "PLAIN_STEPS") "close") [.str "hang", .str "take", .str "split", .str "join"]) rfl) H), (eqB_ok (c.own 45 (f := fun K => eqB (PySem.W.nsIn K (He.ga K "PLAIN_STEPS") "end") (some (some (.ref (kAt K (He.ga K "PLAIN_STEPS") "end"))))) rfl)), (fun H => tupK_ok (c.own 46 (f := fun K => tupK K (kAt K (He.ga K "PLAIN_STEPS") "end") [.str "put", .str "strike", .str "read", .str "direct", .str "hang", .str "take", .str "split", .str "join"]) rfl) H)⟩,
    ⟨He.exm_ok (c.fact 24 (f := .exm "NoProgram" "NoProgram" true) rfl)⟩⟩
  have hml := He.glo_ok X G (c.fact 51 (f := .glo "law") rfl)
  have e := hfa.symm.trans hml
  cases e
  obtain ⟨fdL, FL⟩ := c.def_ 26 (d := ⟨("law", none), "law", "law", defArgs s_law, defBody s_law, defScope s_law, [], []⟩) rfl
  have b := FunD.bindsA (ps := ["script"]) FL fun _ _ _ _ _ _ us hl => match us, hl with | [_], _ => rfl
  refine ⟨fdL, fun s v => b s [v] rfl, fun base _ _ => ?_⟩
  have O_is_name := ok_is_name (P := P) (w := w) (base := base) T (c.def_ 0 (d := ⟨("is_name", none), "is_name", "is_name", defArgs s_is_name, defBody s_is_name, defScope s_is_name, [], []⟩) rfl) (He.glo_ok X G (c.fact 25 (f := .glo "is_name") rfl)) 
  have O_need_kind := ok_need_kind (P := P) (w := w) (base := base) T (c.def_ 1 (d := ⟨("need_kind", none), "need_kind", "need_kind", defArgs s_need_kind, defBody s_need_kind, defScope s_need_kind, [], []⟩) rfl) (He.glo_ok X G (c.fact 26 (f := .glo "need_kind") rfl)) 
  have O_has_step := ok_has_step (P := P) (w := w) (base := base) T (c.def_ 2 (d := ⟨("has_step", none), "has_step", "has_step", defArgs s_has_step, defBody s_has_step, defScope s_has_step, [], []⟩) rfl) (He.glo_ok X G (c.fact 27 (f := .glo "has_step") rfl)) O_is_name
  have O_words_of := ok_words_of (P := P) (w := w) (base := base) T (c.def_ 3 (d := ⟨("words_of", none), "words_of", "words_of", defArgs s_words_of, defBody s_words_of, defScope s_words_of, [], []⟩) rfl) (He.glo_ok X G (c.fact 28 (f := .glo "words_of") rfl)) 
  have O_ends_well := ok_ends_well (P := P) (w := w) (base := base) T (c.def_ 4 (d := ⟨("ends_well", none), "ends_well", "ends_well", defArgs s_ends_well, defBody s_ends_well, defScope s_ends_well, [], []⟩) rfl) (He.glo_ok X G (c.fact 29 (f := .glo "ends_well") rfl)) O_words_of
  have O_stand_ahead := ok_stand_ahead (P := P) (w := w) (base := base) T (c.def_ 5 (d := ⟨("stand_ahead", none), "stand_ahead", "stand_ahead", defArgs s_stand_ahead, defBody s_stand_ahead, defScope s_stand_ahead, [], []⟩) rfl) (He.glo_ok X G (c.fact 30 (f := .glo "stand_ahead") rfl)) 
  have O_asks_well := ok_asks_well (P := P) (w := w) (base := base) T (c.def_ 6 (d := ⟨("asks_well", none), "asks_well", "asks_well", defArgs s_asks_well, defBody s_asks_well, defScope s_asks_well, [], []⟩) rfl) (He.glo_ok X G (c.fact 31 (f := .glo "asks_well") rfl)) O_words_of O_stand_ahead
  have O_changes_well := ok_changes_well (P := P) (w := w) (base := base) T (c.def_ 7 (d := ⟨("changes_well", none), "changes_well", "changes_well", defArgs s_changes_well, defBody s_changes_well, defScope s_changes_well, [], []⟩) rfl) (He.glo_ok X G (c.fact 32 (f := .glo "changes_well") rfl)) O_words_of O_stand_ahead
  have O_has_program := ok_has_program (P := P) (w := w) (base := base) T (c.def_ 8 (d := ⟨("has_program", none), "has_program", "has_program", defArgs s_has_program, defBody s_has_program, defScope s_has_program, [], []⟩) rfl) (He.glo_ok X G (c.fact 33 (f := .glo "has_program") rfl)) O_has_step O_ends_well O_changes_well O_asks_well
  have O_is_program := ok_is_program (P := P) (w := w) (base := base) T (c.def_ 9 (d := ⟨("is_program", none), "is_program", "is_program", defArgs s_is_program, defBody s_is_program, defScope s_is_program, [], []⟩) rfl) (He.glo_ok X G (c.fact 34 (f := .glo "is_program") rfl)) O_need_kind O_has_program
  have O_law_cell := ok_law_cell (P := P) (w := w) (base := base) T (c.def_ 10 (d := ⟨("_law_cell", none), "_law_cell", "_law_cell", defArgs s_law_cell, defBody s_law_cell, defScope s_law_cell, [], []⟩) rfl) (He.glo_ok X G (c.fact 35 (f := .glo "_law_cell") rfl)) 
  have O_law_box := ok_law_box (P := P) (w := w) (base := base) T (c.def_ 11 (d := ⟨("_law_box", none), "_law_box", "_law_box", defArgs s_law_box, defBody s_law_box, defScope s_law_box, [], []⟩) rfl) (He.glo_ok X G (c.fact 36 (f := .glo "_law_box") rfl)) 
  have O_law_take := ok_law_take (P := P) (w := w) (base := base) T (c.def_ 12 (d := ⟨("_law_take", none), "_law_take", "_law_take", defArgs s_law_take, defBody s_law_take, defScope s_law_take, [], []⟩) rfl) (He.glo_ok X G (c.fact 37 (f := .glo "_law_take") rfl)) 
  have O_law_mixed := ok_law_mixed (P := P) (w := w) (base := base) T (c.def_ 13 (d := ⟨("_law_mixed", none), "_law_mixed", "_law_mixed", defArgs s_law_mixed, defBody s_law_mixed, defScope s_law_mixed, [], []⟩) rfl) (He.glo_ok X G (c.fact 38 (f := .glo "_law_mixed") rfl)) O_law_take
  have O_law_names := ok_law_names (P := P) (w := w) (base := base) T (c.def_ 14 (d := ⟨("_law_names", none), "_law_names", "_law_names", defArgs s_law_names, defBody s_law_names, defScope s_law_names, [], []⟩) rfl) (He.glo_ok X G (c.fact 39 (f := .glo "_law_names") rfl)) O_law_take O_law_mixed
  have O_law_kinds_0_ := okkG_law_kinds_0_ (P := P) (w := w) (base := base) T (c.def_ 15 (d := ⟨("_law_kinds", none), "_law_kinds", "_law_kinds", defArgs s_law_kinds, defBody s_law_kinds, defScope s_law_kinds, [], []⟩) rfl) (He.glo_ok X G (c.fact 40 (f := .glo "_law_kinds") rfl)) 
  have O_law_is_name := ok_law_is_name (P := P) (w := w) (base := base) T (c.def_ 16 (d := ⟨("_law_is_name", none), "_law_is_name", "_law_is_name", defArgs s_law_is_name, defBody s_law_is_name, defScope s_law_is_name, [], []⟩) rfl) (He.glo_ok X G (c.fact 41 (f := .glo "_law_is_name") rfl)) 
  have O_law_is_step := ok_law_is_step (P := P) (w := w) (base := base) T (c.def_ 17 (d := ⟨("_law_is_step", none), "_law_is_step", "_law_is_step", defArgs s_law_is_step, defBody s_law_is_step, defScope s_law_is_step, [], []⟩) rfl) (He.glo_ok X G (c.fact 42 (f := .glo "_law_is_step") rfl)) O_law_is_name O_law_kinds_0_
  have O_law_count := ok_law_count (P := P) (w := w) (base := base) T (c.def_ 18 (d := ⟨("_law_count", none), "_law_count", "_law_count", defArgs s_law_count, defBody s_law_count, defScope s_law_count, [], []⟩) rfl) (He.glo_ok X G (c.fact 43 (f := .glo "_law_count") rfl)) 
  have O_law_order := ok_law_order (P := P) (w := w) (base := base) T (c.def_ 19 (d := ⟨("_law_order", none), "_law_order", "_law_order", defArgs s_law_order, defBody s_law_order, defScope s_law_order, [], []⟩) rfl) (He.glo_ok X G (c.fact 44 (f := .glo "_law_order") rfl)) 
  have O_law_is_program := ok_law_is_program (P := P) (w := w) (base := base) T (c.def_ 20 (d := ⟨("_law_is_program", none), "_law_is_program", "_law_is_program", defArgs s_law_is_program, defBody s_law_is_program, defScope s_law_is_program, [], []⟩) rfl) (He.glo_ok X G (c.fact 45 (f := .glo "_law_is_program") rfl)) O_law_is_step O_law_count O_law_order O_law_kinds_0_
  have O_law_drawn_step := ok_law_drawn_step (P := P) (w := w) (base := base) T (c.def_ 21 (d := ⟨("_law_drawn_step", none), "_law_drawn_step", "_law_drawn_step", defArgs s_law_drawn_step, defBody s_law_drawn_step, defScope s_law_drawn_step, [], []⟩) rfl) (He.glo_ok X G (c.fact 46 (f := .glo "_law_drawn_step") rfl)) O_law_take
  have O_law_base := ok_law_base (P := P) (w := w) (base := base) T (c.def_ 22 (d := ⟨("_law_base", none), "_law_base", "_law_base", defArgs s_law_base, defBody s_law_base, defScope s_law_base, [], []⟩) rfl) (He.glo_ok X G (c.fact 47 (f := .glo "_law_base") rfl)) O_law_take
  have O_law_program := ok_law_program (P := P) (w := w) (base := base) T (c.def_ 23 (d := ⟨("_law_program", none), "_law_program", "_law_program", defArgs s_law_program, defBody s_law_program, defScope s_law_program, [], []⟩) rfl) (He.glo_ok X G (c.fact 48 (f := .glo "_law_program") rfl)) O_law_base O_law_take O_law_drawn_step O_law_is_program
  have O_law_bent := ok_law_bent (P := P) (w := w) (base := base) T (c.def_ 24 (d := ⟨("_law_bent", none), "_law_bent", "_law_bent", defArgs s_law_bent, defBody s_law_bent, defScope s_law_bent, [], []⟩) rfl) (He.glo_ok X G (c.fact 49 (f := .glo "_law_bent") rfl)) O_law_take O_law_drawn_step
  have O_law_told := ok_law_told (P := P) (w := w) (base := base) T (c.def_ 25 (d := ⟨("_law_told", none), "_law_told", "_law_told", defArgs s_law_told, defBody s_law_told, defScope s_law_told, [], []⟩) rfl) (He.glo_ok X G (c.fact 50 (f := .glo "_law_told") rfl)) O_is_program
  exact okf_law (P := P) (w := w) (base := base) T FL O_law_box O_law_cell O_law_names O_law_mixed O_law_program O_is_program O_law_is_program O_law_bent O_law_take O_law_told O_law_kinds_0_
def lawLevel : Nat := 6
def lawAt : Nat := 42

end Z

namespace Z
open PySem PySem.Spec PyProof.Rows L2
/-! ### the end -/
abbrev R : PySem.W.OpenRow := PySem.W.OpenLaw.row PySem.Challenge.rw_shiftparts_k22_programs_of_kinds
abbrev hk : PySem.W.Hook := hookX 4 fa fn fs cu ts
def ob (s : PySem.W.SharedT) : AlX := obsXG 4 fa fn fs cu ts (HandSHeadRun.getT s)
theorem ob_eq (s : PySem.W.SharedT) : ob s = hk.obs s.abs := obsXG_eq (HandSHeadRun.getT_eq s)
def loose : List PySem.Str := (["PartsError", "NoProgram", "LETTERS", "MOST_LETTERS", "TABLE", "is_name", "KINDS", "CHANGES", "MOST_STEPS", "PLAIN_STEPS", "LOCKED", "DEEDS", "CHECKS", "need_kind", "has_step", "words_of", "ends_well", "stand_ahead", "asks_well", "changes_well", "has_program", "is_program", "_law_cell", "_law_box", "_law_take", "_law_mixed", "_law_names", "_law_kinds", "_law_is_name", "_law_is_step"] : List PySem.Str) ++ (["_law_count", "_law_order", "_law_is_program", "_law_drawn_step", "_law_base", "_law_program", "_law_bent", "_law_told"] : List PySem.Str)
theorem run_false (w : World) : HandSHeadRun.RunEq R (PySem.W.view R.prog [42]) hk ob 4000 loose (w.withFollow "special-get-raises" false) := by
  intro os
  kernel_rfl
theorem run_true (w : World) : HandSHeadRun.RunEq R (PySem.W.view R.prog [42]) hk ob 4000 loose (w.withFollow "special-get-raises" true) := by
  intro os
  kernel_rfl
theorem run (w : World) : HandSHeadRun.RunEq R (PySem.W.view R.prog [42]) hk ob 4000 loose w := PySem.W.byRow2 "special-get-raises" run_false run_true w
end Z
open PySem PySem.W PySem.Calls PyProof.Rows
theorem PySem.Challenge.cw_shiftparts_k22_programs_of_kinds_holds : PySem.Challenge.rw_shiftparts_k22_programs_of_kinds.Holds := by
  w_on; o_law
  refine HandSHeadRun.head_any (r := OpenLaw.row PySem.Challenge.rw_shiftparts_k22_programs_of_kinds) (q := view (OpenLaw.row PySem.Challenge.rw_shiftparts_k22_programs_of_kinds).prog [42]) (H := Z.hk) (ob := Z.ob) (M := 4000) (loose := Z.loose) (d := HandSHeadRun.topDef (OpenLaw.row PySem.Challenge.rw_shiftparts_k22_programs_of_kinds).prog 42) (kwd := []) Z.ob_eq
    (by kernel_rfl) (fun s => by kernel_rfl) Z.run (by kernel_rfl) (by kernel_rfl) (by kernel_rfl) (by rfl) (by first | assumption | decide +kernel) (by decide +kernel) ⟨rfl, rfl, rfl, rfl, rfl, by decide +kernel⟩ ?hw ?hc
  case hw => w_witness2
  case hc =>
    refine L2.walk_ofE (l := PySem.Challenge.rw_shiftparts_k22_programs_of_kinds) (n := 63) (k := 6) (x := "script") (CX := L2.CX0) rfl (by decide) (by kernel_rfl) ⟨rfl, by decide, by decide⟩ ?F (fun _ _ _ _ z => z)
    intro w mg fa h Y G hmg0
    obtain ⟨K, KX, c⟩ := Y
    have hmg : mg ("law" : PySem.Str) = some (.ref fa) := by
      have e : (HandSHeadRun.topDef (OpenLaw.row PySem.Challenge.rw_shiftparts_k22_programs_of_kinds).prog 42).name = ("law" : PySem.Str) := by kernel_rfl
      rw [← e]
      exact hmg0
    obtain ⟨fd, hb, hF⟩ := Z.all_ok (P := (PySem.Challenge.rw_shiftparts_k22_programs_of_kinds).prog) (w := w) (by rfl) (by decide +kernel) KX G hmg c
    exact ⟨K, fd, Z.sp_law0 K, KX, hb, fun H a ns hl _ hS => ⟨a, ns, rfl, hS, hl, fun _ => rfl⟩, fun b h1 h2 => (hF b h1 h2).imp (Z.law_up K Z.law_true)⟩
#print axioms PySem.Challenge.cw_shiftparts_k22_programs_of_kinds_holds

