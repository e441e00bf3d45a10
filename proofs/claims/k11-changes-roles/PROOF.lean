import PyProof.Rows.All
import Wide.All
import OpenK.AllK
import Wide.FinOn
import HandS.ForMost
import HandS.Flow
import HandS.Style
import HandS.Wide
import HandS.WideMore
import HandS.IsInst
import HandS.Evl
import HandS.Walk
import HandS.Defaults
import HandS.Head0
import HandS.Head1
import HandS.Head2
import HandS.HeadEnd
import HandS.HeadHook1
import HandS.HeadHook2
import KE.KExcSuper
import KE.KExcPX
import HandS.Exc
import HandS.ExcSuper
import HandS.ExcInit
import HandS.ExcField
import HandS.TryMany
import HandS.TryOnly
import HandS.RaiseFrom
import HandS.FStr
import HandS.TupAny
import KE.KUnpackStar
import HandS.Star
import HandS.More
import HandS.Small
import HandS.RaiseMore
import HandS.WordsExc
import PySem.Challenge.RW_shiftparts_k11_changes_and_roles
set_option Elab.async false
set_option linter.all false
set_option maxRecDepth 100000
set_option maxHeartbeats 4000000
/-! == and != of data at any depth: items by identity or by ==, lists and tuples of any length -/
namespace Z
open PySem PySem.Spec PyProof.Rows L2 Evl
def scB : V → V → Bool
  | .non, .non | .non, .int _ | .int _, .non | .non, .bl _ | .bl _, .non | .non, .str _ | .str _, .non => true
  | .int _, .int _ | .bl _, .bl _ | .str _, .str _ | .int _, .str _ | .str _, .int _ | .bl _, .str _ | .str _, .bl _ => true
  | _, _ => false
def isS : V → Bool
  | .non | .bl _ | .int _ | .str _ => true
  | _ => false
/-- items one by one, as far as both go -/
inductive EqZ (E : V → V → Bool → Prop) : List V → List V → List Bool → Prop
  | nil : EqZ E [] [] []
  | nilL {y : V} {ys : List V} : EqZ E [] (y :: ys) []
  | nilR {x : V} {xs : List V} : EqZ E (x :: xs) [] []
  | cons {x y : V} {xs ys : List V} {b : Bool} {e : List Bool} : E x y b → EqZ E xs ys e → EqZ E (x :: xs) (y :: ys) (b :: e)
/-- x == y gives b, items by E -/
inductive EqR (K : PySem.W.Frag) (H : Hp) (E : V → V → Bool → Prop) : V → V → Bool → Prop
  | sc {x y : V} : scB x y = true → EqR K H E x y (decide (x = y))
  | bi (a : Bool) (j : Int) : EqR K H E (.bl a) (.int j) ((if a then 1 else 0) == j)
  | ib (i : Int) (b : Bool) : EqR K H E (.int i) (.bl b) (i == (if b then 1 else 0))
  | ll {a b : Addr} {xs ys : List V} : SqL K H a xs → SqL K H b ys → xs.length ≠ ys.length → EqR K H E (.ref a) (.ref b) false
  | lst {a b : Addr} {xs ys : List V} {e : List Bool} : SqL K H a xs → SqL K H b ys → xs.length = ys.length → EqZ E xs ys e → EqR K H E (.ref a) (.ref b) (e.all id)
  | tup {a b : Addr} {xs ys : List V} {e : List Bool} : SqT K H a xs → SqT K H b ys → EqZ E xs ys e → EqR K H E (.ref a) (.ref b) (e.all id && decide (xs.length = ys.length))
  | lt {a b : Addr} {xs ys : List V} : SqL K H a xs → SqT K H b ys → EqR K H E (.ref a) (.ref b) false
  | tl {a b : Addr} {xs ys : List V} : SqT K H a xs → SqL K H b ys → EqR K H E (.ref a) (.ref b) false
  | ls {a : Addr} {xs : List V} {y : V} : SqL K H a xs → isS y = true → EqR K H E (.ref a) y false
  | sl {a : Addr} {xs : List V} {y : V} : SqL K H a xs → isS y = true → EqR K H E y (.ref a) false
  | ts {a : Addr} {xs : List V} {y : V} : SqT K H a xs → isS y = true → EqR K H E (.ref a) y false
  | st {a : Addr} {xs : List V} {y : V} : SqT K H a xs → isS y = true → EqR K H E y (.ref a) false
/-- two items: the same object, or equal by == -/
def EqI (K : PySem.W.Frag) (H : Hp) : Nat → V → V → Bool → Prop
  | 0 => fun _ _ _ => False
  | n + 1 => fun x y b => (∃ a, x = .ref a ∧ y = .ref a ∧ b = true) ∨ (EqR K H (EqI K H n) x y b ∧ ∀ a, x = .ref a → y ≠ .ref a)
theorem EqI.same {K : PySem.W.Frag} {H : Hp} {n : Nat} (a : Addr) : EqI K H (n + 1) (.ref a) (.ref a) true := .inl ⟨a, rfl, rfl, rfl⟩
theorem EqI.sc {K : PySem.W.Frag} {H : Hp} {n : Nat} {x y : V} (h : scB x y = true) : EqI K H (n + 1) x y (decide (x = y)) := .inr ⟨.sc h, fun a e => by
  subst e
  cases h⟩
theorem EqI.rc {K : PySem.W.Frag} {H : Hp} {n : Nat} {a b : Addr} {k : Bool} (h : EqR K H (EqI K H n) (.ref a) (.ref b) k) (ne : a ≠ b) : EqI K H (n + 1) (.ref a) (.ref b) k := .inr ⟨h, fun c e f => by
  injection e with e
  injection f with f
  exact ne (e.trans f.symm)⟩
section
variable {X : Cx} {pins : List (Addr × Obj)} {σ : L2.St} {H : Hp} {s : Shared}
theorem sc_rc {A : Around} {x y : V} {v u : Value} (h : scB x y = true) (rx : RelV x v) (ry : RelV y u) : SeqAt.RcAt A s v u (decide (x = y)) := by
  have beqd : ∀ (a b : Bool), decide (V.bl a = V.bl b) = (a == b) := fun a b => by cases a <;> cases b <;> rfl
  have beqi : ∀ (a b : Int), decide (V.int a = V.int b) = (a == b) := fun a b => by
    rw [Bool.beq_eq_decide_eq]
    simp
  have beqs : ∀ (a b : Str), decide (V.str a = V.str b) = (a == b) := fun a b => by
    rw [Bool.beq_eq_decide_eq]
    simp
  cases x <;> cases y <;> first | (exact absurd (show false = true from h) Bool.false_ne_true) | skip
  · cases rx; cases ry; exact SeqAt.RcAt.none_none
  · cases rx; cases ry; exact SeqAt.RcAt.none_bool _
  · cases rx; obtain ⟨t, rfl⟩ := ry; exact SeqAt.RcAt.none_int _ _
  · cases rx; obtain ⟨t, rfl⟩ := ry; exact SeqAt.RcAt.none_str _ _
  · cases rx; cases ry; exact SeqAt.RcAt.bool_none _
  · cases rx; cases ry; rw [beqd]; exact SeqAt.RcAt.bool_bool _ _
  · cases rx; obtain ⟨t, rfl⟩ := ry; exact SeqAt.RcAt.bool_str _ _ _
  · cases ry; obtain ⟨t, rfl⟩ := rx; exact SeqAt.RcAt.int_none _ _
  · obtain ⟨t, rfl⟩ := rx; obtain ⟨t', rfl⟩ := ry; rw [beqi]; exact SeqAt.RcAt.int_int _ _ _ _
  · obtain ⟨t, rfl⟩ := rx; obtain ⟨t', rfl⟩ := ry; exact SeqAt.RcAt.int_str _ _ _ _
  · cases ry; obtain ⟨t, rfl⟩ := rx; exact SeqAt.RcAt.str_none _ _
  · cases ry; obtain ⟨t, rfl⟩ := rx; exact SeqAt.RcAt.str_bool _ _ _
  · obtain ⟨t, rfl⟩ := rx; obtain ⟨t', rfl⟩ := ry; exact SeqAt.RcAt.str_int _ _ _ _
  · obtain ⟨t, rfl⟩ := rx; obtain ⟨t', rfl⟩ := ry; rw [beqs]; exact SeqAt.RcAt.str_str _ _ _ _
theorem sc_eq {A : Around} {x y : V} {v u : Value} (h : scB x y = true) (rx : RelV x v) (ry : RelV y u) : SeqAt.EqAt A s v u (decide (x = y)) := by
  have beqd : ∀ (a b : Bool), decide (V.bl a = V.bl b) = (a == b) := fun a b => by cases a <;> cases b <;> rfl
  have beqi : ∀ (a b : Int), decide (V.int a = V.int b) = (a == b) := fun a b => by
    rw [Bool.beq_eq_decide_eq]
    simp
  have beqs : ∀ (a b : Str), decide (V.str a = V.str b) = (a == b) := fun a b => by
    rw [Bool.beq_eq_decide_eq]
    simp
  cases x <;> cases y <;> first | (exact absurd (show false = true from h) Bool.false_ne_true) | skip
  · cases rx; cases ry; exact SeqAt.EqAt.same _
  · cases rx; cases ry; exact SeqAt.EqAt.none_bool _
  · cases rx; obtain ⟨t, rfl⟩ := ry; exact SeqAt.EqAt.none_int _ _
  · cases rx; obtain ⟨t, rfl⟩ := ry; exact SeqAt.EqAt.none_str _ _
  · cases rx; cases ry; exact SeqAt.EqAt.bool_none _
  · cases rx; cases ry; rw [beqd]; exact SeqAt.EqAt.bool_bool _ _
  · cases rx; obtain ⟨t, rfl⟩ := ry; exact SeqAt.EqAt.bool_str _ _ _
  · cases ry; obtain ⟨t, rfl⟩ := rx; exact SeqAt.EqAt.int_none _ _
  · obtain ⟨t, rfl⟩ := rx; obtain ⟨t', rfl⟩ := ry; rw [beqi]; exact SeqAt.EqAt.int_int _ _ _ _
  · obtain ⟨t, rfl⟩ := rx; obtain ⟨t', rfl⟩ := ry; exact SeqAt.EqAt.int_str _ _ _ _
  · cases ry; obtain ⟨t, rfl⟩ := rx; exact SeqAt.EqAt.str_none _ _
  · cases ry; obtain ⟨t, rfl⟩ := rx; exact SeqAt.EqAt.str_bool _ _ _
  · obtain ⟨t, rfl⟩ := rx; obtain ⟨t', rfl⟩ := ry; exact SeqAt.EqAt.str_int _ _ _ _
  · obtain ⟨t, rfl⟩ := rx; obtain ⟨t', rfl⟩ := ry; rw [beqs]; exact SeqAt.EqAt.str_str _ _ _ _
theorem sc_ne {A : Around} {x y : V} {v u : Value} (h : scB x y = true) (rx : RelV x v) (ry : RelV y u) : SeqAt.RcNeAt A s v u (!decide (x = y)) := by
  have beqd : ∀ (a b : Bool), decide (V.bl a = V.bl b) = (a == b) := fun a b => by cases a <;> cases b <;> rfl
  have beqi : ∀ (a b : Int), decide (V.int a = V.int b) = (a == b) := fun a b => by
    rw [Bool.beq_eq_decide_eq]
    simp
  have beqs : ∀ (a b : Str), decide (V.str a = V.str b) = (a == b) := fun a b => by
    rw [Bool.beq_eq_decide_eq]
    simp
  cases x <;> cases y <;> first | (exact absurd (show false = true from h) Bool.false_ne_true) | skip
  · cases rx; cases ry; exact SeqAt.RcNeAt.none_none
  · cases rx; cases ry; exact SeqAt.RcNeAt.none_bool _
  · cases rx; obtain ⟨t, rfl⟩ := ry; exact SeqAt.RcNeAt.none_int _ _
  · cases rx; obtain ⟨t, rfl⟩ := ry; exact SeqAt.RcNeAt.none_str _ _
  · cases rx; cases ry; exact SeqAt.RcNeAt.bool_none _
  · cases rx; cases ry; rw [beqd]; exact SeqAt.RcNeAt.bool_bool _ _
  · cases rx; obtain ⟨t, rfl⟩ := ry; exact SeqAt.RcNeAt.bool_str _ _ _
  · cases ry; obtain ⟨t, rfl⟩ := rx; exact SeqAt.RcNeAt.int_none _ _
  · obtain ⟨t, rfl⟩ := rx; obtain ⟨t', rfl⟩ := ry; rw [beqi]; exact SeqAt.RcNeAt.int_int _ _ _ _
  · obtain ⟨t, rfl⟩ := rx; obtain ⟨t', rfl⟩ := ry; exact SeqAt.RcNeAt.int_str _ _ _ _
  · cases ry; obtain ⟨t, rfl⟩ := rx; exact SeqAt.RcNeAt.str_none _ _
  · cases ry; obtain ⟨t, rfl⟩ := rx; exact SeqAt.RcNeAt.str_bool _ _ _
  · obtain ⟨t, rfl⟩ := rx; obtain ⟨t', rfl⟩ := ry; exact SeqAt.RcNeAt.str_int _ _ _ _
  · obtain ⟨t, rfl⟩ := rx; obtain ⟨t', rfl⟩ := ry; rw [beqs]; exact SeqAt.RcNeAt.str_str _ _ _ _
theorem range_all : ∀ e : List Bool, (List.range e.length).all (fun i => e.getD i false) = e.all id
  | [] => rfl
  | b :: e => by
    rw [List.length_cons, List.range_succ_eq_map, List.all_cons, List.all_map, List.all_cons, ← range_all e]
    rfl
theorem EqZ.len {E : V → V → Bool → Prop} {xs ys : List V} {e : List Bool} (h : EqZ E xs ys e) : e.length = min xs.length ys.length := by
  induction h with
  | nil => rfl
  | nilL => simp
  | nilR => simp
  | cons _ _ ih =>
    simp only [List.length_cons]
    omega
theorem EqZ.run {E : V → V → Bool → Prop} {A : Around} (ih : ∀ {x y : V} {b : Bool} {v u : Value}, E x y b → RelV x v → RelV y u → SeqAt.EqAt A s v u b) {xs ys : List V} {e : List Bool} (h : EqZ E xs ys e) : ∀ {us ws : List Value}, Vals xs us → Vals ys ws →
    ∀ j (h1 : j < us.length) (h2 : j < ws.length), SeqAt.EqAt A s us[j] ws[j] (e.getD j false) := by
  induction h with
  | nil => intro us ws r1 r2 j h1 h2; cases r1; exact absurd h1 (Nat.not_lt_zero j)
  | nilL => intro us ws r1 r2 j h1 h2; cases r1; exact absurd h1 (Nat.not_lt_zero j)
  | nilR => intro us ws r1 r2 j h1 h2; cases r2; exact absurd h2 (Nat.not_lt_zero j)
  | cons h _ k =>
    intro us ws r1 r2 j h1 h2
    cases r1 with
    | cons a1 b1 =>
      cases r2 with
      | cons a2 b2 =>
        cases j with
        | zero => exact ih h a1 a2
        | succ j => exact k b1 b2 j (Nat.lt_of_succ_lt_succ h1) (Nat.lt_of_succ_lt_succ h2)
theorem EqR.run (I : Inv X pins σ H s) {E : V → V → Bool → Prop} {A : Around} (hu : A.units < cLine) (ih : ∀ {x y : V} {b : Bool} {v u : Value}, E x y b → RelV x v → RelV y u → SeqAt.EqAt A.in1 s v u b)
    {x y : V} {b : Bool} {v u : Value} (h : EqR X.K H E x y b) (rx : RelV x v) (ry : RelV y u) : SeqAt.RcAt A s v u b := by
  cases h with
  | sc h => exact sc_rc h rx ry
  | bi a j => cases rx; obtain ⟨t, rfl⟩ := ry; exact SeqAt.RcAt.bool_int _ _ _
  | ib i b => cases ry; obtain ⟨t, rfl⟩ := rx; exact SeqAt.RcAt.int_bool _ _ _
  | ll h1 h2 hn =>
    cases rx; cases ry
    obtain ⟨i1, r1, p1, _⟩ := I.list h1
    obtain ⟨i2, r2, p2, _⟩ := I.list h2
    refine SeqAt.RcAt.lists_lengths p1.isList p2.isList ?_ hu
    have e1 := r1.length
    have e2 := r2.length
    simp only [List.size_toArray, bne_iff_ne]
    omega
  | @lst a b xs ys e h1 h2 hl hz =>
    cases rx; cases ry
    obtain ⟨i1, r1, p1, _⟩ := I.list h1
    obtain ⟨i2, r2, p2, _⟩ := I.list h2
    have e1 := r1.length
    have e2 := r2.length
    have el := hz.len
    have q := SeqAt.RcAt.lists (A := A) (e := fun i => e.getD i false) p1.isList p2.isList (by simp only [List.size_toArray]; omega) hu
      (fun j h1 h2 => hz.run ih r1 r2 j (by simpa using h1) (by simpa using h2))
    rw [show i1.toArray.size = e.length by simp only [List.size_toArray]; omega, range_all] at q
    exact q
  | @tup a b xs ys e h1 h2 hz =>
    cases rx; cases ry
    obtain ⟨i1, r1, p1, _⟩ := I.tuple h1
    obtain ⟨i2, r2, p2, _⟩ := I.tuple h2
    have e1 := r1.length
    have e2 := r2.length
    have el := hz.len
    have q := SeqAt.RcAt.tuples (A := A) (e := fun i => e.getD i false) p1 p2 hu
      (fun j h1 h2 => hz.run ih r1 r2 j (by simpa using h1) (by simpa using h2))
    rw [show min i1.toArray.size i2.toArray.size = e.length by simp only [List.size_toArray]; omega, range_all] at q
    have q2 : (i1.toArray.size == i2.toArray.size) = decide (xs.length = ys.length) := by
      rw [Bool.beq_eq_decide_eq]
      simp only [List.size_toArray]
      rw [e1, e2]
    rw [q2] at q
    exact q
  | lt h1 h2 =>
    cases rx; cases ry
    obtain ⟨i1, r1, p1, _⟩ := I.list h1
    obtain ⟨i2, r2, p2, _⟩ := I.tuple h2
    exact SeqAt.RcAt.list_tuple p1.isList p2 hu
  | tl h1 h2 =>
    cases rx; cases ry
    obtain ⟨i1, r1, p1, _⟩ := I.tuple h1
    obtain ⟨i2, r2, p2, _⟩ := I.list h2
    exact SeqAt.RcAt.tuple_list p1 p2.isList hu
  | ls h1 hs =>
    cases rx
    obtain ⟨i1, r1, p1, _⟩ := I.list h1
    cases y with
    | non => cases ry; exact SeqAt.RcAt.list_none p1.isList hu
    | bl b => cases ry; exact SeqAt.RcAt.list_bool _ p1.isList hu
    | int i => obtain ⟨t, rfl⟩ := ry; exact SeqAt.RcAt.list_int _ _ p1.isList hu
    | str z => obtain ⟨t, rfl⟩ := ry; exact SeqAt.RcAt.list_str _ _ p1.isList hu
    | _ => cases hs
  | sl h1 hs =>
    cases ry
    obtain ⟨i1, r1, p1, _⟩ := I.list h1
    cases x with
    | non => cases rx; exact SeqAt.RcAt.none_list p1.isList hu
    | bl b => cases rx; exact SeqAt.RcAt.bool_list _ p1.isList hu
    | int i => obtain ⟨t, rfl⟩ := rx; exact SeqAt.RcAt.int_list _ _ p1.isList hu
    | str z => obtain ⟨t, rfl⟩ := rx; exact SeqAt.RcAt.str_list _ _ p1.isList hu
    | _ => cases hs
  | ts h1 hs =>
    cases rx
    obtain ⟨i1, r1, p1, _⟩ := I.tuple h1
    cases y with
    | non => cases ry; exact SeqAt.RcAt.tuple_none p1 hu
    | bl b => cases ry; exact SeqAt.RcAt.tuple_bool _ p1 hu
    | int i => obtain ⟨t, rfl⟩ := ry; exact SeqAt.RcAt.tuple_int _ _ p1 hu
    | str z => obtain ⟨t, rfl⟩ := ry; exact SeqAt.RcAt.tuple_str _ _ p1 hu
    | _ => cases hs
  | st h1 hs =>
    cases ry
    obtain ⟨i1, r1, p1, _⟩ := I.tuple h1
    cases x with
    | non => cases rx; exact SeqAt.RcAt.none_tuple p1 hu
    | bl b => cases rx; exact SeqAt.RcAt.bool_tuple _ p1 hu
    | int i => obtain ⟨t, rfl⟩ := rx; exact SeqAt.RcAt.int_tuple _ _ p1 hu
    | str z => obtain ⟨t, rfl⟩ := rx; exact SeqAt.RcAt.str_tuple _ _ p1 hu
    | _ => cases hs
theorem EqR.runNe (I : Inv X pins σ H s) {E : V → V → Bool → Prop} {A : Around} (hu : A.units < cLine) (ih : ∀ {x y : V} {b : Bool} {v u : Value}, E x y b → RelV x v → RelV y u → SeqAt.EqAt A.in1 s v u b)
    {x y : V} {b : Bool} {v u : Value} (h : EqR X.K H E x y b) (rx : RelV x v) (ry : RelV y u) : SeqAt.RcNeAt A s v u (!b) := by
  cases h with
  | sc h => exact sc_ne h rx ry
  | bi a j => cases rx; obtain ⟨t, rfl⟩ := ry; exact SeqAt.RcNeAt.bool_int _ _ _
  | ib i b => cases ry; obtain ⟨t, rfl⟩ := rx; exact SeqAt.RcNeAt.int_bool _ _ _
  | ll h1 h2 hn =>
    cases rx; cases ry
    obtain ⟨i1, r1, p1, _⟩ := I.list h1
    obtain ⟨i2, r2, p2, _⟩ := I.list h2
    refine SeqAt.RcNeAt.lists_lengths p1.isList p2.isList ?_ hu
    have e1 := r1.length
    have e2 := r2.length
    simp only [List.size_toArray, bne_iff_ne]
    omega
  | @lst a b xs ys e h1 h2 hl hz =>
    cases rx; cases ry
    obtain ⟨i1, r1, p1, _⟩ := I.list h1
    obtain ⟨i2, r2, p2, _⟩ := I.list h2
    have e1 := r1.length
    have e2 := r2.length
    have el := hz.len
    have q := SeqAt.RcNeAt.lists (A := A) (e := fun i => e.getD i false) p1.isList p2.isList (by simp only [List.size_toArray]; omega) hu
      (fun j h1 h2 => hz.run ih r1 r2 j (by simpa using h1) (by simpa using h2))
    rw [show i1.toArray.size = e.length by simp only [List.size_toArray]; omega, range_all] at q
    exact q
  | @tup a b xs ys e h1 h2 hz =>
    cases rx; cases ry
    obtain ⟨i1, r1, p1, _⟩ := I.tuple h1
    obtain ⟨i2, r2, p2, _⟩ := I.tuple h2
    have e1 := r1.length
    have e2 := r2.length
    have el := hz.len
    have q := SeqAt.RcNeAt.tuples (A := A) (e := fun i => e.getD i false) p1 p2 hu
      (fun j h1 h2 => hz.run ih r1 r2 j (by simpa using h1) (by simpa using h2))
    rw [show min i1.toArray.size i2.toArray.size = e.length by simp only [List.size_toArray]; omega, range_all] at q
    have q2 : (i1.toArray.size == i2.toArray.size) = decide (xs.length = ys.length) := by
      rw [Bool.beq_eq_decide_eq]
      simp only [List.size_toArray]
      rw [e1, e2]
    rw [q2] at q
    exact q
  | lt h1 h2 =>
    cases rx; cases ry
    obtain ⟨i1, r1, p1, _⟩ := I.list h1
    obtain ⟨i2, r2, p2, _⟩ := I.tuple h2
    exact SeqAt.RcNeAt.list_tuple p1.isList p2 hu
  | tl h1 h2 =>
    cases rx; cases ry
    obtain ⟨i1, r1, p1, _⟩ := I.tuple h1
    obtain ⟨i2, r2, p2, _⟩ := I.list h2
    exact SeqAt.RcNeAt.tuple_list p1 p2.isList hu
  | ls h1 hs =>
    cases rx
    obtain ⟨i1, r1, p1, _⟩ := I.list h1
    cases y with
    | non => cases ry; exact SeqAt.RcNeAt.list_none p1.isList hu
    | bl b => cases ry; exact SeqAt.RcNeAt.list_bool _ p1.isList hu
    | int i => obtain ⟨t, rfl⟩ := ry; exact SeqAt.RcNeAt.list_int _ _ p1.isList hu
    | str z => obtain ⟨t, rfl⟩ := ry; exact SeqAt.RcNeAt.list_str _ _ p1.isList hu
    | _ => cases hs
  | sl h1 hs =>
    cases ry
    obtain ⟨i1, r1, p1, _⟩ := I.list h1
    cases x with
    | non => cases rx; exact SeqAt.RcNeAt.none_list p1.isList hu
    | bl b => cases rx; exact SeqAt.RcNeAt.bool_list _ p1.isList hu
    | int i => obtain ⟨t, rfl⟩ := rx; exact SeqAt.RcNeAt.int_list _ _ p1.isList hu
    | str z => obtain ⟨t, rfl⟩ := rx; exact SeqAt.RcNeAt.str_list _ _ p1.isList hu
    | _ => cases hs
  | ts h1 hs =>
    cases rx
    obtain ⟨i1, r1, p1, _⟩ := I.tuple h1
    cases y with
    | non => cases ry; exact SeqAt.RcNeAt.tuple_none p1 hu
    | bl b => cases ry; exact SeqAt.RcNeAt.tuple_bool _ p1 hu
    | int i => obtain ⟨t, rfl⟩ := ry; exact SeqAt.RcNeAt.tuple_int _ _ p1 hu
    | str z => obtain ⟨t, rfl⟩ := ry; exact SeqAt.RcNeAt.tuple_str _ _ p1 hu
    | _ => cases hs
  | st h1 hs =>
    cases ry
    obtain ⟨i1, r1, p1, _⟩ := I.tuple h1
    cases x with
    | non => cases rx; exact SeqAt.RcNeAt.none_tuple p1 hu
    | bl b => cases rx; exact SeqAt.RcNeAt.bool_tuple _ p1 hu
    | int i => obtain ⟨t, rfl⟩ := rx; exact SeqAt.RcNeAt.int_tuple _ _ p1 hu
    | str z => obtain ⟨t, rfl⟩ := rx; exact SeqAt.RcNeAt.str_tuple _ _ p1 hu
    | _ => cases hs
theorem EqI.run (I : Inv X pins σ H s) : ∀ {n : Nat} {A : Around}, A.units + n < cLine → ∀ {x y : V} {b : Bool} {v u : Value}, EqI X.K H n x y b → RelV x v → RelV y u → SeqAt.EqAt A s v u b
  | 0, _, _, _, _, _, _, _, h, _, _ => h.elim
  | n + 1, A, hu, x, y, b, v, u, h, rx, ry => by
    have hu1 : A.units < cLine := by omega
    rcases h with ⟨a, rfl, rfl, rfl⟩ | ⟨h, hn⟩
    · cases rx; cases ry; exact SeqAt.EqAt.same _
    · have ih : ∀ {x y : V} {b : Bool} {v u : Value}, EqI X.K H n x y b → RelV x v → RelV y u → SeqAt.EqAt A.in1 s v u b := EqI.run I (by show A.units + 1 + n < cLine; omega)
      by_cases hr : ∃ a b, x = V.ref a ∧ y = V.ref b
      · obtain ⟨a, b, rfl, rfl⟩ := hr
        have k := h.run I hu1 ih rx ry
        cases rx; cases ry
        exact SeqAt.EqAt.of_refs (fun e => hn a rfl (by rw [e])) k
      · have hu := hu1
        cases h with
        | sc h => exact sc_eq h rx ry
        | bi a j => cases rx; obtain ⟨t, rfl⟩ := ry; exact SeqAt.EqAt.bool_int _ _ _
        | ib i b => cases ry; obtain ⟨t, rfl⟩ := rx; exact SeqAt.EqAt.int_bool _ _ _
        | ll _ _ _ => exact absurd ⟨_, _, rfl, rfl⟩ hr
        | lst _ _ _ _ => exact absurd ⟨_, _, rfl, rfl⟩ hr
        | tup _ _ _ => exact absurd ⟨_, _, rfl, rfl⟩ hr
        | lt _ _ => exact absurd ⟨_, _, rfl, rfl⟩ hr
        | tl _ _ => exact absurd ⟨_, _, rfl, rfl⟩ hr
        | ls h1 hs =>
          cases rx
          obtain ⟨i1, r1, p1, _⟩ := I.list h1
          cases y with
          | non => cases ry; exact SeqAt.EqAt.list_none p1.isList hu
          | bl b => cases ry; exact SeqAt.EqAt.list_bool _ p1.isList hu
          | int i => obtain ⟨t, rfl⟩ := ry; exact SeqAt.EqAt.list_int _ _ p1.isList hu
          | str z => obtain ⟨t, rfl⟩ := ry; exact SeqAt.EqAt.list_str _ _ p1.isList hu
          | _ => cases hs
        | sl h1 hs =>
          cases ry
          obtain ⟨i1, r1, p1, _⟩ := I.list h1
          cases x with
          | non => cases rx; exact SeqAt.EqAt.none_list p1.isList hu
          | bl b => cases rx; exact SeqAt.EqAt.bool_list _ p1.isList hu
          | int i => obtain ⟨t, rfl⟩ := rx; exact SeqAt.EqAt.int_list _ _ p1.isList hu
          | str z => obtain ⟨t, rfl⟩ := rx; exact SeqAt.EqAt.str_list _ _ p1.isList hu
          | _ => cases hs
        | ts h1 hs =>
          cases rx
          obtain ⟨i1, r1, p1, _⟩ := I.tuple h1
          cases y with
          | non => cases ry; exact SeqAt.EqAt.tuple_none p1 hu
          | bl b => cases ry; exact SeqAt.EqAt.tuple_bool _ p1 hu
          | int i => obtain ⟨t, rfl⟩ := ry; exact SeqAt.EqAt.tuple_int _ _ p1 hu
          | str z => obtain ⟨t, rfl⟩ := ry; exact SeqAt.EqAt.tuple_str _ _ p1 hu
          | _ => cases hs
        | st h1 hs =>
          cases ry
          obtain ⟨i1, r1, p1, _⟩ := I.tuple h1
          cases x with
          | non => cases rx; exact SeqAt.EqAt.none_tuple p1 hu
          | bl b => cases rx; exact SeqAt.EqAt.bool_tuple _ p1 hu
          | int i => obtain ⟨t, rfl⟩ := rx; exact SeqAt.EqAt.int_tuple _ _ p1 hu
          | str z => obtain ⟨t, rfl⟩ := rx; exact SeqAt.EqAt.str_tuple _ _ p1 hu
          | _ => cases hs

/-- x == y, x != y -/
def rEqG (K : PySem.W.Frag) : R2 := fun x y H Q => ∃ b, EqR K H (EqI K H 60) x y b ∧ Q (.bl b) H
def rNeG (K : PySem.W.Frag) : R2 := fun x y H Q => ∃ b, EqR K H (EqI K H 60) x y b ∧ Q (.bl (!b)) H
theorem op_eqG (hu : X.A.units + 64 < cLine) : OpR X (compareOp .Eq) (rEqG X.K) := by
  intro pins s σ H x y v u Q I rx ry h
  obtain ⟨b, e, q⟩ := h
  exact e.run I (A := X.A) (by omega) (EqI.run I (by show X.A.units + 1 + 60 < cLine; omega)) rx ry X.prog X.w _ _ ⟨.bl b, H, I, rfl, q⟩
theorem op_neG (hu : X.A.units + 64 < cLine) : OpR X (compareOp .NotEq) (rNeG X.K) := by
  intro pins s σ H x y v u Q I rx ry h
  obtain ⟨b, e, q⟩ := h
  exact e.runNe I (A := X.A) (by omega) (EqI.run I (by show X.A.units + 1 + 60 < cLine; omega)) rx ry X.prog X.w _ _ ⟨.bl (!b), H, I, rfl, q⟩
end
end Z

/-! L3: wide rules (one rule a construct, whatever the kinds of its operands), and steps for their readings -/
namespace Z
open PySem PySem.Spec PyProof.Rows L2 Evl

/-! ### wide relations -/
def rAddA (K : PySem.W.Frag) : R2 := fun x y H Q => (∃ i j, x = .int i ∧ y = .int j ∧ Q (.int (i + j)) H) ∨ (∃ i j, x = .str i ∧ y = .str j ∧ i.length + j.length ≤ sizeLine ∧ Q (.str (i ++ j)) H) ∨ rCat x y H Q ∨ L2.rCatA K x y H Q
def rSubA : R2 := fun x y H Q => ∃ i j, x = .int i ∧ y = .int j ∧ Q (.int (i - j)) H
def rMulS : R2 := fun x y H Q => ∃ z n, x = .str z ∧ y = .int n ∧ MulOk z n ∧ Q (.str (Txt.mul z n)) H
def rMulA : R2 := fun x y H Q => (∃ i j, x = .int i ∧ y = .int j ∧ CMulW i j ∧ Q (.int (i * j)) H) ∨ rMulS x y H Q ∨ rRep x y H Q
def rDivA : R2 := fun x y H Q => ∃ i j, x = .int i ∧ y = .int j ∧ CDivW i j ∧ Q (.int (i / j)) H
def rModA : R2 := fun x y H Q => ∃ i j, x = .int i ∧ y = .int j ∧ 0 < j ∧ Q (.int (i % j)) H
def rPowA : R2 := fun x y H Q => ∃ i j, x = .int i ∧ y = .int j ∧ CPow i j ∧ Q (.int (i ^ j.toNat)) H
def rEqA (K : PySem.W.Frag) : R2 := fun x y H Q => rEq x y H Q ∨ rEqG K x y H Q ∨ rEqD K x y H Q
def rNeA (K : PySem.W.Frag) : R2 := fun x y H Q => rNe x y H Q ∨ rNeG K x y H Q ∨ rNeD K x y H Q
def rLtA : R2 := fun x y H Q => (∃ i j, x = .int i ∧ y = .int j ∧ Q (.bl (decide (i < j))) H) ∨ (∃ i j, x = .str i ∧ y = .str j ∧ Q (.bl (decide (i.cps.toList < j.cps.toList))) H)
def rLeA : R2 := fun x y H Q => (∃ i j, x = .int i ∧ y = .int j ∧ Q (.bl (decide (i ≤ j))) H) ∨ (∃ i j, x = .str i ∧ y = .str j ∧ Q (.bl (!decide (j.cps.toList < i.cps.toList))) H)
def rGtA : R2 := fun x y H Q => (∃ i j, x = .int i ∧ y = .int j ∧ Q (.bl (decide (j < i))) H) ∨ (∃ i j, x = .str i ∧ y = .str j ∧ Q (.bl (decide (j.cps.toList < i.cps.toList))) H)
def rGeA : R2 := fun x y H Q => (∃ i j, x = .int i ∧ y = .int j ∧ Q (.bl (decide (j ≤ i))) H) ∨ (∃ i j, x = .str i ∧ y = .str j ∧ Q (.bl (!decide (i.cps.toList < j.cps.toList))) H)
def rIsA : R2 := fun x y H Q => (y = .non ∧ Q (.bl (decide (x = .non))) H) ∨ rIsB x y H Q ∨ (∃ a b oa ob, x = .ref a ∧ y = .ref b ∧ H a = some oa ∧ isObj oa = true ∧ H b = some ob ∧ isObj ob = true ∧ Q (.bl (decide (a = b))) H)
def rNotA : R2 := fun x y H Q => (y = .non ∧ Q (.bl (!decide (x = .non))) H) ∨ rNotB x y H Q ∨ (∃ a b oa ob, x = .ref a ∧ y = .ref b ∧ H a = some oa ∧ isObj oa = true ∧ H b = some ob ∧ isObj ob = true ∧ Q (.bl (!decide (a = b))) H)
def rInA (K : PySem.W.Frag) : R2 := fun x y H Q => (∃ (c : Nat) (z : Str), x = .str ⟨#[c]⟩ ∧ y = .str z ∧ Q (.bl (decide (c ∈ z.cps.toList))) H) ∨ rIn K false x y H Q ∨ (∃ i j, x = .str i ∧ y = .str j ∧ Q (.bl (!(Builtin.Str.occurrences j i 0 j.length 1).isEmpty)) H)
def rNinA (K : PySem.W.Frag) : R2 := fun x y H Q => (∃ (c : Nat) (z : Str), x = .str ⟨#[c]⟩ ∧ y = .str z ∧ Q (.bl (!decide (c ∈ z.cps.toList))) H) ∨ rIn K true x y H Q ∨ (∃ i j, x = .str i ∧ y = .str j ∧ Q (.bl (!(!(Builtin.Str.occurrences j i 0 j.length 1).isEmpty))) H)
def rSlA (K : PySem.W.Frag) : V → Option Int → Option Int → Hp → VK → Prop := fun x lo hi H Q => rSlS x lo hi H Q ∨ rSlL K x lo hi H Q ∨ L2.rSlA K x lo hi H Q
def rLenA (K : PySem.W.Frag) : List V → Hp → VK → Prop := fun xs H Q => (∃ x n, xs = [x] ∧ LenV K x H n ∧ Q (.int n) H) ∨ (∃ a kvs, xs = [V.ref a] ∧ H a = some (.dK kvs) ∧ Q (.int kvs.length) H)
def rMaxA (K : PySem.W.Frag) : List V → Hp → VK → Prop := fun xs H Q => (∃ i j, xs = [.int i, .int j] ∧ Q (.int (if j > i then j else i)) H) ∨ rMax K xs H Q
def rMinA (K : PySem.W.Frag) : List V → Hp → VK → Prop := fun xs H Q => (∃ i j, xs = [.int i, .int j] ∧ Q (.int (if j < i then j else i)) H) ∨ rMin K xs H Q
def rJoinA (K : PySem.W.Frag) : V → List V → Hp → VK → Prop := fun x xs H Q => ∃ a p, ∃ ys : List Str, x = .str a ∧ xs = [.ref p] ∧ (SqL K H p (ys.map V.str) ∨ SqT K H p (ys.map V.str)) ∧ (ys.map (·.length)).sum + ys.length * a.length ≤ 16777216 ∧ Q (.str (Txt.join a ys)) H
def rUpper : V → List V → Hp → VK → Prop := fun x xs H Q => ∃ a, x = .str a ∧ xs = [] ∧ a.length ≤ 5592405 ∧ Q (.str (Txt.upper a)) H
def iAny (K : PySem.W.Frag) (te : TE) : TI := fun σ H R => iList K te σ H R ∨ iTup K te σ H R ∨ iStr te σ H R

section
variable {X : Cx}
theorem op_addA : OpR X (binaryOp .Add) (rAddA X.K) := op_add.or (op_add_str.or (op_cat.or op_catA))
theorem op_subA : OpR X (binaryOp .Sub) rSubA := op_sub
theorem op_mulS : OpR X (binaryOp .Mult) rMulS := by
  intro pins s σ H x y v u Q I rx ry h
  obtain ⟨i, j, rfl, rfl, hz, q⟩ := h
  obtain ⟨t, rfl⟩ := rx
  obtain ⟨t', rfl⟩ := ry
  exact SB.mul hz fun t' k => ⟨.str _, H, I.tok _, ⟨_, rfl⟩, q⟩
theorem op_mulA : OpR X (binaryOp .Mult) rMulA := op_mulW.or (op_mulS.or op_rep)
theorem op_divA : OpR X (binaryOp .FloorDiv) rDivA := op_fdivW
theorem op_modA : OpR X (binaryOp .Mod) rModA := op_mod
theorem op_powA : OpR X (binaryOp .Pow) rPowA := op_pow
theorem op_eqA (hu : X.A.units + 64 < cLine) : OpR X (compareOp .Eq) (rEqA X.K) := op_eq.or ((op_eqG hu).or (op_eqD hu))
theorem op_neA (hu : X.A.units + 64 < cLine) : OpR X (compareOp .NotEq) (rNeA X.K) := op_ne.or ((op_neG hu).or (op_neD hu))
theorem op_ltA : OpR X (compareOp .Lt) rLtA := op_lt.or op_lt_str
theorem op_leA : OpR X (compareOp .LtE) rLeA := op_le.or op_le_str
theorem op_gtA : OpR X (compareOp .Gt) rGtA := op_gt.or op_gt_str
theorem op_geA : OpR X (compareOp .GtE) rGeA := op_ge.or op_ge_str
theorem op_isA : OpR X (compareOp .Is) rIsA := op_isN.or (op_isBl.or op_is_ref)
theorem op_notA : OpR X (compareOp .IsNot) rNotA := op_notN.or (op_notBl.or op_isnot_ref)
theorem op_inA : OpR X (compareOp .In) (rInA X.K) := op_in_sign.or (op_in_seq.or op_in_str)
theorem op_ninA : OpR X (compareOp .NotIn) (rNinA X.K) := op_notIn_sign.or (op_notIn_seq.or op_notIn_str)
theorem sl_A : SlR X (rSlA X.K) := sl_str.or (sl_list.or sl_tupA)
theorem call_lenA : CallR X (.builtin "len") (rLenA X.K) := call_len.or call_lenD
theorem call_maxA (hc : X.calm = true) : CallR X (.builtin "max") (rMaxA X.K) := (call_max2 hc).or (cr_max hc)
theorem call_minA (hc : X.calm = true) : CallR X (.builtin "min") (rMinA X.K) := (call_min2 hc).or (cr_min hc)
theorem PI.or {tg iter : Expr} {w1 w2 : TI} (h1 : PI X tg iter w1) (h2 : PI X tg iter w2) : PI X tg iter (fun σ H R => w1 σ H R ∨ w2 σ H R) :=
  ⟨fun pins s σ H R I h => h.elim (h1.run pins s σ H R I) (h2.run pins s σ H R I)⟩
theorem pi_any {tg e : Expr} {te : TE} (he : PE X e te) : PI X tg e (iAny X.K te) := PI.or (pi_list he) (PI.or (pi_tup he) (pi_str he))
theorem pe_gint {x : Str} {i : Int} {pos : Pos} (hg : Gl X x) (hm : ∃ t, X.mg x = some (.int i t)) (hd : (x == ("__debug__" : Str)) = false := by decide) : PE X (.Name x pos) (tC (.int i)) :=
  let ⟨t, h⟩ := hm
  pe_glob hg h ⟨t, rfl⟩ hd
theorem pe_gstr {x : Str} {i : Str} {pos : Pos} (hg : Gl X x) (hm : ∃ t, X.mg x = some (.str i t)) (hd : (x == ("__debug__" : Str)) = false := by decide) : PE X (.Name x pos) (tC (.str i)) :=
  let ⟨t, h⟩ := hm
  pe_glob hg h ⟨t, rfl⟩ hd
end

/-! ### a def behind the top, its promise -/
structure Fok (P : Program) (w : World) (K : PySem.W.Frag) (mg : Str → Option Value) (base : Heap) (CX : CXT) (k : Nat) (x : Str) (ps : List Str) (sp : Sp) : Prop where
  ex : ∃ fd, FnOk P w K mg base CX k (He.ga K x) fd ps sp ∧ Binds K fd ps []
  hm : mg x = some (.ref (He.ga K x))
  kp : PySem.W.keepIn K (.ref (He.ga K x)) = true
theorem pe_callF {X : Cx} {CX : CXT} {k : Nat} {x : Str} {ps : List Str} {sp : Sp} {E : XK} {e : Expr} {es : List Expr} {t : TA} {p pos : Pos} (F : Fok X.prog X.w X.K X.mg X.base CX k x ps sp) (hr : Room k X.A) (hg : Gl X x) (hx : Passes CX X E)
    (ha : PA X (e :: es) t) (hdb : (x == ("__debug__" : Str)) = false := by decide) (he : starEach (e :: es) X.env = (false, eval e X.env) :: starEach es X.env := by rfl) (hpl : (backTo pos (starEach es X.env)).any (·.1) = false := by rfl) :
    PE X (.Call (.Name x p) (e :: es) [] pos) (tCall sp [] E t) :=
  let ⟨_, h1, h2⟩ := F.ex
  pe_call h1 hr hg F.hm F.kp h2 .nil hx ha hdb he hpl

/-! ### heaps -/
/-- all but the object at p is as it was -/
def But (p : Addr) (H H' : Hp) : Prop := ∀ a o, H a = some o → a ≠ p → H' a = some o
theorem Ex.but {p : Addr} {H H' : Hp} (e : Ex H H') : But p H H' := fun a o h _ => e a o h
theorem But.refl {p : Addr} {H : Hp} : But p H H := fun _ _ h _ => h
theorem But.trans {p : Addr} {H H1 H2 : Hp} (a : But p H H1) (b : But p H1 H2) : But p H H2 := fun x o h n => b x o (a x o h n) n
theorem But.ex {p : Addr} {H H1 H2 : Hp} (a : But p H H1) (b : Ex H1 H2) : But p H H2 := fun x o h n => b x o (a x o h n)
theorem But.new {p q : Addr} {H H1 : Hp} {o : HO} (a : But p H H1) (h : H1 q = none) : But p H (upd H1 q o) := a.ex (Ex.new h)
theorem But.set {p : Addr} {H H1 : Hp} {o : HO} (a : But p H H1) : But p H (upd H1 p o) := fun x o h n => by
  rw [upd_ne n]
  exact a x o h n
theorem look_new {H : Hp} {a b : Addr} {o u : HO} (h : H a = some o) (hn : H b = none) : upd H b u a = some o := Ex.new hn _ _ h
theorem look_mut {H : Hp} {a b : Addr} {o u : HO} (h : H a = some o) (hn : a ≠ b) : upd H b u a = some o := by
  rw [upd_ne hn]
  exact h
theorem look_ex {H H' : Hp} {a : Addr} {o : HO} (s : Ex H H') (h : H a = some o) : H' a = some o := s _ _ h
theorem look_but {H H' : Hp} {a p : Addr} {o : HO} (s : But p H H') (h : H a = some o) (n : a ≠ p) : H' a = some o := s _ _ h n
theorem ne_back {H : Hp} {a b : Addr} {o : HO} (h : H a = some o) (h' : H b = none) : b ≠ a := fun e => ne_of_none h h' e.symm

theorem len_ok {n : Nat} (h : n ≤ 16777216) : n ≤ sizeLine := by
  rw [sizeLine_eq]
  exact h
/-! ### steps -/
section
variable {K : PySem.W.Frag} {σ : L2.St} {H : Hp} {Q : VK} {ta tb : TE} {x y v : V}
theorem s_var {i : Nat} (h : σ[i]? = some (some v)) (q : Q v H) : tVar i σ H Q := ⟨v, h, q⟩
theorem s_c (q : Q v H) : tC v σ H Q := q
theorem s_op {r : R2} (h : ta σ H fun x H1 => tb σ H1 fun y H2 => r x y H2 Q) : tOp r ta tb σ H Q := h
theorem s_un {r : V → Hp → VK → Prop} (h : ta σ H fun x H1 => r x H1 Q) : tUn r ta σ H Q := h
theorem s_rU {g : Int → V} {i : Int} (q : Q (g i) H) : rU g (.int i) H Q := ⟨i, rfl, q⟩
theorem s_cb {r : List V → Hp → VK → Prop} {t : TA} (h : t σ H fun vs H1 => r vs H1 Q) : tCB r t σ H Q := h
theorem s_call {sp : Sp} {E : XK} {t : TA} (h : t σ H fun vs H1 => sp vs H1 Q E) : tCall sp [] E t σ H Q := by
  show t σ H fun vs H1 => sp (vs ++ []) H1 Q E
  simp only [List.append_nil]
  exact h
theorem s_if {t : TT} (h : t σ H fun c H1 => if c = true then ta σ H1 Q else tb σ H1 Q) : tIf t ta tb σ H Q := h
theorem s_andV (h : ta σ H fun x H1 => ∃ c, x = .bl c ∧ if c = true then tb σ H1 Q else Q (.bl false) H1) : tAndV ta tb σ H Q := h
theorem s_orV (h : ta σ H fun x H1 => ∃ c, x = .bl c ∧ if c = true then Q (.bl true) H1 else tb σ H1 Q) : tOrV ta tb σ H Q := h
theorem s_notV (h : ta σ H fun x H1 => ∃ c, x = .bl c ∧ Q (.bl (!c)) H1) : tNotV ta σ H Q := h
theorem s_bl {c : Bool} {R : Bool → Prop} (h : R c) : ∃ d, V.bl c = .bl d ∧ R d := ⟨c, rfl, h⟩
theorem s_chain {r r' : R2} {tc : TE} (h : ta σ H fun x H1 => tb σ H1 fun y H2 => r x y H2 fun z H3 => ∃ k, z = .bl k ∧ (if k = true then tc σ H3 fun w' H4 => r' y w' H4 Q else Q (.bl false) H3)) : tChain r r' ta tb tc σ H Q := h
theorem s_lst {t : TA} (h : t σ H fun xs H1 => xs.length ≤ sizeLine ∧ ∀ p, H1 p = none → Q (.ref p) (upd H1 p (.lst xs))) : tLst t σ H Q := h
theorem s_tup {t : TA} (h : t σ H fun xs H1 => xs.length ≤ sizeLine ∧ ∀ p, H1 p = none → Q (.ref p) (upd H1 p (.tup xs))) : tTup t σ H Q := h
theorem s_sl {r : V → Option Int → Option Int → Hp → VK → Prop} {tl th : TO} (h : ta σ H fun x H1 => tl σ H1 fun l H2 => th σ H2 fun u H3 => r x l u H3 Q) : tSl r ta tl th σ H Q := h
theorem s_m0 {r : V → List V → Hp → VK → Prop} {z : Str} (h : r (.str z) [] H Q) : (fun (x : V) H1 => (∃ a, x = .str a) ∧ r x [] H1 Q) (.str z) H := ⟨⟨z, rfl⟩, h⟩
section
variable {R : Bool → Hp → Prop} {t u : TT}
theorem s_test (h : ta σ H fun x H' => ∃ k, x = .bl k ∧ R k H') : tTest ta σ H R := h
theorem s_B (h : ta σ H fun x H' => ∃ k, x = .bl k ∧ R k H') : tB ta σ H R := h
theorem s_and (h : t σ H fun c H1 => if c = true then u σ H1 R else R false H1) : tAnd t u σ H R := h
theorem s_or (h : t σ H fun c H1 => if c = true then R true H1 else u σ H1 R) : tOr t u σ H R := h
theorem s_not (h : t σ H fun c H1 => R (!c) H1) : tNot t σ H R := h
theorem s_yes (h : R true H) : tYes σ H R := h
end
section
variable {R : List V → Hp → Prop} {t : TA}
theorem s_nil (h : R [] H) : tNil σ H R := h
theorem s_cons (h : ta σ H fun x H1 => t σ H1 fun xs H2 => R (x :: xs) H2) : tCons ta t σ H R := h
end
section
variable {R : Option Int → Hp → Prop}
theorem s_nopart (h : R none H) : tNoPart σ H R := h
theorem s_part (h : ta σ H fun x H1 => ∃ i, x = .int i ∧ R (some i) H1) : tPart ta σ H R := h
theorem s_int {i : Int} {R : Int → Prop} (h : R i) : ∃ j, V.int i = .int j ∧ R j := ⟨i, rfl, h⟩
end
theorem s_itet {b : Bool} {A B : Prop} (e : b = true) (h : A) : if b = true then A else B := by
  rw [if_pos e]
  exact h
theorem s_itef {b : Bool} {A B : Prop} (e : b = false) (h : B) : if b = true then A else B := by
  rw [e]
  exact iteF h
/-- what a part gives, whatever follows -/
theorem via {te : TE} (R : V → Hp → Prop) (h : ∀ F : VK, (∀ v H', R v H' → F v H') → te σ H F) (q : ∀ v H', R v H' → Q v H') : te σ H Q := h Q q
theorem ite_via {c : Prop} [Decidable c] {t1 t2 : TE} (R : V → Hp → Prop) (h1 : c → ∀ F : VK, (∀ v H', R v H' → F v H') → t1 σ H F) (h2 : ¬ c → ∀ F : VK, (∀ v H', R v H' → F v H') → t2 σ H F) (q : ∀ v H', R v H' → Q v H') :
    if c then t1 σ H Q else t2 σ H Q := ite2 (fun h => h1 h Q q) (fun h => h2 h Q q)
/-! operators by kinds -/
theorem s_addI {i j : Int} (q : Q (.int (i + j)) H) : rAddA K (.int i) (.int j) H Q := .inl ⟨i, j, rfl, rfl, q⟩
theorem s_addS {i j : Str} (h : i.length + j.length ≤ sizeLine) (q : Q (.str (i ++ j)) H) : rAddA K (.str i) (.str j) H Q := .inr (.inl ⟨i, j, rfl, rfl, h, q⟩)
theorem s_addL {a b : Addr} {xs ys : List V} (ha : H a = some (.lst xs)) (hb : H b = some (.lst ys)) (h : xs.length + ys.length ≤ sizeLine) (q : ∀ p, H p = none → Q (.ref p) (upd H p (.lst (xs ++ ys)))) : rAddA K (.ref a) (.ref b) H Q :=
  .inr (.inr (.inl ⟨a, b, xs, ys, rfl, rfl, ha, hb, h, q⟩))
theorem s_addT {a b : Addr} {xs ys : List V} (ha : H a = some (.tup xs)) (hb : H b = some (.tup ys)) (hx : xs ≠ []) (hy : ys ≠ []) (h : xs.length + ys.length ≤ sizeLine) (q : ∀ p, H p = none → Q (.ref p) (upd H p (.tup (xs ++ ys)))) : rAddA K (.ref a) (.ref b) H Q :=
  .inr (.inr (.inr ⟨a, b, xs, ys, rfl, rfl, SqT.of ha, SqT.of hb, h, fun e => absurd e hx, fun _ e => absurd e hy, fun _ _ => q⟩))
theorem s_subI {i j : Int} (q : Q (.int (i - j)) H) : rSubA (.int i) (.int j) H Q := ⟨i, j, rfl, rfl, q⟩
theorem s_mulI {i j : Int} (h : CMulW i j) (q : Q (.int (i * j)) H) : rMulA (.int i) (.int j) H Q := .inl ⟨i, j, rfl, rfl, h, q⟩
theorem s_mulS {z : Str} {n : Int} (h : MulOk z n) (q : Q (.str (Txt.mul z n)) H) : rMulA (.str z) (.int n) H Q := .inr (.inl ⟨z, n, rfl, rfl, h, q⟩)
theorem s_divI {i j : Int} (h : CDivW i j) (q : Q (.int (i / j)) H) : rDivA (.int i) (.int j) H Q := ⟨i, j, rfl, rfl, h, q⟩
theorem s_modI {i j : Int} (h : 0 < j) (q : Q (.int (i % j)) H) : rModA (.int i) (.int j) H Q := ⟨i, j, rfl, rfl, h, q⟩
theorem s_powI {i j : Int} (h : CPow i j) (q : Q (.int (i ^ j.toNat)) H) : rPowA (.int i) (.int j) H Q := ⟨i, j, rfl, rfl, h, q⟩
theorem s_eqS (h : scal x y = true) (q : Q (.bl (decide (x = y))) H) : rEqA K x y H Q := .inl ⟨h, q⟩
theorem s_neS (h : scal x y = true) (q : Q (.bl (!decide (x = y))) H) : rNeA K x y H Q := .inl ⟨h, q⟩
theorem s_eqD {d e : PyData} (hd : Dp K H x d) (he : Dp K H y e) (sd : SeqAt.shaped d = true) (se : SeqAt.shaped e = true) (q : Q (.bl (PyData.eqv d e)) H) : rEqA K x y H Q := .inr (.inr ⟨d, e, hd, he, sd, se, q⟩)
theorem s_neD {d e : PyData} (hd : Dp K H x d) (he : Dp K H y e) (sd : SeqAt.shaped d = true) (se : SeqAt.shaped e = true) (q : Q (.bl (!PyData.eqv d e)) H) : rNeA K x y H Q := .inr (.inr ⟨d, e, hd, he, sd, se, q⟩)
theorem s_eqG {b : Bool} (h : EqR K H (EqI K H 60) x y b) (q : Q (.bl b) H) : rEqA K x y H Q := .inr (.inl ⟨b, h, q⟩)
theorem s_neG {b : Bool} (h : EqR K H (EqI K H 60) x y b) (q : Q (.bl (!b)) H) : rNeA K x y H Q := .inr (.inl ⟨b, h, q⟩)
/-- a list against the empty one -/
theorem eq_nil {K : PySem.W.Frag} {H : Hp} {a b : Addr} {xs : List V} {E : V → V → Bool → Prop} (ha : H a = some (.lst xs)) (hb : H b = some (.lst [])) : EqR K H E (.ref a) (.ref b) xs.isEmpty := by
  cases xs with
  | nil => exact .lst (e := []) (SqL.of ha) (SqL.of hb) rfl .nil
  | cons x xs => exact .ll (SqL.of ha) (SqL.of hb) (by simp)
theorem s_eqNil {a b : Addr} {xs : List V} (ha : H a = some (.lst xs)) (hb : H b = some (.lst [])) (q : Q (.bl xs.isEmpty) H) : rEqA K (.ref a) (.ref b) H Q := s_eqG (eq_nil ha hb) q
theorem s_neNil {a b : Addr} {xs : List V} (ha : H a = some (.lst xs)) (hb : H b = some (.lst [])) (q : Q (.bl (!xs.isEmpty)) H) : rNeA K (.ref a) (.ref b) H Q := s_neG (eq_nil ha hb) q
theorem s_ltI {i j : Int} (q : Q (.bl (decide (i < j))) H) : rLtA (.int i) (.int j) H Q := .inl ⟨i, j, rfl, rfl, q⟩
theorem s_leI {i j : Int} (q : Q (.bl (decide (i ≤ j))) H) : rLeA (.int i) (.int j) H Q := .inl ⟨i, j, rfl, rfl, q⟩
theorem s_gtI {i j : Int} (q : Q (.bl (decide (j < i))) H) : rGtA (.int i) (.int j) H Q := .inl ⟨i, j, rfl, rfl, q⟩
theorem s_geI {i j : Int} (q : Q (.bl (decide (j ≤ i))) H) : rGeA (.int i) (.int j) H Q := .inl ⟨i, j, rfl, rfl, q⟩
theorem s_isN (q : Q (.bl (decide (x = .non))) H) : rIsA x .non H Q := .inl ⟨rfl, q⟩
theorem s_notN (q : Q (.bl (!decide (x = .non))) H) : rNotA x .non H Q := .inl ⟨rfl, q⟩
theorem s_isB {a b : Bool} (q : Q (.bl (decide (a = b))) H) : rIsA (.bl a) (.bl b) H Q := .inr (.inl ⟨a, b, rfl, rfl, q⟩)
theorem s_notB {a b : Bool} (q : Q (.bl (!decide (a = b))) H) : rNotA (.bl a) (.bl b) H Q := .inr (.inl ⟨a, b, rfl, rfl, q⟩)
theorem s_in1 {c : Nat} {z : Str} (q : Q (.bl (decide (c ∈ z.cps.toList))) H) : rInA K (.str ⟨#[c]⟩) (.str z) H Q := .inl ⟨c, z, rfl, rfl, q⟩
theorem s_nin1 {c : Nat} {z : Str} (q : Q (.bl (!decide (c ∈ z.cps.toList))) H) : rNinA K (.str ⟨#[c]⟩) (.str z) H Q := .inl ⟨c, z, rfl, rfl, q⟩
theorem s_ixL {p : Addr} {xs : List V} {i : Int} (h : H p = some (.lst xs)) (ha : atI xs i = some v) (q : Q v H) : rIx K (.ref p) (.int i) H Q := .inl ⟨p, xs, i, v, rfl, rfl, SqL.of h, ha, q⟩
theorem s_ixLK {p : Addr} {xs : List V} {i : Int} (h : SqL K H p xs) (ha : atI xs i = some v) (q : Q v H) : rIx K (.ref p) (.int i) H Q := .inl ⟨p, xs, i, v, rfl, rfl, h, ha, q⟩
theorem s_ixT {p : Addr} {xs : List V} {i : Int} (h : H p = some (.tup xs)) (ha : atI xs i = some v) (q : Q v H) : rIx K (.ref p) (.int i) H Q := .inr (.inl ⟨p, xs, i, v, rfl, rfl, SqT.of h, ha, q⟩)
theorem s_ixS {z : Str} {i : Int} {c : Nat} (h : z.length ≤ sizeLine) (ha : atI z.cps.toList i = some c) (q : Q (.str ⟨#[c]⟩) H) : rIx K (.str z) (.int i) H Q := .inr (.inr ⟨z, i, c, rfl, rfl, h, ha, q⟩)
theorem s_slS {z : Str} {lo hi : Option Int} (h : z.length ≤ sizeLine) (q : Q (.str (cutS z lo hi)) H) : rSlA K (.str z) lo hi H Q := .inl ⟨z, rfl, h, q⟩
theorem s_lenS {z : Str} (h : z.length ≤ sizeLine) (q : Q (.int z.length) H) : rLenA K [.str z] H Q := .inl ⟨_, _, rfl, ⟨h, rfl⟩, q⟩
theorem s_lenL {p : Addr} {xs : List V} (h : H p = some (.lst xs)) (q : Q (.int xs.length) H) : rLenA K [.ref p] H Q := .inl ⟨_, _, rfl, .inl ⟨xs, SqL.of h, rfl⟩, q⟩
theorem s_lenLK {p : Addr} {xs : List V} (h : SqL K H p xs) (q : Q (.int xs.length) H) : rLenA K [.ref p] H Q := .inl ⟨_, _, rfl, .inl ⟨xs, h, rfl⟩, q⟩
theorem s_lenT {p : Addr} {xs : List V} (h : H p = some (.tup xs)) (q : Q (.int xs.length) H) : rLenA K [.ref p] H Q := .inl ⟨_, _, rfl, .inr ⟨xs, SqT.of h, rfl⟩, q⟩
theorem s_max2 {i j : Int} (q : Q (.int (if j > i then j else i)) H) : rMaxA K [.int i, .int j] H Q := .inl ⟨i, j, rfl, q⟩
theorem s_min2 {i j : Int} (q : Q (.int (if j < i then j else i)) H) : rMinA K [.int i, .int j] H Q := .inl ⟨i, j, rfl, q⟩
/-! statements -/
section
variable {D : Ends} {t u : TS} {c : TT} {g : TG}
theorem s_seq (h : t { D with nx := u D } σ H) : tSeq t u D σ H := h
theorem s_cut (Mid : L2.St → Hp → Prop) (h : t { D with nx := Mid } σ H) (k : ∀ σ' H', Mid σ' H' → u D σ' H') : tCut t u D σ H := ⟨Mid, h, k⟩
theorem s_ifS (h : c σ H fun b H1 => if b = true then t D σ H1 else u D σ H1) : tIfS c t u D σ H := h
theorem s_ret (h : ta σ H D.rt) : tRet ta D σ H := h
theorem s_retN (h : D.rt .non H) : tRetN D σ H := h
theorem s_next (h : D.nx σ H) : tNext D σ H := h
theorem s_drop (h : ta σ H fun _ H1 => D.nx σ H1) : tDrop ta D σ H := h
theorem s_asg (h : ta σ H fun x H1 => g x σ H1 D.nx) : tAsg ta g D σ H := h
theorem s_gTup {n : Nat} {gs : TGs} {a : Addr} {xs : List V} {R : L2.St → Hp → Prop} (h : H a = some (.tup xs)) (hn : xs.length = n) (q : gs xs σ H R) : gTup K n gs (.ref a) σ H R := ⟨a, xs, rfl, SqT.of h, hn, q⟩
theorem s_gCons {gs : TGs} {vs : List V} {R : L2.St → Hp → Prop} (q : g v σ H fun σ' H' => gs vs σ' H' R) : gCons g gs (v :: vs) σ H R := ⟨v, vs, rfl, q⟩
theorem s_gNil {R : L2.St → Hp → Prop} (q : R σ H) : gNil [] σ H R := ⟨rfl, q⟩
theorem s_gSub {to ti : TE} {st : TSet} {R : L2.St → Hp → Prop} (q : to σ H fun o H1 => ti σ H1 fun i H2 => st o i v H2 fun H3 => R σ H3) : gSub to ti st v σ H R := q
theorem s_setL {p : Addr} {k : Int} {xs : List V} {j : Nat} {R : Hp → Prop} (h : H p = some (.lst xs)) (hj : ixN xs.length k = some j) (q : R (upd H p (.lst (xs.set j v)))) : rSetL (.ref p) (.int k) v H R := ⟨p, xs, k, j, rfl, rfl, h, hj, q⟩
theorem s_gName {i : Nat} {R : L2.St → Hp → Prop} (h : R (σ.set i (some v)) H) : gName i v σ H R := h
end
end
/-- an item of a menu by a draw -/
theorem at_mem {α : Type} {xs : List α} {d : Int} (h0 : 0 ≤ d) (h1 : d < (xs.length : Int)) : ∃ v, v ∈ xs ∧ atI xs d = some v := by
  have hj : d.toNat < xs.length := by omega
  refine ⟨xs[d.toNat], List.getElem_mem hj, ?_⟩
  have e : ∀ (z : Int) (j : Nat) (v : α), z = (j : Int) → xs[j]? = some v → atI xs z = some v := fun z j v e h => by
    rw [e]
    exact atI_nat h
  exact e d d.toNat _ (by omega) (by simp [hj])
theorem s_menuL {K : PySem.W.Frag} {H : Hp} {Q : VK} {p : Addr} {xs : List V} {i : Int} (h : H p = some (.lst xs)) (h0 : 0 ≤ i) (h1 : i < (xs.length : Int)) (q : ∀ v, v ∈ xs → Q v H) : rIx K (.ref p) (.int i) H Q := by
  obtain ⟨v, hv, e⟩ := at_mem h0 h1
  exact s_ixL h e (q v hv)
theorem s_menuS {K : PySem.W.Frag} {H : Hp} {Q : VK} {z : Str} {i : Int} (h : z.length ≤ sizeLine) (h0 : 0 ≤ i) (h1 : i < (z.cps.toList.length : Int)) (q : ∀ c, c ∈ z.cps.toList → Q (.str ⟨#[c]⟩) H) : rIx K (.str z) (.int i) H Q := by
  obtain ⟨v, hv, e⟩ := at_mem h0 h1
  exact s_ixS h e (q v hv)
end Z

/-! ### facts of one's own in the hook -/
namespace Z
open PySem PySem.Spec PyProof.Rows L2
def eqB {α : Type} [DecidableEq α] (a b : α) : Bool := decide (a = b)
theorem eqB_ok {α : Type} [DecidableEq α] {a b : α} (h : eqB a b = true) : a = b := of_decide_eq_true h
/-- a class over ValueError, by whatever classes of the module -/
def clsB (K : PySem.W.Frag) (C : Addr) : Bool := match K.lookup C with
  | some ⟨.type "type", _, .cls cd, sl⟩ => (match cd.mro, sl.toList with
    | .ref C' :: bm, [_, _, _, _, some (.builtin n), _] => C' == C && (n == "ValueError.__new__" && (!cd.hasDel && (cd.hasDict && PySem.HandSPX.refsVE bm)))
    | _, _ => false)
  | _ => false
theorem clsB_ok {K : PySem.W.Frag} {C : Addr} (q : clsB K C = true) : ∃ nm q N bs bm sn sub ab col dd k0 k1 k2 k3 k5, K.lookup C = some (excClassObj nm q C N bs bm true sn sub ab col dd k0 k1 k2 k3 k5 "ValueError.__new__") ∧ PySem.HandSPX.refsVE bm = true := by
  unfold clsB at q
  split at q
  · rename_i dd cd sl ho
    split at q
    · rename_i C' bm k0 k1 k2 k3 n k5 hm hs
      simp only [Bool.and_eq_true, beq_iff_eq, Bool.not_eq_true'] at q
      obtain ⟨rfl, rfl, hdel, hdict, ht⟩ := q
      obtain ⟨nm, bs, mro, ns, qn, hd, sn, sub, ab, col, del⟩ := cd
      dsimp only at hm hdel hdict
      subst hm hdel hdict
      have hsl : sl = #[k0, k1, k2, k3, some (.builtin "ValueError.__new__"), k5] := by
        obtain ⟨l⟩ := sl
        simp only at hs
        rw [hs]
      subst hsl
      exact ⟨nm, qn, ns, bs, bm, sn, sub, ab, col, dd, k0, k1, k2, k3, k5, ho, ht⟩
    · cases q
  · cases q
abbrev FnS : Type := Option (Str × Str × Arguments × FuncBody × Scope × Addr × List Str × Addr)
/-- a function that closes over cells: the cells' names -/
def fnS (K : PySem.W.Frag) (p : Str × Option Str) : FnS := match K.lookup (He.fAd K p) with
  | some ⟨_, _, .func fd, _⟩ => some (fd.name, fd.qualname, fd.params, fd.body, fd.scope, fd.globals, fd.closure.map (·.1), fd.builtins)
  | _ => none
def initC (P0 : Program) (K : PySem.W.Frag) (C fI : Addr) : Bool := match K.lookup fI with
  | some ⟨_, _, .func fd, _⟩ => (match fd.code, fd.closure, fd.defaults, fd.kwdefaults with
    | .ref cda, [(_, cc)], .none, .none => PySem.W.codeIn K (.ref cda) fd.qualname && ((match K.lookup cc with
      | some ⟨_, _, .cell (some (.ref D)), _⟩ => D == C
      | _ => false) && (match K.lookup cda with
      | some ⟨_, _, .fields vs, _⟩ => (match (vs : Array Value)[2]? with
        | some (Value.str file _) => (P0.main.file : Str) == file
        | _ => false)
      | _ => false))
    | _, _, _, _ => false)
  | _ => false
def initB (P0 : Program) (K : PySem.W.Frag) (x : Str) : Bool :=
  eqB (PySem.W.findIn K (.ref (He.ga K x)) "__init__") (some (some (.ref (He.ma K (He.ga K x) "__init__")))) && (eqB (PySem.W.typeIn K (.ref (He.ma K (He.ga K x) "__init__"))) (some (.type "function")) &&
  ((PySem.W.keepIn K (.ref (He.ga K x)) && (eqB (PySem.W.subIn K (.ref (He.ga K x)) (.type "BaseException")) (some true) && (eqB (PySem.W.subIn K (.ref (He.ga K x)) (.type "ValueError")) (some true) && (eqB (PySem.W.typeIn K (.ref (He.ga K x))) (some (.type "type")) &&
    (eqB (PySem.W.mroIn K (He.ga K x) (.ref (He.ga K x))) (some true) && (eqB (PySem.W.nsIn K cStatics "thirdparty.any") (some none) && eqB (PySem.W.ks_superIn K (He.ga K x) (He.ga K x) "__init__") (some (some (.builtin "ValueError.__init__"))))))))) && initC P0 K (He.ga K x) (He.ma K (He.ga K x) "__init__")))
theorem initB_ok {P0 : Program} {K : PySem.W.Frag} {x : Str} (c : initB P0 K x = true) :
    PySem.W.findIn K (.ref (He.ga K x)) "__init__" = some (some (.ref (He.ma K (He.ga K x) "__init__"))) ∧ PySem.W.typeIn K (.ref (He.ma K (He.ga K x) "__init__")) = some (.type "function") ∧ True ∧ True ∧ True ∧
    (PySem.W.keepIn K (.ref (He.ga K x)) = true ∧ PySem.W.subIn K (.ref (He.ga K x)) (.type "BaseException") = some true ∧ PySem.W.subIn K (.ref (He.ga K x)) (.type "ValueError") = some true ∧ PySem.W.typeIn K (.ref (He.ga K x)) = some (.type "type") ∧
      PySem.W.mroIn K (He.ga K x) (.ref (He.ga K x)) = some true ∧ PySem.W.nsIn K cStatics "thirdparty.any" = some none ∧ PySem.W.ks_superIn K (He.ga K x) (He.ga K x) "__init__" = some (some (.builtin "ValueError.__init__"))) ∧
    ∀ (nm qu : Str) (ps : Arguments) (body : List Stmt) (sc : Scope), fnS K (x, some "__init__") = some (nm, qu, ps, FuncBody.stmts body, sc, mainGlobals, [("__class__" : Str)], builtinsNs) →
      ∃ oc od osl doc pm an cda ct cc, K.lookup (He.ma K (He.ga K x) "__init__") = some ⟨oc, od, .func (PySem.W.ksFn nm qu ps body sc .none .none doc pm an (.ref cda) ct cc), osl⟩ ∧ PySem.W.codeIn K (.ref cda) qu = true ∧
        (∃ cl cld csl, K.lookup cc = some ⟨cl, cld, .cell (some (.ref (He.ga K x))), csl⟩) ∧ (∃ ccl cdd vs ccs file tf, K.lookup cda = some ⟨ccl, cdd, .fields vs, ccs⟩ ∧ vs[2]? = some (.str file tf) ∧ ((P0.main.file : Str) == file) = true) := by
  obtain ⟨c1, c⟩ := He.ba c
  obtain ⟨c2, c⟩ := He.ba c
  obtain ⟨c3, c4⟩ := He.ba c
  obtain ⟨k1, c3⟩ := He.ba c3
  obtain ⟨k2, c3⟩ := He.ba c3
  obtain ⟨k3, c3⟩ := He.ba c3
  obtain ⟨k4, c3⟩ := He.ba c3
  obtain ⟨k5, c3⟩ := He.ba c3
  obtain ⟨k6, k7⟩ := He.ba c3
  refine ⟨eqB_ok c1, eqB_ok c2, trivial, trivial, trivial, ⟨k1, eqB_ok k2, eqB_ok k3, eqB_ok k4, eqB_ok k5, eqB_ok k6, eqB_ok k7⟩, fun nm qu ps body sc e => ?_⟩
  unfold initC at c4
  unfold fnS He.fAd at e
  dsimp only at e
  cases q : K.lookup (He.ma K (He.ga K x) "__init__") with
  | none =>
    rw [q] at c4
    cases c4
  | some o =>
    obtain ⟨oc, od, dt, osl⟩ := o
    rw [q] at c4 e
    cases dt with
    | func fd =>
      obtain ⟨n1, n2, n3, n4, n5, n6, n7, n8, n9, n10, n11, n12, n13, n14, n15⟩ := fd
      have e2 : (some (n1, n2, n3, n4, n5, n6, n7.map (·.1), n15) : FnS) = some (nm, qu, ps, FuncBody.stmts body, sc, mainGlobals, [("__class__" : Str)], builtinsNs) := e
      simp only [Option.some.injEq, Prod.mk.injEq] at e2
      obtain ⟨h1, h2, h3, h4, h5, h6, h7, h8⟩ := e2
      subst h1 h2 h3 h4 h5 h6 h8
      dsimp only at c4
      split at c4
      · rename_i cda cn cc
        obtain ⟨m1, c4⟩ := He.ba c4
        obtain ⟨m2, m3⟩ := He.ba c4
        have hcn : cn = "__class__" := by simpa using h7
        subst hcn
        refine ⟨oc, od, osl, n10, n11, n12, cda, n14, cc, rfl, m1, ?_, ?_⟩
        · split at m2
          · rename_i cl cld D csl hc
            have hD : D = He.ga K x := by simpa using m2
            rw [hD] at hc
            exact ⟨_, _, _, hc⟩
          · cases m2
        · split at m3
          · rename_i ccl cdd vs ccs hc
            split at m3
            · rename_i file tf hv
              exact ⟨_, _, _, _, _, _, hc, hv, m3⟩
            · cases m3
          · cases m3
      · cases c4
    | _ => cases c4
/-! ### the hook -/
abbrev AlX : Type := Bool × (List He.FnW × List FnS)
/-- fs: functions that close over cells, with what they must be; cu: facts of one's own -/
def obsX (fa : List He.Fa) (fn : List He.DefD) (fs : List ((Str × Option Str) × FnS)) (cu : List (PySem.W.Frag → Bool)) (K : PySem.W.Frag) : AlX :=
  ((fa.all fun f => f.ok K) && ((fn.all fun d => d.ok K) && cu.all fun c => c K), (fn.map fun d => He.fnW K d.at_, fs.map fun f => fnS K f.1))
def valX (fn : List He.DefD) (fs : List ((Str × Option Str) × FnS)) : AlX := (true, (fn.map He.DefD.val, fs.map (·.2)))
def SaysX (fa : List He.Fa) (fn : List He.DefD) (fs : List ((Str × Option Str) × FnS)) (cu : List (PySem.W.Frag → Bool)) (K : PySem.W.Frag) : Prop := obsX fa fn fs cu K = valX fn fs
def obsXG (n : Nat) (fa : List He.Fa) (fn : List He.DefD) (fs : List ((Str × Option Str) × FnS)) (cu : List (PySem.W.Frag → Bool)) (g : Addr → Option Obj) : AlX := obsX fa fn fs cu (He.frG g (cStatics :: He.asD g n))
def hookX (n : Nat) (fa : List He.Fa) (fn : List He.DefD) (fs : List ((Str × Option Str) × FnS)) (cu : List (PySem.W.Frag → Bool)) : PySem.W.Hook where
  α := AlX
  obs := fun s => obsXG n fa fn fs cu s.heap.get?
  val := fun _ => valX fn fs
  says := fun _ h => ∃ K : PySem.W.Frag, K.In h ∧ SaysX fa fn fs cu K
  of := fun _ _ e => ⟨_, He.frG_in, e⟩
  keeps := fun _ _ _ ⟨K, hK, c⟩ k => ⟨K, PySem.W.Frag.In.keeps hK k, c⟩
theorem obsXG_eq {n : Nat} {fa : List He.Fa} {fn : List He.DefD} {fs : List ((Str × Option Str) × FnS)} {cu : List (PySem.W.Frag → Bool)} {g : Addr → Option Obj} {s : Shared} (h : ∀ a, g a = s.heap.get? a) : obsXG n fa fn fs cu g = (hookX n fa fn fs cu).obs s := by
  have e : g = s.heap.get? := funext h
  rw [e] <;> rfl
section
variable {fa : List He.Fa} {fn : List He.DefD} {fs : List ((Str × Option Str) × FnS)} {cu : List (PySem.W.Frag → Bool)} {K : PySem.W.Frag}
theorem SaysX.all (c : SaysX fa fn fs cu K) : (fa.all fun f => f.ok K) = true ∧ (fn.all fun d => d.ok K) = true ∧ (cu.all fun c => c K) = true := by
  have c1 : ((fa.all fun f => f.ok K) && ((fn.all fun d => d.ok K) && cu.all fun c => c K)) = true := congrArg (fun z : AlX => z.1) c
  obtain ⟨a, b⟩ := He.ba c1
  obtain ⟨b, d⟩ := He.ba b
  exact ⟨a, b, d⟩
theorem SaysX.fact (c : SaysX fa fn fs cu K) (i : Nat) {f : He.Fa} (h : fa[i]? = some f := by rfl) : f.ok K = true := List.all_eq_true.mp c.all.1 f (List.mem_of_getElem? h)
theorem SaysX.own (c : SaysX fa fn fs cu K) (i : Nat) {f : PySem.W.Frag → Bool} (h : cu[i]? = some f := by rfl) : f K = true := List.all_eq_true.mp c.all.2.2 f (List.mem_of_getElem? h)
theorem SaysX.init (c : SaysX fa fn fs cu K) (i : Nat) {f : (Str × Option Str) × FnS} (h : fs[i]? = some f := by rfl) : fnS K f.1 = f.2 := by
  have e : fs.map (fun f => fnS K f.1) = fs.map (·.2) := congrArg (fun z : AlX => z.2.2) c
  have e2 : (fs.map fun f => fnS K f.1)[i]? = (fs.map (·.2))[i]? := by rw [e]
  rw [List.getElem?_map, List.getElem?_map, h] at e2
  exact Option.some.inj e2
theorem SaysX.def_ (c : SaysX fa fn fs cu K) (i : Nat) {d : He.DefD} (h : fn[i]? = some d := by rfl) : ∃ fd, FunD K d.name d.qual d.params d.body d.scope (d.dvs K) (d.kws K) (He.fAd K d.at_) fd := by
  have e : fn.map (fun d => He.fnW K d.at_) = fn.map He.DefD.val := congrArg (fun z : AlX => z.2.1) c
  have e2 : (fn.map fun d => He.fnW K d.at_)[i]? = (fn.map He.DefD.val)[i]? := by rw [e]
  rw [List.getElem?_map, List.getElem?_map, h] at e2
  exact He.DefD.funD (Option.some.inj e2) (List.all_eq_true.mp c.all.2.1 d (List.mem_of_getElem? h))
end
end Z

/-! ### try with clauses of both kinds: except X, except X as n -/
namespace Z
open PySem PySem.Spec PyProof.Rows L2 Evl
/-- behind «except .. as n»: slot i, n's, is empty -/
def unb (i : Option Nat) (D : Ends) : Ends := match i with
  | none => D
  | some i => { nx := fun σ' H' => D.nx (σ'.set i none) H', rt := D.rt, bk := fun σ' H' => D.bk (σ'.set i none) H', ct := fun σ' H' => D.ct (σ'.set i none) H' }
def bnd (i : Option Nat) (a : Addr) (σ : L2.St) : L2.St := match i with
  | none => σ
  | some i => σ.set i (some (.ref a))
abbrev Hd : Type := Value × Option Nat × (Addr → Value → Option Addr → TS)
/-- what the clauses wish of an exception of the body, one after the other -/
def wMix (K : PySem.W.Frag) (Wout : WX) (D : Ends) : List Hd → WX
  | [] => Wout
  | (c, i, ts) :: r => fun cls d σ H => ∃ b, PySem.W.exmOne K cls c = some b ∧ (b = true → ∀ a, H a = none → ts a cls d (unb i D) (bnd i a σ) H) ∧ (b = false → wMix K Wout D r cls d σ H)
inductive HdZ (X : Cx) : List ExceptHandler → List Hd → Prop
  | nil : HdZ X [] []
  | only {x : Str} {c : Value} {ts : Addr → Value → Option Addr → TS} {b₀ : Stmt} {suite : List Stmt} {np pos' : Pos} {hds : List ExceptHandler} {l : List Hd} (hc : Names X x c)
      (hsu : ∀ (a : Addr) (oe : Obj) (cls : Value) (d : Option Addr) (pn : List (Addr × Obj)), Zc cls d oe → (∃ vs, oe.data = .fields vs) → PSs (X.suite a ((a, oe) :: pn)) (b₀ :: suite) (ts a cls d)) (r : HdZ X hds l) :
      HdZ X (.ExceptHandler (some (.Name x np)) none (b₀ :: suite) pos' :: hds) ((c, none, ts) :: l)
  | as_ {x n : Str} {i : Nat} {c : Value} {ts : Addr → Value → Option Addr → TS} {b₀ : Stmt} {suite : List Stmt} {np pos' : Pos} {hds : List ExceptHandler} {l : List Hd} (hN : X.N.Nodup) (hi : X.N[i]? = some n) (hln : X.env.kindOf n = some .local) (hc : Names X x c)
      (hsu : ∀ (a : Addr) (oe : Obj) (cls : Value) (d : Option Addr) (pn : List (Addr × Obj)), Zc cls d oe → (∃ vs, oe.data = .fields vs) → PSs (X.suite a ((a, oe) :: pn)) (b₀ :: suite) (ts a cls d)) (r : HdZ X hds l) :
      HdZ X (.ExceptHandler (some (.Name x np)) (some n) (b₀ :: suite) pos' :: hds) ((c, some i, ts) :: l)
section
variable {prog : Program} {w : World} {A : Around} {E : Value → Shared → Prop} {s : Shared} {K : PySem.W.Frag} {B : Heap} {env : Env} {outer : List Env} {L a : Addr} {cls c : Value} {d : Option Addr} {t : Expr} {n : Str} {b₀ : Stmt} {suite : List Stmt} {pos : Pos} {rest : List ExceptHandler} {Q : Flow → Shared → Prop}
theorem cl_as (X : K.In s.heap) (fl : HandSPX.FlyingZ B (env :: outer) a (Zc cls d) s.heap) (hm : PySem.W.exmOne K cls c = some true)
    (test : ∀ {Q' : Value → Shared → Prop} {E' : Value → Shared → Prop}, Q' c s → wpAny (model prog w) (A.mark (some (.ref a))) (eval t env) Q' E' s)
    (k : ∀ h', HandSPX.FlyingZ B (env :: outer) a (Zc cls d) h' → s.heap.UpToSlots h' → wpAny (model prog w) (A.mark (some (.ref a))) (storeName env n (.ref a))
      (fun _ s₂ => wpAny (model prog w) (A.mark (some (.ref a))) (execs (b₀ :: suite) env) (fun f s₃ => wpAny (model prog w) A (do bindName env n .none; unbindBehindTheSuite env n pos) (fun _ s₄ => Q f s₄) E s₃) (fun _ _ => False) s₂) (fun _ _ => False) { s with heap := h' }) :
    wpAny (model prog w) A (handleBy (.ref a) env (.ExceptHandler (some t) (some n) (b₀ :: suite) pos :: rest)) Q E s := by
  obtain ⟨oe, vs, he, hz, _⟩ := fl.there
  refine wpAny_handleBy_cons (codeAny_handlers_test ?_) (by intro q; cases q)
  have LT : PySem.W.Looks (model prog w) s.heap (typeOf (.ref a)) cls := fun A Q E s k q => wpAny_typeOf_ref (k _ _ he) (by rw [hz.1]; exact q)
  refine test ((PySem.W.exm_one (M := model prog w) X LT hm).here ?_)
  refine codeAny_handlers_suite_as (HandSPX.lands_againZ fl fun h4 fl4 up4 => ?_)
  exact wpAny_mono (k h4 fl4 up4) (fun _ s₂ h₂ => wpAny_mono h₂ (fun f s₃ h₃ => h₃) fun _ _ z => z.elim) fun _ _ z => z.elim
theorem cl_only (X : K.In s.heap) (fl : HandSPX.FlyingZ B (env :: outer) a (Zc cls d) s.heap) (hm : PySem.W.exmOne K cls c = some true)
    (test : ∀ {Q' : Value → Shared → Prop} {E' : Value → Shared → Prop}, Q' c s → wpAny (model prog w) (A.mark (some (.ref a))) (eval t env) Q' E' s)
    (k : ∀ h', HandSPX.FlyingZ B (env :: outer) a (Zc cls d) h' → s.heap.UpToSlots h' → wpAny (model prog w) (A.mark (some (.ref a))) (execs (b₀ :: suite) env) Q (fun _ _ => False) { s with heap := h' }) :
    wpAny (model prog w) A (handleBy (.ref a) env (.ExceptHandler (some t) none (b₀ :: suite) pos :: rest)) Q E s := by
  obtain ⟨oe, vs, he, hz, _⟩ := fl.there
  refine wpAny_handleBy_cons (codeAny_handlers_test ?_) (by intro q; cases q)
  have LT : PySem.W.Looks (model prog w) s.heap (typeOf (.ref a)) cls := fun A Q E s k q => wpAny_typeOf_ref (k _ _ he) (by rw [hz.1]; exact q)
  refine test ((PySem.W.exm_one (M := model prog w) X LT hm).here ?_)
  refine codeAny_handlers_suite (HandSPX.lands_againZ fl fun h4 fl4 up4 => ?_)
  exact wpAny_mono (k h4 fl4 up4) (fun f s₂ h₂ => h₂) fun _ _ z => z.elim
theorem cl_pass {nm : Option Str} {body : List Stmt} (X : K.In s.heap) (fl : HandSPX.FlyingZ B (env :: outer) a (Zc cls d) s.heap) (hm : PySem.W.exmOne K cls c = some false)
    (test : ∀ {Q' : Value → Shared → Prop} {E' : Value → Shared → Prop}, Q' c s → wpAny (model prog w) (A.mark (some (.ref a))) (eval t env) Q' E' s)
    (k : wpAny (model prog w) A (handleBy (.ref a) env rest) Q E s) :
    wpAny (model prog w) A (handleBy (.ref a) env (.ExceptHandler (some t) nm body pos :: rest)) Q E s := by
  obtain ⟨oe, vs, he, hz, _⟩ := fl.there
  refine wpAny_handleBy_cons (codeAny_handlers_test ?_) (by intro q; cases q)
  have LT : PySem.W.Looks (model prog w) s.heap (typeOf (.ref a)) cls := fun A Q E s k q => wpAny_typeOf_ref (k _ _ he) (by rw [hz.1]; exact q)
  exact test ((PySem.W.exm_one (M := model prog w) X LT hm).here k)
theorem cl_none (hf : env.frame = some L) (fl : HandSPX.FlyingZ B (env :: outer) a (Zc cls d) s.heap) (k : ∀ h', HandSPX.HeldZ B (env :: outer) a (Zc cls d) L h' → s.heap.UpToSlots h' → E (.ref a) { s with heap := h' }) :
    wpAny (model prog w) A (handleBy (.ref a) env []) Q E s := by
  refine wpAny_handleBy_nil ?_
  obtain ⟨k1, k2, k3, oe, vs, T, oT, ts', he, hz, hd, h1, hr⟩ := id fl
  unfold PySem.passOn
  refine wpAny_bind (wpAny_field he hd h1 ?_)
  rw [if_neg (show ¬ ((Value.ref T == Value.none) = true) from by simp)]
  have fin : wpAny (model prog w) A (setFlight (.ref a) env.frame) (fun _ s4 => wpAny (model prog w) A (throw (.ref a) : Sem Flow) Q E s4) E s := by
    rw [hf]
    exact HandSPX.setFlight_upZ fl fun h4 hh4 up4 => wpAny_throw (k h4 hh4 up4)
  first
    | exact wpAny_bind (wpAny_pure (wpAny_bind fin))
    | exact wpAny_bind fin
end
section
variable {X : Cx} {body : List Stmt} {h₀ : ExceptHandler} {hds : List ExceptHandler} {l : List Hd} {pos : Pos} {tb : WX → TS} {Wout : WX}
theorem ps_try_mix (hs : X.stack = X.env :: X.outer) (hf : X.env.frame = some X.env.locals) (tk : Takes X Wout)
    (hb : ∀ (W : WX) (pn : List (Addr × Obj)) (xe : Value → Shared → Prop), Takes (X.tr pn xe) W → PassesOwn (model X.prog X.w) X.A X.env xe → PSs (X.tr pn xe) body (tb W))
    (hh : HdZ X (h₀ :: hds) l) : PS X (.Try body (h₀ :: hds) [] [] pos) (fun D σ H => tb (wMix X.K Wout D l) D σ H) := by
  refine ⟨fun pins s σ H D I h => ?_⟩
  have ok := I.ok
  have hfr : X.A.frames = some (X.env :: X.outer) := by rw [ok.frames, hs]
  refine wpAny_Try_except ?_
  refine wpAny_mono ((hb (wMix X.K Wout D l) (X.pn ++ pins) (fun e s₁ => wpAny (model X.prog X.w) X.A (noteFrame e X.env) (fun _ s₂ => wpAny (model X.prog X.w) X.A (setFlight e none) (fun _ s₃ =>
    wpAny (model X.prog X.w) X.A (handleBy e X.env (h₀ :: hds)) (SP X pins D) X.xe s₃) X.xe s₂) X.xe s₁) (fun u s' xx => ?_) PassesOwn.looking).run [] s σ H D (I.toTry _) h) (fun f s1 hsp => ?_) (fun e s1 he => he)
  · obtain ⟨a, B, sI, pins', σ', H', cls, d, rfl, J', nb, up, sky, na, os, ag, w⟩ := xx
    have J : Inv X pins σ' H' sI := J'.ofTry ok
    have sky' : Sky B (X.env :: X.outer) a (Zc cls d) X.env.locals s'.heap := by rw [← hs]; exact sky
    show wpAny (model X.prog X.w) X.A (noteFrame (.ref a) X.env) _ _ _
    refine Sky.land Zc.steady hfr hf sky' fun h3 fl3 up3 => ?_
    -- through the clauses, whatever the heap's traceback marks
    have go : ∀ {hds' : List ExceptHandler} {l' : List Hd}, HdZ X hds' l' → ∀ h3 : Heap, HandSPX.FlyingZ B (X.env :: X.outer) a (Zc cls d) h3 → sI.heap.UpToSlots h3 ∨ True → (∀ {h4 : Heap}, HandSPX.FlyingZ B (X.env :: X.outer) a (Zc cls d) h4 → h3.UpToSlots h4 → Inv X pins σ' H' { s' with heap := h4 }) → Inv X pins σ' H' { s' with heap := h3 } →
        (∀ {h4 : Heap}, HandSPX.HeldZ B (X.env :: X.outer) a (Zc cls d) X.env.locals h4 → h3.UpToSlots h4 → ∀ W : WX, Takes X W → W cls d σ' H' → X.xe (.ref a) { s' with heap := h4 }) → wMix X.K Wout D l' cls d σ' H' →
        wpAny (model X.prog X.w) X.A (handleBy (.ref a) X.env hds') (SP X pins D) X.xe { s' with heap := h3 } := by
      intro hds' l' hk
      induction hk with
      | nil =>
        intro h3 fl3 _ _ _ out w
        exact cl_none hf fl3 fun h4 hh4 up4 => out hh4 up4 _ tk w
      | @only x c ts b₀ suite np pos' hds2 l2 hc hsu r ih =>
        intro h3 fl3 u0 inv J3 out w
        obtain ⟨oe3, vs3, he3, hz3, hd3⟩ := fl3.there
        have nfr : a ∉ frs (X.env :: X.outer) := fun hm => by
          obtain ⟨_, o', e', hnf⟩ := fl3.2.2.1.mem hm
          rw [he3] at e'; cases e'
          exact hnf _ hd3
        have nL : a ≠ X.env.locals := fun z => nfr (List.mem_filterMap.mpr ⟨X.env, List.mem_cons_self, by rw [hf, z]⟩)
        have nF : a ∉ X.fs := fun hm => by
          obtain ⟨e, he, q⟩ := List.mem_filterMap.mp hm
          exact nfr (List.mem_filterMap.mpr ⟨e, List.mem_cons_of_mem _ he, q⟩)
        have S3 := J3.suite he3 hd3 na nL nF
        have test : ∀ {Q : Value → Shared → Prop} {E : Value → Shared → Prop}, Q c { s' with heap := h3 } → wpAny (model X.prog X.w) (X.A.mark (some (.ref a))) (eval (.Name x np) X.env) Q E { s' with heap := h3 } := fun {Q E} q => by
          obtain ⟨hg, hdbg, hm | ⟨hm, hv, hnn⟩⟩ := hc
          · exact ld_glob (X := X.suite a ((a, oe3) :: (X.pn ++ pins))) S3 hg hm q hdbg
          · exact ld_blt (X := X.suite a ((a, oe3) :: (X.pn ++ pins))) S3 hg hm hv q hnn hdbg
        obtain ⟨b, hb1, hyes, hno⟩ := w
        cases b with
        | true =>
          refine cl_only J3.kIn fl3 hb1 test fun h4 fl4 up4 => ?_
          obtain ⟨oe4, vs4, he4, hz4, hd4⟩ := fl4.there
          have S4 := (inv fl4 up4).suite he4 hd4 na nL nF
          refine wpAny_mono ((hsu a oe4 cls d (X.pn ++ pins) hz4 ⟨_, hd4⟩).run [] _ _ H' _ S4 (hyes rfl a na)) (fun f s6 hsp => ?_) (fun _ _ z => z)
          cases f with
          | ret u =>
            obtain ⟨v6, σ6, H6, S6, r6, q6⟩ := hsp
            exact ⟨_, _, _, S6.unsuite ok, r6, q6⟩
          | _ =>
            obtain ⟨σ6, H6, S6, q6⟩ := hsp
            exact ⟨_, _, S6.unsuite ok, q6⟩
        | false => exact cl_pass J3.kIn fl3 hb1 test (ih h3 fl3 u0 inv J3 out (hno rfl))
      | @as_ x n i c ts b₀ suite np pos' hds2 l2 hN hi hln hc hsu r ih =>
        intro h3 fl3 u0 inv J3 out w
        obtain ⟨oe3, vs3, he3, hz3, hd3⟩ := fl3.there
        have nfr : a ∉ frs (X.env :: X.outer) := fun hm => by
          obtain ⟨_, o', e', hnf⟩ := fl3.2.2.1.mem hm
          rw [he3] at e'; cases e'
          exact hnf _ hd3
        have nL : a ≠ X.env.locals := fun z => nfr (List.mem_filterMap.mpr ⟨X.env, List.mem_cons_self, by rw [hf, z]⟩)
        have nF : a ∉ X.fs := fun hm => by
          obtain ⟨e, he, q⟩ := List.mem_filterMap.mp hm
          exact nfr (List.mem_filterMap.mpr ⟨e, List.mem_cons_of_mem _ he, q⟩)
        have S3 := J3.suite he3 hd3 na nL nF
        have test : ∀ {Q : Value → Shared → Prop} {E : Value → Shared → Prop}, Q c { s' with heap := h3 } → wpAny (model X.prog X.w) (X.A.mark (some (.ref a))) (eval (.Name x np) X.env) Q E { s' with heap := h3 } := fun {Q E} q => by
          obtain ⟨hg, hdbg, hm | ⟨hm, hv, hnn⟩⟩ := hc
          · exact ld_glob (X := X.suite a ((a, oe3) :: (X.pn ++ pins))) S3 hg hm q hdbg
          · exact ld_blt (X := X.suite a ((a, oe3) :: (X.pn ++ pins))) S3 hg hm hv q hnn hdbg
        obtain ⟨b, hb1, hyes, hno⟩ := w
        cases b with
        | true =>
          refine cl_as J3.kIn fl3 hb1 test fun h4 fl4 up4 => ?_
          obtain ⟨oe4, vs4, he4, hz4, hd4⟩ := fl4.there
          have S4 := (inv fl4 up4).suite he4 hd4 na nL nF
          refine store_ok (X := X.suite a ((a, oe4) :: (X.pn ++ pins))) (v := .ref a) S4 hN hi (.inl hln) rfl (fun s5 S5 => ?_) (.inr hln)
          refine wpAny_mono ((hsu a oe4 cls d (X.pn ++ pins) hz4 ⟨_, hd4⟩).run [] s5 _ H' _ S5 (hyes rfl a na)) (fun f s6 hsp => ?_) (fun _ _ z => z)
          have end_ : ∀ {σ6 : L2.St} {H6 : Hp} {Q : Shared → Prop}, Inv (X.suite a ((a, oe4) :: (X.pn ++ pins))) [] σ6 H6 s6 → (∀ s7, Inv X pins (σ6.set i none) H6 s7 → Q s7) →
              wpAny (model X.prog X.w) X.A (do bindName X.env n .none; unbindBehindTheSuite X.env n pos') (fun _ s7 => Q s7) X.xe s6 := fun {σ6 H6 Q} S6 hq => gone_ok (S6.unsuite ok) hN hi hln hq
          cases f with
          | next =>
            obtain ⟨σ6, H6, S6, q6⟩ := hsp
            exact end_ S6 fun s7 J7 => ⟨_, _, J7, q6⟩
          | brk =>
            obtain ⟨σ6, H6, S6, q6⟩ := hsp
            exact end_ S6 fun s7 J7 => ⟨_, _, J7, q6⟩
          | cont =>
            obtain ⟨σ6, H6, S6, q6⟩ := hsp
            exact end_ S6 fun s7 J7 => ⟨_, _, J7, q6⟩
          | ret u =>
            obtain ⟨v6, σ6, H6, S6, r6, q6⟩ := hsp
            exact end_ S6 fun s7 J7 => ⟨_, _, _, J7, r6, q6⟩
        | false => exact cl_pass J3.kIn fl3 hb1 test (ih h3 fl3 u0 inv J3 out (hno rfl))
    refine go hh h3 fl3 (.inr trivial) (fun {h4} fl4 up4 => J.landed nb fl4.1 ((up.trans up3).trans up4) os ag) (J.landed nb fl3.1 (up.trans up3) os ag) (fun {h4} hh4 up4 W tkW w' => tkW _ _ ?_) w
    exact ⟨a, B, sI, pins, σ', H', cls, d, rfl, J, nb, (up.trans up3).trans up4, .inr (.inr (by rw [hs]; exact hh4)), na, os, ag, w'⟩
  · cases f with
    | next =>
      obtain ⟨σ', H', J', q⟩ := hsp
      exact wpAny_execs_nil ⟨σ', H', J'.ofTry ok, q⟩
    | brk =>
      obtain ⟨σ', H', J', q⟩ := hsp
      exact ⟨σ', H', J'.ofTry ok, q⟩
    | cont =>
      obtain ⟨σ', H', J', q⟩ := hsp
      exact ⟨σ', H', J'.ofTry ok, q⟩
    | ret u =>
      obtain ⟨v, σ', H', J', r, q⟩ := hsp
      exact ⟨v, σ', H', J'.ofTry ok, r, q⟩
end
/-- a call of a def that may raise, by its promise (Fok); W: what is wanted of the exception -/
theorem pe_callG {X : Cx} {W : WX} {k : Nat} {x : Str} {ps : List Str} {sp : Sp} {e : Expr} {es : List Expr} {t : TA} {p pos : Pos} (F : Fok X.prog X.w X.K X.mg X.base (L2.CX X.prog X.w) k x ps sp) (hr : Room k X.A) (hg : Gl X x) (tk : Takes X W)
    (ha : PA X (e :: es) t) (hdb : (x == ("__debug__" : Str)) = false := by decide) (he : starEach (e :: es) X.env = (false, eval e X.env) :: starEach es X.env := by rfl) (hpl : (backTo pos (starEach es X.env)).any (·.1) = false := by rfl) :
    PE X (.Call (.Name x p) (e :: es) [] pos) (tCallS sp (WE W) t) :=
  let ⟨_, h1, h2⟩ := F.ex
  pe_callS h1 hr hg F.hm F.kp h2 (fun σ => passAt tk σ) ha hdb he hpl
/-- what an exception's way out is owed: of the class x, its field f holding v, all that was there kept -/
def Rz (K : PySem.W.Frag) (x f : Str) (v : V) (H : Hp) (E : XK) : Prop := ∀ H' d, Ex H H' → H' d = some (.xd [(f, v)]) → E (.ref (He.ga K x)) (some d) H'
end Z

/-! ### calls with keywords: the values in the order that they are written (positional ones, then the keywords'), put in the parameters' order by places -/
namespace Z
open PySem PySem.Spec PyProof.Rows L2 Evl
def perm {α : Type} (p : List Nat) (l : List α) : List α := p.filterMap fun i => l[i]?
theorem perm_rel {vs : List V} {us : List Value} (r : Vals vs us) : ∀ p : List Nat, Vals (perm p vs) (perm p us)
  | [] => .nil
  | i :: p => by
    have ih := perm_rel r p
    unfold perm at ih ⊢
    rw [List.filterMap_cons, List.filterMap_cons]
    cases e : vs[i]? with
    | none =>
      have hl : us[i]? = none := by
        rw [List.getElem?_eq_none_iff] at e ⊢
        rw [← r.length]
        exact e
      rw [hl]
      exact ih
    | some v =>
      obtain ⟨u, hu, ru⟩ := Vals.get r e
      rw [hu]
      exact .cons ru ih
structure FokK (P : Program) (w : World) (K : PySem.W.Frag) (mg : Str → Option Value) (base : Heap) (CX : CXT) (k : Nat) (x : Str) (ps : List Str) (sp : Sp) (n : Nat) (ks : List Str) (p : List Nat) : Prop where
  ex : ∃ fd, FnOk P w K mg base CX k (He.ga K x) fd ps sp ∧ ∀ (s : Shared) (us ws : List Value), us.length = n → ws.length = ks.length → BindsTo s fd ⟨us, ks.zip ws⟩ (ps.zip (perm p (us ++ ws)))
  hm : mg x = some (.ref (He.ga K x))
  kp : PySem.W.keepIn K (.ref (He.ga K x)) = true
theorem kbinds {K : PySem.W.Frag} {x qual : Str} {params : Arguments} {body : List Stmt} {scope : Scope} {kws : List (Str × V)} {f : Addr} {fd : FuncData} {ps ks : List Str} {n : Nat} {p : List Nat} (F : FunD K x qual params body scope [] kws f fd)
    (h : ∀ (kV doc pm : Value) (an : Option Addr) (cdv ct : Value) (us ws : List Value), us.length = n → ws.length = ks.length → bindArgs (PySem.W.fnOf x qual params body scope .none kV doc pm an cdv ct) ⟨us, ks.zip ws⟩ = pure (ps.zip (perm p (us ++ ws)))) :
    ∀ (s : Shared) (us ws : List Value), us.length = n → ws.length = ks.length → BindsTo s fd ⟨us, ks.zip ws⟩ (ps.zip (perm p (us ++ ws))) := by
  obtain ⟨oc, od, dV, kV, doc, pm, an, cdv, ct, osl, rfl, lk, hcd, hD, hK⟩ := F.ex
  rcases hD with ⟨_, rfl⟩ | ⟨e, _⟩
  · exact fun s us ws l1 l2 => BindsTo.of_eq (h kV doc pm an cdv ct us ws l1 l2)
  · exact absurd rfl e
/-- f(e, .., k = v, ..) -/
def tCallP (p : List Nat) (n m : Nat) (sp : Sp) (E : L2.St → XK) (t tk : TA) : TE := fun σ H Q => t σ H fun vs H1 => tk σ H1 fun zs H2 => vs.length = n ∧ zs.length = m ∧ sp (perm p (vs ++ zs)) H2 Q (E σ)
section
variable {X : Cx} {CX : CXT} {k n : Nat} {ps ks : List Str} {sp : Sp} {E : L2.St → XK} {x : Str} {p pos : Pos} {e : Expr} {es : List Expr} {kws : List Keyword} {t tk : TA} {pm : List Nat}
theorem run_fnP {pins : List (Addr × Obj)} {σ : L2.St} {H : Hp} {s : Shared} {Q : VK} {us ws : List Value} {vs zs : List V} (F : FokK X.prog X.w X.K X.mg X.base CX k x ps sp n ks pm) (hr : Room k X.A) (hx : PassesAt CX X σ (E σ))
    (I : Inv X pins σ H s) (r : Vals vs us) (rz : Vals zs ws) (l1 : vs.length = n) (l2 : zs.length = ks.length) (h : sp (perm pm (vs ++ zs)) H Q (E σ)) : wpAny (model X.prog X.w) X.A (call (.ref (He.ga X.K x)) us (ks.zip ws)) (EP X pins σ Q) X.xe s := by
  obtain ⟨fd, F1, b⟩ := F.ex
  refine wpAny_call (codeAny_mono (F1.run X.A X.stack s H ⟨us, ks.zip ws⟩ (perm pm (us ++ ws)) (perm pm (vs ++ zs)) Q (E σ) hr I.env0 (b s us ws (r.length.symm.trans l1) (rz.length.symm.trans l2)) (perm_rel (r.append rz) pm) h) fun r s' hq => ?_)
  cases r with
  | error e => exact hx pins H s e s' I hq
  | ok fl =>
    cases fl with
    | ret u => exact I.after hq
    | next => exact False.elim hq
    | brk => exact False.elim hq
    | cont => exact False.elim hq
theorem pe_callP (F : FokK X.prog X.w X.K X.mg X.base CX k x ps sp n ks pm) (hr : Room k X.A) (hg : Gl X x) (hx : ∀ σ, PassesAt CX X σ (E σ))
    (ha : PA X (e :: es) t) (hkw : PK X kws tk) (hall : (backToKw pos (keywordEach kws X.env)).all (·.1.isSome) = true := by rfl) (hks : (backToKw pos (keywordEach kws X.env)).filterMap (·.1) = ks := by rfl)
    (hdb : (x == ("__debug__" : Str)) = false := by decide) (he : starEach (e :: es) X.env = (false, eval e X.env) :: starEach es X.env := by rfl)
    (hpl : ((backTo pos (starEach (e :: es) X.env)).any (·.1) || (backToKw pos (keywordEach kws X.env)).any (·.1.isNone)) = false := by rfl) {m : Nat} (hm : ks.length = m := by rfl) :
    PE X (.Call (.Name x p) (e :: es) kws pos) (tCallP pm n m sp E t tk) := by
  subst hm
  refine ⟨fun pins s σ H Q I h => ?_⟩
  refine wpAny_Call_Name_kw (ld_glob I hg F.hm ?_ hdb)
  refine PySem.W.callWith_KW (h₀ := X.base) I.ok.mod.kin F.kp hall (thn (ha.run pos pins s σ H _ I h) fun us s1 ⟨vs, H1, I1, r, q⟩ => ?_) hpl he
  refine thn (hkw.run pos pins s1 σ H1 _ I1 q) fun ws s2 ⟨zs, H2, I2, rz, l1, l2, q2⟩ => ⟨I2.kIn, ?_⟩
  rw [hks]
  exact run_fnP F hr (hx σ) I2 r rz l1 l2 q2
/-- f(k = v, ..) -/
theorem pe_callP0 (F : FokK X.prog X.w X.K X.mg X.base CX k x ps sp 0 ks pm) (hr : Room k X.A) (hg : Gl X x) (hx : ∀ σ, PassesAt CX X σ (E σ))
    (hkw : PK X kws tk) (hall : (backToKw pos (keywordEach kws X.env)).all (·.1.isSome) = true := by rfl) (hks : (backToKw pos (keywordEach kws X.env)).filterMap (·.1) = ks := by rfl)
    (hdb : (x == ("__debug__" : Str)) = false := by decide)
    (hpl : ((backTo pos (starEach [] X.env)).any (·.1) || (backToKw pos (keywordEach kws X.env)).any (·.1.isNone)) = false := by rfl) {m : Nat} (hm : ks.length = m := by rfl) :
    PE X (.Call (.Name x p) [] kws pos) (tCallP pm 0 m sp E tNil tk) := by
  subst hm
  refine ⟨fun pins s σ H Q I h => ?_⟩
  refine wpAny_Call_Name_kw (ld_glob I hg F.hm ?_ hdb)
  refine PySem.W.callWith_KW0 (h₀ := X.base) I.ok.mod.kin F.kp hall ?_ hpl
  have h' : tk σ H fun zs H2 => ([] : List V).length = 0 ∧ zs.length = ks.length ∧ sp (perm pm ([] ++ zs)) H2 Q (E σ) := h
  refine thn (hkw.run pos pins s σ H _ I h') fun ws s2 ⟨zs, H2, I2, rz, l1, l2, q2⟩ => ⟨I2.kIn, ?_⟩
  rw [hks]
  exact run_fnP F hr (hx σ) I2 .nil rz l1 l2 q2
theorem passAt0 (σ : L2.St) : PassesAt CX0 X σ E0 := fun _ _ _ _ _ _ h => h.elim
end
theorem s_callS {sp : Sp} {E : L2.St → XK} {t : TA} {σ : L2.St} {H : Hp} {Q : VK} (h : t σ H fun vs H1 => sp vs H1 Q (E σ)) : tCallS sp E t σ H Q := h
theorem s_callP {pm : List Nat} {n m : Nat} {sp : Sp} {E : L2.St → XK} {t tk : TA} {σ : L2.St} {H : Hp} {Q : VK} (h : t σ H fun vs H1 => tk σ H1 fun zs H2 => vs.length = n ∧ zs.length = m ∧ sp (perm pm (vs ++ zs)) H2 Q (E σ)) : tCallP pm n m sp E t tk σ H Q := h
end Z
namespace Z
open PySem PySem.Spec PyProof.Rows L2 Evl
theorem passAtL {X : Cx} (σ : L2.St) : PassesAt (L2.CX X.prog X.w) X σ E0 := fun pins H s e s' I h => passL pins σ H s e s' I h
def tTry (K : PySem.W.Frag) (tb : WX → TS) (Wout : WX) (l : List Hd) : TS := fun D σ H => tb (wMix K Wout D l) D σ H
end Z

/-! steps: exceptions, calls with keywords -/
namespace Z
open PySem PySem.Spec PyProof.Rows L2 Evl
section
variable {K : PySem.W.Frag} {σ : L2.St} {H : Hp} {Q : VK} {D : Ends}
theorem s_try {tb : WX → TS} {Wout : WX} {l : List Hd} (h : tb (wMix K Wout D l) D σ H) : tTry K tb Wout l D σ H := h
theorem mix_hit {Wout : WX} {c cls : Value} {i : Option Nat} {ts : Addr → Value → Option Addr → TS} {r : List Hd} {d : Option Addr} (e : PySem.W.exmOne K cls c = some true) (h : ∀ a, H a = none → ts a cls d (unb i D) (bnd i a σ) H) :
    wMix K Wout D ((c, i, ts) :: r) cls d σ H := ⟨true, e, (fun _ => h), fun z => by cases z⟩
theorem mix_miss {Wout : WX} {c cls : Value} {i : Option Nat} {ts : Addr → Value → Option Addr → TS} {r : List Hd} {d : Option Addr} (e : PySem.W.exmOne K cls c = some false) (h : wMix K Wout D r cls d σ H) :
    wMix K Wout D ((c, i, ts) :: r) cls d σ H := ⟨false, e, (fun z => by cases z), fun _ => h⟩
theorem s_xf {a : Addr} {cls : Value} {d : Option Addr} {C : Addr} {f : Str} {te : TE} (h : te σ H fun x H1 => x = .ref a ∧ cls = .ref C ∧ ∃ (dd : Addr) (fs : List (Str × V)) (v : V), d = some dd ∧ H1 dd = some (.xd fs) ∧ fs.lookup f = some v ∧ Q v H1) : tXf a cls d C f te σ H Q := h
theorem xf_at {a C dd : Addr} {f : Str} {v : V} {R : V → Prop} (h : H dd = some (.xd [(f, v)])) (q : R v) :
    V.ref a = .ref a ∧ (Value.ref C) = .ref C ∧ ∃ (d2 : Addr) (fs : List (Str × V)) (w : V), some dd = some d2 ∧ H d2 = some (.xd fs) ∧ fs.lookup f = some w ∧ R w := ⟨rfl, rfl, dd, _, v, rfl, h, by simp [List.lookup], q⟩
end
theorem Rz.of {K : PySem.W.Frag} {x f : Str} {v : V} {H H1 : Hp} {E : XK} (h : Rz K x f v H E) (e : Ex H H1) : Rz K x f v H1 E := fun H' d e' hd => h H' d (e.trans e') hd
end Z
namespace Z
open PySem PySem.Spec PyProof.Rows L2 Evl
theorem s_par {i j : Nat} {t : TA} {D : Ends} {σ : L2.St} {H : Hp} (h : t σ H fun vs H1 => ∃ x y, vs = [x, y] ∧ D.nx ((σ.set i (some x)).set j (some y)) H1) : tPar i j t D σ H := h
end Z

/-! ### an exception class of the package: `__init__(self, value)` says super().__init__(text), then self.value = value -/
namespace PySem
namespace Sxvalue
open PySem.W PySem.Calls PyProof.Rows PySem.HandSPX
def iA (p1 p2 : Pos) : Arguments := { posonlyargs := [], args := [{ arg := "self", annotation := none, pos := p1 }, { arg := "value", annotation := none, pos := p2 }], vararg := none, kwonlyargs := [], kw_defaults := [], kwarg := none, defaults := [] }
def iB (txt : Str) (q1 q2 q3 q4 q5 q6 r1 r2 r3 r4 : Pos) : List Stmt := [.Expr (.Call (.Attribute (.Call (.Name "super" q1) [] [] q2) "__init__" q3) [.Constant (.str txt) 0 q4] [] q5) q6, .Assign [.Attribute (.Name "self" r1) "value" r2] (.Name "value" r3) r4]
def iS : Scope := { kind := .function, names := [(PySem.Str.ofString "self", .local), (PySem.Str.ofString "value", .local), (PySem.Str.ofString "__class__", .free), (PySem.Str.ofString "super", .globalImplicit)], isGenerator := false, isCoroutine := false, more := [] }
/-- what the written part says of the class x at C, of its `__init__` at fI -/
structure Txt (P : Program) (K : Frag) (mg : Str → Option Value) (x : Str) (C fI : Addr) : Prop where
  gC : mg x = some (.ref C)
  noS : mg "super" = none
  cls : ∃ nm q N bs bm sn sub ab col dd k0 k1 k2 k3 k5, K.lookup C = some (excClassObj nm q C N bs bm true sn sub ab col dd k0 k1 k2 k3 k5 "ValueError.__new__") ∧ refsVE bm = true
  sa : findIn K (.ref C) "__setattr__" = some (some (.builtin "object.__setattr__"))
  noN : findIn K (.ref C) "value" = some none
  iC : findIn K (.ref C) "__init__" = some (some (.ref fI))
  tC : typeIn K (.ref fI) = some (.type "function")
  kC : keepIn K (.ref C) = true
  exC : subIn K (.ref C) (.type "BaseException") = some true
  veC : subIn K (.ref C) (.type "ValueError") = some true
  tyC : typeIn K (.ref C) = some (.type "type")
  mroC : mroIn K C (.ref C) = some true
  opq : nsIn K cStatics "thirdparty.any" = some none
  sup : ks_superIn K C C "__init__" = some (some (.builtin "ValueError.__init__"))
  top : (P.main.scope.names.lookup ("super" : Str)).isSome = false
  fn : ∃ (qu txt : Str) (oc : Value) (od : Option Addr) (doc pm : Value) (an : Option Addr) (cda : Addr) (ct : Value) (osl : Array (Option Value)) (cc : Addr) (p1 p2 q1 q2 q3 q4 q5 q6 r1 r2 r3 r4 : Pos),
    K.lookup fI = some ⟨oc, od, .func (ksFn "__init__" qu (iA p1 p2) (iB txt q1 q2 q3 q4 q5 q6 r1 r2 r3 r4) iS .none .none doc pm an (.ref cda) ct cc), osl⟩ ∧ codeIn K (.ref cda) qu = true ∧
    (∃ cl cld csl, K.lookup cc = some ⟨cl, cld, .cell (some (.ref C)), csl⟩) ∧ (∃ ccl cdd vs ccs file tf, K.lookup cda = some ⟨ccl, cdd, .fields vs, ccs⟩ ∧ vs[2]? = some (.str file tf) ∧ ((P.main.file : Str) == file) = true) ∧ (q3.endLine == q5.line) = true
theorem one_size (v : Value) : [v].length ≤ sizeLine := by
  rw [sizeLine_eq]
  exact (by decide : 1 ≤ 16777216)
theorem he_of {env : Env} {txt : Str} {q1 q2 q3 q4 q5 : Pos} (hl : (q3.endLine == q5.line) = true) :
    eval (.Call (.Attribute (.Call (.Name "super" q1) [] [] q2) "__init__" q3) [.Constant (.str txt) 0 q4] [] q5) env = (do
      let ov ← attributeBase (.Call (.Name "super" q1) [] [] q2) "__init__" env (eval (.Call (.Name "super" q1) [] [] q2) env)
      standAt q3.atName
      let (f, first) ← holding [ov] (getMethod ov "__init__" (do return (← importBound (.Call (.Name "super" q1) [] [] q2) env).getD true))
      callWith q5 f first (backTo q5 (starEach [.Constant (.str txt) 0 q4] env)) []) := by
  have hp : methodCallPos true (.Call (.Name "super" q1) [] [] q2) env q3 q5 = pure q5 := by
    unfold methodCallPos
    rw [if_pos (by rw [hl]; rfl)]
  show (do
      let ov ← attributeBase (.Call (.Name "super" q1) [] [] q2) "__init__" env (eval (.Call (.Name "super" q1) [] [] q2) env)
      standAt q3.atName
      let (f, first) ← holding [ov] (getMethod ov "__init__" (do return (← importBound (.Call (.Name "super" q1) [] [] q2) env).getD true))
      let p ← methodCallPos true (.Call (.Name "super" q1) [] [] q2) env q3 q5
      callWith p f first (backTo q5 (starEach [.Constant (.str txt) 0 q4] env)) []) = _
  rw [hp]
  rfl
structure InitEnd (h h' : Heap) (x C dx t1 : Addr) (v : Value) : Prop where
  keep : ∀ b o, b ≠ x → h.get? b = some o → h'.get? b = some o
  obj : h'.get? x = some { cls := .ref C, dict := some dx, data := .fields #[.ref t1, .none, .none, .none, .bool false, .none] }
  dbig : h.objs.size ≤ dx
  dne : dx ≠ x
  ns : h'.Ns1 dx (fun y => if y = "value" then some v else none)
structure OwnMade (h h' : Heap) (e C d : Addr) (v : Value) : Prop where
  keep : ∀ b o, h.get? b = some o → h'.get? b = some o
  new : h.objs.size ≤ e
  obj : ∃ oe vs, h'.get? e = some oe ∧ oe.cls = .ref C ∧ oe.dict = some d ∧ oe.data = .fields vs ∧ vs[1]? = some .none
  dbig : h.objs.size ≤ d
  dne : d ≠ e
  ns : h'.Ns1 d (fun y => if y = "value" then some v else none)
section
variable {prog : Program} {w : World} {A : Around} {E : Value → Shared → Prop} {R : Result → Shared → Prop} {s : Shared} {K : Frag} {mg mb : Str → Option Value} {C fI : Addr} {n : Str}
theorem init (T : Txt prog K mg n C fI) {x t0 : Addr} {v : Value} (X : K.In s.heap) (hG : s.heap.Ns mainGlobals mg) (hB : s.heap.Ns builtinsNs mb) (hb : mb "super" = some (.type "super")) (hlim : s.heap.NoLimit) (hx : s.heap.get? x = some (excO C t0)) (hnx : K.lookup x = none) (hroom : A.depth < recursionLimit)
    (hq : ∀ h' tk t1 dx, InitEnd s.heap h' x C dx t1 v → R (.ok (.ret .none)) { s with heap := h', toks := tk }) :
    codeAny (model prog w) A (.call (.ref fI) ⟨[.ref x, v], []⟩) R s := by
  obtain ⟨qu, txt, oc, od, doc, pm, an, cda, ct, osl, cc, p1, p2, q1, q2, q3, q4, q5, q6, r1, r2, r3, r4, ho, hcd, ⟨cl, cld, csl, hcell⟩, ⟨ccl, cdd, vs, ccs, file, tf, hcode, hvs, hfile⟩, hline⟩ := T.fn
  obtain ⟨nm, q, N, bs, bm, sn, sub, ab, col, dd, k0, k1, k2, k3, k5, hC, hbm⟩ := T.cls
  have hcl : clsIn K C = some { name := nm, bases := bs, mro := .ref C :: bm, ns := N, qualname := q, hasDict := true, slotNames := sn, subclasses := sub, abstract := ab, collection := col, hasDel := false } := by unfold clsIn; rw [hC] <;> rfl
  have hsup := T.sup
  have hxC : x ≠ C := fun z => by
    have y := X _ _ hC
    rw [← z, hx] at y
    cases y
  refine ks_codeAny_call_defAt (fd := ksFn "__init__" qu (iA p1 p2) (iB txt q1 q2 q3 q4 q5 q6 r1 r2 r3 r4) iS .none .none doc pm an (.ref cda) ct cc) (body := iB txt q1 q2 q3 q4 q5 q6 r1 r2 r3 r4) (binds := [("self", .ref x), ("value", v)]) hroom (X _ _ ho) rfl hlim (codeRec_of X hcd) rfl
    (BindsTo.of_eq (by first | rfl | with_unfolding_all rfl)) (by show ∀ x ∈ iS.names, x.2 ≠ NameKind.cell; decide) (by exact locs rfl) (fun h₁ hns k₁ => ?_) rfl rfl rfl
  have hxL : s.heap.objs.size ≠ x := Nat.ne_of_gt (Heap.lt_size hx)
  have X₁ : K.In h₁ := X.keeps k₁
  have hx₁ := k₁ _ _ hx
  have hG₁ := hG.keeps k₁
  have hB₁ := hB.keeps k₁
  -- super().__init__(text)
  show wpAt _ _ _ (execs (iB txt q1 q2 q3 q4 q5 q6 r1 r2 r3 r4) (ksEnv qu iS s.heap.objs.size fI (.ref cda) cc)) _ _ _
  refine ks_wpAt_execs_cons (ks_wpAt_Expr_any (ks_wpAt_MethodCall ?_ (he_of hline)))
  refine ks_wpAt_super_base (env := ksEnv qu iS s.heap.objs.size fI (.ref cda) cc) (ar := { arg := "self", annotation := none, pos := p1 }) rfl rfl (by decide) rfl (X₁ _ _ ho) rfl rfl rfl (X₁ _ _ hcode) rfl hvs hfile T.top ?_
  refine ks_loadName_global rfl rfl (loadGlobal_builtin (env := ksEnv qu iS s.heap.objs.size fI (.ref cda) cc) hG₁ T.noS hB₁ hb ⟨rfl, ?_⟩)
  refine wpAny_loadName_free rfl rfl rfl ⟨_, X₁ _ _ hcell, rfl⟩ ?_
  refine wpAny_loadName_local (v := .ref x) rfl rfl hns (by first | rfl | with_unfolding_all rfl) ?_
  refine ks_wpAny_isType_cls (X₁ _ _ hC) rfl ⟨rfl, ?_⟩
  refine ks_wpAny_call_super (X₁ _ _ hC) rfl hx₁ rfl (fun c e => by cases e) (looks_mroIn X₁ T.mroC) (fun h₂ hso k₂ => ?_)
  have X₂ : K.In h₂ := X₁.keeps k₂
  have I₂ : PySem.W.InstAt h₂ x (excO C t0) C none := ⟨k₂ _ _ hx₁, rfl, rfl, trivial⟩
  have hI : Looks (model prog w) h₂ (isInstance (.ref x) (.type "ValueError")) true := I₂.type.andThen (looks_subIn X₂ T.veC)
  unfold ks_superIn at hsup
  rw [hcl] at hsup
  refine kxs_getMethod kxs_ValueError hso (looks_opaque X₂ T.opq) (l₀ := .ref C :: bm) (fun A Q E s k q => wpAny_bind ((looks_clsIn X₂ hcl) A _ E s k (wpAny_pure q))) rfl X₂ hsup hI hxC (by decide) ?_
  have up₃ : ∀ b o, h₂.get? b = some o → (h₂.push (kxs_mw "ValueError.__init__" x)).get? b = some o := fun b o e => Heap.get?_push_of_some _ e
  have hu : (h₂.push (kxs_mw "ValueError.__init__" x)).get? h₂.objs.size = some (kxs_mw "ValueError.__init__" x) := Heap.get?_push_at rfl rfl
  refine kxs_callWith (i := "ValueError.__init__") (x := x) (by rfl) ?_
  refine evalArgs_plain (spliced_cons (wpAny_Constant_str (k := 0) (pos := q4) (spliced_nil ?_)))
  refine ⟨hu, ?_⟩
  refine wpAny_call (codeAny_of_tree ?_)
  show wpAny _ _ (callAny (.ref h₂.objs.size) ⟨[.str txt _], []⟩) _ _ _
  simp only [callAny]
  refine wpAny_bind (wpAny_load hu ?_)
  simp only [kxs_mw, show (Value.type "method-wrapper" == Value.type "method" || Value.type "method-wrapper" == Value.type "builtin_function_or_method" || Value.type "method-wrapper" == Value.type "method-wrapper") = true by decide, if_true]
  refine KFB.if_so (by decide) ?_
  have hC₃ := up₃ _ _ (X₂ _ _ hC)
  have hx₃ := up₃ _ _ I₂.at_
  refine wpAny_bind (check_bound_init F.excBase_ValueError.toExcCallFacts hC₃ hx₃ rfl ?_)
  refine wpAny_bind (wpAny_pure (wpAny_pure ?_))
  refine ⟨plainId_quiet F.excBase_ValueError.init.plain _, codeAny_builtin F.excBase_ValueError.initEntry ?_⟩
  refine exc_init_tree (cls := .ref C) (t0 := t0) (dv := none) (c2 := .none) (c3 := .none) (b4 := .bool false) hx₃ (one_size _) fun h₄ k₄ hx₄ ht₄ => ?_
  have k14 : ∀ b o, b ≠ x → h₁.get? b = some o → h₄.get? b = some o := fun b o hb e => k₄ b o hb (up₃ _ _ (k₂ _ _ e))
  have k04 : ∀ b o, b ≠ x → s.heap.get? b = some o → h₄.get? b = some o := fun b o hb e => k14 b o hb (k₁ _ _ e)
  have X₄ : K.In h₄ := fun a o e => k04 a o (fun z => by rw [z, hnx] at e; cases e) (X _ _ e)
  have hns₄ : h₄.Ns s.heap.objs.size (fun y => (([("self", .ref x), ("value", v)] : List (Str × Value)).reverse.lookup y)) := by
    obtain ⟨oL, es, ep, hL, r⟩ := hns
    exact ⟨oL, es, ep, k14 _ _ hxL hL, r⟩
  have sz : s.heap.objs.size < h₁.objs.size := hns.lt
  -- self.value = value
  show wpAt _ _ _ _ _ _ _
  refine wpAt_of_wpAny ?_
  refine wpAny_execs_cons (plainObj_wpAny_Assign_Attribute ?_)
  refine ESX.ldL (env := ksEnv qu iS s.heap.objs.size fI (.ref cda) cc) (v := v) hns₄ (by first | rfl | with_unfolding_all rfl | kernel_rfl) (ESX.ldL (env := ksEnv qu iS s.heap.objs.size fI (.ref cda) cc) (v := .ref x) hns₄ (by first | rfl | with_unfolding_all rfl | kernel_rfl) ?_)
  refine set_plain X₄ (ox := excO C (h₂.push (kxs_mw "ValueError.__init__" x)).objs.size) (od := none) ⟨hx₄, rfl, rfl, trivial⟩ T.sa ?_
  refine exc_osa X₄ hx₄ hcl (show refsVE (.ref C :: bm) = true from hbm) rfl T.noN (fun h₅ tk₅ dx k₅ dn dne hx₅ hn₅ => ?_)
  have le4 : h₁.objs.size ≤ h₄.objs.size := by
    have a1 := Heap.lt_size hso
    have a2 := Heap.lt_size ht₄
    have a3 := Heap.lt_size hu
    exact Nat.le_of_lt (Nat.lt_trans a1 (Nat.lt_trans a3 a2))
  exact wpAny_execs_nil (hq h₅ tk₅ _ dx ⟨fun b o hb e => k₅ b o hb (k04 b o hb e), hx₅, Nat.le_of_lt (Nat.lt_of_lt_of_le sz (Nat.le_trans le4 dn)), dne, hn₅⟩)
theorem made (T : Txt prog K mg n C fI) {v : Value} (X : K.In s.heap) (hG : s.heap.Ns mainGlobals mg) (hB : s.heap.Ns builtinsNs mb) (hb : mb "super" = some (.type "super")) (hlim : s.heap.NoLimit) (hroom : A.depth + 1 < recursionLimit)
    (hq : ∀ h' tk e d, OwnMade s.heap h' e C d v → R (.ok (.ret (.ref e))) { s with heap := h', toks := tk }) :
    codeAny (model prog w) A (.call (.ref C) ⟨[v], []⟩) R s := by
  obtain ⟨nm, q, N, bs, bm, sn, sub, ab, col, dd, k0, k1, k2, k3, k5, hC, hbm⟩ := T.cls
  obtain ⟨hp, g, dr, tk, os⟩ := s
  have k : ∀ b o, hp.get? b = some o → ((hp.push (kdv_tup [v])).push (excO C hp.objs.size)).get? b = some o := fun b o e => Heap.get?_push_of_some _ (Heap.get?_push_of_some _ e)
  have hget : ((hp.push (kdv_tup [v])).push (excO C hp.objs.size)).get? (hp.objs.size + 1) = some (excO C hp.objs.size) := by heap_get
  have hnx : K.lookup (hp.objs.size + 1) = none := by
    cases e : K.lookup (hp.objs.size + 1) with
    | none => rfl
    | some o =>
      have z : hp.get? (hp.objs.size + 1) = some o := X _ _ e
      exact absurd (Nat.lt_of_succ_lt (Heap.lt_size z)) (Nat.lt_irrefl _)
  refine call_own F.excBase_ValueError (fun X => refsVE_contains X bm hbm) (X _ _ hC) (looks_findIn X T.iC) (fun self => bind_fn X self T.tC) (one_size v) ?_
  refine init (s := ⟨(hp.push (kdv_tup [v])).push (excO C hp.objs.size), g, dr, tk, os⟩) T (X.keeps k) (hG.keeps k) (hB.keeps k) hb (hlim.keeps k) hget hnx ?_ fun h' tk' t1 dx ⟨k', hx, dn, dne, hns⟩ => ?_
  · show A.depth + 1 < recursionLimit
    exact hroom
  · have old : ∀ b o, hp.get? b = some o → h'.get? b = some o := fun b o e => k' b o (Nat.ne_of_lt (Nat.lt_succ_of_lt (Heap.lt_size e))) (k b o e)
    have z : hp.objs.size + 1 + 1 ≤ dx := by
      first
        | (simpa only [Heap.size_push] using dn)
        | exact dn
        | (have q := dn; rw [Heap.size_push, Heap.size_push] at q; exact q)
    exact ⟨rfl, hq h' tk' (hp.objs.size + 1) dx ⟨old, Nat.le_succ _, ⟨_, _, hx, rfl, rfl, rfl, rfl⟩, Nat.le_trans (Nat.le_trans (Nat.le_succ _) (Nat.le_succ _)) z, dne, hns⟩⟩
end
end Sxvalue
end PySem
namespace L2
open PySem PySem.Spec PyProof.Rows
theorem relO_value {v : V} {v' : Value} (r : RelV v v') (f : Str) : RelO (List.lookup f [(("value" : Str), v)]) (if f = "value" then some v' else none) := by
  by_cases hw : f = "value"
  · subst hw
    rw [if_pos rfl]
    have q : List.lookup ("value" : Str) [(("value" : Str), v)] = some v := by simp [List.lookup]
    rw [q]
    exact r
  · rw [if_neg hw]
    have qw : (f == ("value" : Str)) = false := by simpa using hw
    have q2 : List.lookup f [(("value" : Str), v)] = none := by simp [List.lookup, qw]
    rw [q2]
    trivial
section
variable {X : Cx} {C fI : Addr}
/-- x(e) : an exception of the class at C, its dict d new -/
def tMkvalue (C : Addr) (ta : TA) : St → Hp → XK → Prop := fun σ H Q => ta σ H fun vs H1 => ∃ v, vs = [v] ∧ ∀ d, H1 d = none → Q (.ref C) (some d) (upd H1 d (.xd [(("value" : Str), v)]))
theorem pmkvalue {x : Str} {a : Expr} {ta : TA} {p pos : Pos} {k : Nat} (T : PySem.Sxvalue.Txt X.prog X.K X.mg x C fI) (hr : Room k X.A) (ha : PA X [a] ta) (hg : Gl X x := by rfl) (hdb : (x == ("__debug__" : Str)) = false := by decide)
    (he : starEach (a :: []) X.env = (false, eval a X.env) :: starEach [] X.env := by rfl) (hpl : (backTo pos (starEach [] X.env)).any (·.1) = false := by rfl) :
    PMk X (.Call (.Name x p) [a] [] pos) (tMkvalue C ta) := by
  intro pins s σ H Q I h
  refine wpAny_Call_Name_kw (ld_glob I hg T.gC ?_ hdb)
  refine PySem.W.callWith_K (h₀ := X.base) I.ok.mod.kin T.kC (thn (ha.run pos pins s σ H _ I h) fun us s1 hh => ?_) he hpl
  obtain ⟨vs, H1, I1, r1, v, ev, q1⟩ := hh
  subst ev
  refine ⟨I1.kIn, ?_⟩
  cases r1 with
  | cons rv rn =>
    rename_i v' us'
    cases rn
    show wpAny _ _ (call (.ref C) [v']) _ _ _
    have hlim := I1.nolimit
    obtain ⟨mb, b1, b2⟩ := I1.mod.blt
    have hG1 := I1.mod.glob.keeps I1.bk
    have hB1 := b1.keeps I1.bk
    obtain ⟨hp, g, dr, tk, os⟩ := s1
    refine wpAny_call (PySem.Sxvalue.made T I1.kIn hG1 hB1 ((b2 _ (by decide)).trans (by first | boot_by_name | rfl | kernel_rfl)) hlim (by have := hr.dp; omega) fun h' tk' e d M => ?_)
    show MkP X pins σ Q (.ref e) ⟨h', g, dr, tk', os⟩
    obtain ⟨oe, fv, hoe, hc, hd, hdat, h1⟩ := M.obj
    have hns := M.ns
    obtain ⟨G', g1, g2⟩ := restrict h' fun b => decide (b ≠ e)
    have gk : ∀ b, b ≠ e → G'.get? b = h'.get? b := fun b hb => g1 b (decide_eq_true hb)
    have ge : G'.get? e = none := g2 e (by simp)
    have old : ∀ b o, hp.get? b = some o → G'.get? b = some o := fun b o q => (gk b (Nat.ne_of_lt (Nat.lt_of_lt_of_le (Heap.lt_size q) M.new))).trans (M.keep b o q)
    have ob : ObjOk X.prog X.w (upd H1 d (.xd [(("value" : Str), v)])) G' d (.xd [(("value" : Str), v)]) :=
      ⟨_, hns.at (fun o q => (gk d M.dne).trans q), fun f => relO_value rv f⟩
    have J : Inv X pins σ (upd H1 d (.xd [(("value" : Str), v)])) ⟨G', g, dr, tk', os⟩ := I1.laid (t' := tk') old M.dbig ob
    refine ⟨e, oe, fv, ⟨G', g, dr, tk', os⟩, _, .ref C, some d, rfl, J, fun b o q => ?_, ge, hoe, ⟨hc, hd⟩, hdat, h1, ?_, rfl, I1.bare, raises_own T.exC T.tyC, q1 d (I1.hok.fresh M.dbig)⟩
    · by_cases hb : b = e
      · have q' : G'.get? b = some o := q
        rw [hb, ge] at q'; cases q'
      · exact (gk b hb).symm.trans q
    · rw [upd_ne (Ne.symm M.dne)]
      exact I1.hok.fresh M.new
/-- raise x(e) -/
def tRaisevalue (C : Addr) (W : WX) (ta : TA) : TS := fun _ σ H => tMkvalue C ta σ H fun cls d H' => W cls d σ H'
theorem ps_raisevalue {x : Str} {a : Expr} {ta : TA} {W : WX} {p pos pos2 : Pos} {k : Nat} (hc : X.calm = true) (T : PySem.Sxvalue.Txt X.prog X.K X.mg x C fI) (hr : Room k X.A) (tk : Takes X W) (ha : PA X [a] ta) (hg : Gl X x := by rfl) (hdb : (x == ("__debug__" : Str)) = false := by decide)
    (he : starEach (a :: []) X.env = (false, eval a X.env) :: starEach [] X.env := by rfl) (hpl : (backTo pos (starEach [] X.env)).any (·.1) = false := by rfl) :
    PS X (.Raise (some (.Call (.Name x p) [a] [] pos)) none pos2) (tRaisevalue C W ta) := ps_raise hc tk (pmkvalue T hr ha hg hdb he hpl)
end
end L2

namespace Z
open PySem PySem.Spec PyProof.Rows L2
/-- the init's params, body as the text has them -/
def Chkvalue (P0 : Program) (K : PySem.W.Frag) (x : Str) : Bool :=
  eqB (PySem.W.findIn K (.ref (He.ga K x)) "__setattr__") (some (some (.builtin "object.__setattr__"))) && (eqB (PySem.W.findIn K (.ref (He.ga K x)) "value") (some none) && (clsB K (He.ga K x) && initB P0 K x))
theorem chkvalue_ok {P P0 : Program} {K : PySem.W.Frag} {mg : Str → Option Value} {x : Str} {qu txt : Str} {p1 p2 q1 q2 q3 q4 q5 q6 r1 r2 r3 r4 : Pos} (g : mg x = some (.ref (He.ga K x))) (ns : mg "super" = none)
    (hf : P.main.file = P0.main.file) (hs : (P.main.scope.names.lookup ("super" : Str)).isSome = false)
    (e : fnS K (x, some "__init__") = (some ("__init__", qu, PySem.Sxvalue.iA p1 p2, FuncBody.stmts (PySem.Sxvalue.iB txt q1 q2 q3 q4 q5 q6 r1 r2 r3 r4), PySem.Sxvalue.iS, mainGlobals, [("__class__" : Str)], builtinsNs) : FnS)) (hl : (q3.endLine == q5.line) = true)
    (c : Chkvalue P0 K x = true) : PySem.Sxvalue.Txt P K mg x (He.ga K x) (He.ma K (He.ga K x) "__init__") := by
  obtain ⟨c1, c⟩ := He.ba c
  obtain ⟨c2, c⟩ := He.ba c
  obtain ⟨c3, c4⟩ := He.ba c
  obtain ⟨d1, d2, d3, d4, d5, d6, d7⟩ := initB_ok c4
  obtain ⟨oc, od, osl, doc, pm, an, cda, ct, cc, hL, hq, hcell, hcode⟩ := d7 _ _ _ _ _ e
  obtain ⟨k1, k2, k3, k4, k5, k6, k7⟩ := d6
  exact ⟨g, ns, clsB_ok c3, eqB_ok c1, eqB_ok c2, d1, d2, k1, k2, k3, k4, k5, k6, k7, hs,
    ⟨qu, txt, oc, od, doc, pm, an, cda, ct, osl, cc, p1, p2, q1, q2, q3, q4, q5, q6, r1, r2, r3, r4, hL, hq, hcell, (by rw [hf]; exact hcode), hl⟩⟩
end Z
namespace Z
open PySem PySem.Spec PyProof.Rows L2 Evl
theorem s_raisevalue {C : Addr} {W : WX} {ta : TA} {D : Ends} {σ : L2.St} {H : Hp} (h : ta σ H fun vs H1 => ∃ v, vs = [v] ∧ ∀ d, H1 d = none → W (.ref C) (some d) σ (upd H1 d (.xd [(("value" : Str), v)]))) : tRaisevalue C W ta D σ H := h
theorem rzvalue {K : PySem.W.Frag} {x : Str} {v : V} {H0 H : Hp} {E : XK} (r : Rz K x "value" v H0 E) (e : Ex H0 H) : ∃ v', [v] = [v'] ∧ ∀ d, H d = none → E (.ref (He.ga K x)) (some d) (upd H d (.xd [(("value" : Str), v')])) :=
  ⟨v, rfl, fun d hd => r _ d (e.trans (Ex.new hd)) upd_same⟩
end Z

/-! ### a, *b = a tuple or list -/
namespace Z
open PySem PySem.Spec PySem.Calls PyProof.Rows L2 Evl
section
variable {prog : Program} {w : World} {A : Around} {E : Value → Shared → Prop} {s : Shared}
theorem star_tup {l : Addr} {items : Array Value} {n i : Nat} {Q : List Value → Shared → Prop} (hl : IsTup s.heap l items) (hh : A.handled = none) (hi : i < n) (hn : n ≤ items.size + 1) (hz : items.size ≤ 16384)
    (h : ∀ (h₂ : Heap) (tk : Nat), (∀ b o, s.heap.get? b = some o → h₂.get? b = some o) →
      Q (items.toList.take i ++ [.ref h₂.objs.size] ++ (items.toList.drop i).drop (items.size + 1 - n)) { s with heap := h₂.push { cls := .type "list", data := .seq ((items.toList.drop i).take (items.size + 1 - n)).toArray }, toks := tk }) : wpAny (model prog w) A (unpackItems (.ref l) n (some i)) Q E s := by
  have hlt : l ≠ s.heap.objs.size := by obtain ⟨o, ho, _⟩ := hl; exact Nat.ne_of_lt (Heap.lt_size ho)
  unfold unpackItems
  refine wpAny_bind ?_
  unfold notIterableAtAll
  refine wpAny_bind (wpAny_specialOf hl.typeIs slot_tuple_iter.lookup ?_)
  refine wpAny_pure ?_
  simp only [Bool.false_eq_true, if_false]
  refine wpAny_bind (wpAny_holding (iter_tuple hl ?_))
  refine wpAny_bind (wpAny_holding (draw_tuple hlt i 0 _ _ ⟨_, Heap.get?_push_size _ rfl, rfl, rfl⟩ (hl.push _) (by omega) fun h₁ hit₁ hs₁ => ?_))
  have hl₁ : IsTup h₁ l items := (hl.push _).extBut hs₁.extBut hlt
  rw [Nat.zero_add] at hit₁
  have hit₁' := hit₁
  obtain ⟨oi, hoi, _⟩ := hit₁'
  have hl₁' := hl₁
  obtain ⟨ol, hol, _⟩ := hl₁'
  rw [List.drop_zero]
  have hfl : (items.toList.take i).length = i := by rw [List.length_take, Array.length_toList]; omega
  rw [if_neg (show ¬ ((items.toList.take i).length < i) by rw [hfl]; omega)]
  refine wpAny_bind (wpAny_holding (PySem.W.kun_collect (s := { s with heap := h₁ }) (T := "tuple_iterator") (.inr (.inr (.inr rfl))) (Walks.tuple (A := A.in1) hh s.heap.objs.size l hlt items) (fun j u st => st.1.typeIs) (k := i) (by omega) ⟨hit₁, hl₁⟩ (Heap.lt_size hoi) (Heap.lt_size hol) (fun h₂ tk hk => ?_) (by rw [sizeLine_eq]; omega)))
  have hrl : (items.toList.drop i).length = items.size - i := by rw [List.length_drop, Array.length_toList]
  have hmid : (items.toList.drop i).length - (n - 1 - i) = items.size + 1 - n := by rw [hrl]; omega
  show wpAny _ _ (if (items.toList.drop i).length < n - 1 - i then _ else _) _ _ _
  rw [if_neg (by rw [hrl]; omega)]
  show wpAny _ _ (newList ((items.toList.drop i).take ((items.toList.drop i).length - (n - 1 - i))) >>= fun d => pure (items.toList.take i ++ [d] ++ (items.toList.drop i).drop ((items.toList.drop i).length - (n - 1 - i)))) _ _ _
  rw [hmid]
  have he : Heap.ExtBut s.heap.objs.size s.heap h₂ := fun b o hb e => hk b o hb (hs₁.extBut b o hb (Heap.get?_push_of_some _ e))
  refine wpAny_bind (wpAny_newObj_type (wpAny_pure ?_) ?_)
  · exact h h₂ tk fun b o e => he b o (Nat.ne_of_lt (Heap.lt_size e)) e
  · have h0 : ((items.toList.drop i).take (items.size + 1 - n)).length ≤ 16384 := by rw [List.length_take, hrl]; omega
    have h1 : ((items.toList.drop i).take (items.size + 1 - n)).toArray.size ≤ sizeLine := by rw [List.size_toArray, sizeLine_eq]; omega
    first
      | exact decide_eq_true h1
      | (simp [sizeOk, sizeLine_eq]; omega)
theorem star_list {l : Addr} {items : Array Value} {n i : Nat} {Q : List Value → Shared → Prop} (hl : s.heap.IsList l items) (hh : A.handled = none) (hi : i < n) (hn : n ≤ items.size + 1) (hz : items.size ≤ 16384)
    (h : ∀ (h₂ : Heap) (tk : Nat), (∀ b o, s.heap.get? b = some o → h₂.get? b = some o) →
      Q (items.toList.take i ++ [.ref h₂.objs.size] ++ (items.toList.drop i).drop (items.size + 1 - n)) { s with heap := h₂.push { cls := .type "list", data := .seq ((items.toList.drop i).take (items.size + 1 - n)).toArray }, toks := tk }) : wpAny (model prog w) A (unpackItems (.ref l) n (some i)) Q E s := by
  have hlt : l ≠ s.heap.objs.size := by obtain ⟨o, ho, _⟩ := hl; exact Nat.ne_of_lt (Heap.lt_size ho)
  unfold unpackItems
  refine wpAny_bind ?_
  unfold notIterableAtAll
  refine wpAny_bind (wpAny_specialOf hl.typeIs slot_list_iter.lookup ?_)
  refine wpAny_pure ?_
  simp only [Bool.false_eq_true, if_false]
  refine wpAny_bind (wpAny_holding (wpAny_pyIter_list hl ?_))
  refine wpAny_bind (wpAny_holding (PySem.W.kun_draw hlt i 0 _ _ ⟨_, Heap.get?_push_size _ rfl, rfl, rfl⟩ (hl.push _) (by omega) fun h₁ hit₁ hs₁ => ?_))
  have hl₁ : h₁.IsList l items := (hl.push _).extBut hs₁.extBut hlt
  rw [Nat.zero_add] at hit₁
  have hit₁' := hit₁
  obtain ⟨oi, hoi, _⟩ := hit₁'
  have hl₁' := hl₁
  obtain ⟨ol, hol, _⟩ := hl₁'
  rw [List.drop_zero]
  have hfl : (items.toList.take i).length = i := by rw [List.length_take, Array.length_toList]; omega
  rw [if_neg (show ¬ ((items.toList.take i).length < i) by rw [hfl]; omega)]
  refine wpAny_bind (wpAny_holding (PySem.W.kun_collect (s := { s with heap := h₁ }) (T := "list_iterator") (.inr (.inr (.inl rfl))) (Walks.list (A := A.in1) hh s.heap.objs.size l hlt items) (fun j u st => st.1.typeIs) (k := i) (by omega) ⟨hit₁, hl₁⟩ (Heap.lt_size hoi) (Heap.lt_size hol) (fun h₂ tk hk => ?_) (by rw [sizeLine_eq]; omega)))
  have hrl : (items.toList.drop i).length = items.size - i := by rw [List.length_drop, Array.length_toList]
  have hmid : (items.toList.drop i).length - (n - 1 - i) = items.size + 1 - n := by rw [hrl]; omega
  show wpAny _ _ (if (items.toList.drop i).length < n - 1 - i then _ else _) _ _ _
  rw [if_neg (by rw [hrl]; omega)]
  show wpAny _ _ (newList ((items.toList.drop i).take ((items.toList.drop i).length - (n - 1 - i))) >>= fun d => pure (items.toList.take i ++ [d] ++ (items.toList.drop i).drop ((items.toList.drop i).length - (n - 1 - i)))) _ _ _
  rw [hmid]
  have he : Heap.ExtBut s.heap.objs.size s.heap h₂ := fun b o hb e => hk b o hb (hs₁.extBut b o hb (Heap.get?_push_of_some _ e))
  refine wpAny_bind (wpAny_newObj_type (wpAny_pure ?_) ?_)
  · exact h h₂ tk fun b o e => he b o (Nat.ne_of_lt (Heap.lt_size e)) e
  · have h0 : ((items.toList.drop i).take (items.size + 1 - n)).length ≤ 16384 := by rw [List.length_take, hrl]; omega
    have h1 : ((items.toList.drop i).take (items.size + 1 - n)).toArray.size ≤ sizeLine := by rw [List.size_toArray, sizeLine_eq]; omega
    first
      | exact decide_eq_true h1
      | (simp [sizeOk, sizeLine_eq]; omega)
end
/-- (a, .., *b, .., c) = a tuple or a list: the starred one stands at i, n targets -/
def gStar (K : PySem.W.Frag) (n i : Nat) (t : TGs) : TG := fun v σ H Q => ∃ a xs, v = .ref a ∧ (SqT K H a xs ∨ SqL K H a xs) ∧ n ≤ xs.length + 1 ∧ xs.length ≤ 16384 ∧
  ∀ D, H D = none → t (xs.take i ++ [.ref D] ++ (xs.drop i).drop (xs.length + 1 - n)) σ (upd H D (.lst ((xs.drop i).take (xs.length + 1 - n)))) Q
theorem pg_star {X : Cx} {es es' : List Expr} {k : Nat} {pos : Pos} {t : TGs} {n i : Nat} (hc : X.calm = true) (h : PGs X es' t) (hn : (assignEach es X.env).length = n := by rfl) (hst : (assignEach es X.env).findIdx? (·.1) = some i := by rfl)
    (he : (assignEach es X.env).map (·.2) = (assignEach es' X.env).map (·.2) := by rfl) (hi : i < n := by decide) : PG X (.Tuple es k pos) (gStar X.K n i t) := by
  refine ⟨fun pins s σ H v u Q I r hw => ?_⟩
  obtain ⟨a, xs, e1, hq, hl, hz, hw⟩ := hw
  subst e1
  cases r
  rw [assign_Tuple]
  refine wpAny_bind (wpAny_standAt ?_)
  unfold unpack
  rw [hn, hst, he]
  have go : ∀ its : List Value, Vals xs its → (∀ {Q' : List Value → Shared → Prop} {E' : Value → Shared → Prop}, (∀ (h₂ : Heap) (tk : Nat), (∀ b o, s.heap.get? b = some o → h₂.get? b = some o) →
      Q' (its.toArray.toList.take i ++ [.ref h₂.objs.size] ++ (its.toArray.toList.drop i).drop (its.toArray.size + 1 - n)) { s with heap := h₂.push { cls := .type "list", data := .seq ((its.toArray.toList.drop i).take (its.toArray.size + 1 - n)).toArray }, toks := tk }) → wpAny (model X.prog X.w) X.A (unpackItems (.ref a) n (some i)) Q' E' s) →
      wpAny (model X.prog X.w) X.A (do assignInOrder ((assignEach es' X.env).map (·.2)) (← holding [.ref a] (unpackItems (.ref a) n (some i)))) (fun _ s' => ∃ σ' H', Inv X pins σ' H' s' ∧ Q σ' H') X.xe s := by
    intro its rv run
    have el : its.length = xs.length := rv.length.symm
    refine wpAny_bind (wpAny_holding (run fun h₂ tk k => ?_))
    have I1 : Inv X pins σ H { s with heap := h₂, toks := tk } := I.kept k
    have hD : H h₂.objs.size = none := I1.hok.fresh (Nat.le_refl _)
    have rm : Vals ((xs.drop i).take (xs.length + 1 - n)) ((its.drop i).take (its.length + 1 - n)) := by
      rw [el]
      exact (rv.drop i).take _
    have I2 := I1.lnew (t' := tk) rm (by rw [List.length_take, List.length_drop, sizeLine_eq]; omega)
    have r2 : Vals (xs.take i ++ [.ref h₂.objs.size] ++ (xs.drop i).drop (xs.length + 1 - n)) (its.take i ++ [.ref h₂.objs.size] ++ (its.drop i).drop (its.length + 1 - n)) := by
      rw [el]
      exact ((rv.take i).append (.cons (show RelV (V.ref h₂.objs.size) (Value.ref h₂.objs.size) from rfl) .nil)).append ((rv.drop i).drop _)
    exact h.run pins _ σ _ _ _ Q I2 r2 (hw _ hD)
  rcases hq with hq | hq
  · obtain ⟨its, rv, ht, _⟩ := I.tuple hq
    have el : its.length = xs.length := rv.length.symm
    exact go its rv fun {Q' E'} hh => star_tup ht (I.ok.hd hc) hi (by rw [List.size_toArray]; omega) (by rw [List.size_toArray]; omega) hh
  · obtain ⟨its, rv, ht, _⟩ := I.list hq
    have el : its.length = xs.length := rv.length.symm
    exact go its rv fun {Q' E'} hh => star_list ht.isList (I.ok.hd hc) hi (by rw [List.size_toArray]; omega) (by rw [List.size_toArray]; omega) hh
end Z

/-! L5: membership at any depth, dicts in the wide rules, conversions, methods of lists and dicts -/
namespace Z
open PySem PySem.Spec PyProof.Rows L2 Evl
def vOf : Value → V
  | .none => .non
  | .bool b => .bl b
  | .int i _ => .int i
  | .str x _ => .str x
  | .bytes b _ => .byt b
  | .float b _ => .flt b
  | .ref a => .ref a
  | .type n => .ty n
  | _ => .non
theorem vOf_rel {y : V} {u : Value} (r : RelV y u) : vOf u = y := by
  cases y with
  | int i => obtain ⟨t, rfl⟩ := r; rfl
  | str i => obtain ⟨t, rfl⟩ := r; rfl
  | byt i => obtain ⟨t, rfl⟩ := r; rfl
  | flt i => obtain ⟨t, rfl⟩ := r; rfl
  | _ => cases r; rfl
/-- x in a list or tuple: g tells which items it equals -/
def rInG (K : PySem.W.Frag) (neg : Bool) : R2 := fun x y H Q => ∃ (p : Addr) (xs : List V) (g : V → Bool), y = .ref p ∧ (SqL K H p xs ∨ SqT K H p xs) ∧ (∀ z ∈ xs, EqI K H 60 z x (g z)) ∧ Q (.bl (if neg then !xs.any g else xs.any g)) H
theorem any_vOf (g : V → Bool) : ∀ {xs : List V} {us : List Value}, Vals xs us → us.any (fun u => g (vOf u)) = xs.any g
  | _, _, .nil => rfl
  | _, _, .cons r t => by rw [List.any_cons, List.any_cons, vOf_rel r, any_vOf g t]
theorem mem_vOf {A : Around} {s : Shared} {x : V} {v : Value} {g : V → Bool} : ∀ {xs : List V} {us : List Value}, Vals xs us → (∀ z ∈ xs, ∀ u, RelV z u → SeqAt.EqAt A s u v (g z)) → ∀ u ∈ us, SeqAt.EqAt A s u v (g (vOf u))
  | _, _, .nil, _ => fun u hu => by cases hu
  | z :: xs, u :: us, .cons r t, h => fun w hw => by
    rcases List.mem_cons.mp hw with rfl | hw
    · rw [vOf_rel r]; exact h z (List.mem_cons_self ..) _ r
    · exact mem_vOf (x := x) t (fun z hz => h z (List.mem_cons_of_mem _ hz)) w hw
section
variable {X : Cx}
theorem op_inG (hu : X.A.units + 64 < cLine) : OpR X (compareOp .In) (rInG X.K false) := by
  intro pins s σ H x y v u Q I rx ry h
  obtain ⟨p, xs, g, rfl, hq, he, q⟩ := h
  cases ry
  have run : ∀ z ∈ xs, ∀ w, RelV z w → SeqAt.EqAt X.A.in1 s w v (g z) := fun z hz w rw' => EqI.run I (A := X.A.in1) (by show X.A.units + 1 + 60 < cLine; omega) (he z hz) rw' rx
  rcases hq with hq | hq
  · obtain ⟨its, r, pl, hz⟩ := I.list hq
    refine SeqAt.in_listAt (fun u => g (vOf u)) pl.isList (fun w hw => mem_vOf (x := x) r run w (by simpa using hw)) ⟨.bl _, H, I, rfl, ?_⟩
    rw [show its.toArray.any (fun u => g (vOf u)) = its.any (fun u => g (vOf u)) by simp, any_vOf g r]
    exact q
  · obtain ⟨its, r, pl, hz⟩ := I.tuple hq
    refine SeqAt.in_tupleAt (fun u => g (vOf u)) pl (fun w hw => mem_vOf (x := x) r run w (by simpa using hw)) ⟨.bl _, H, I, rfl, ?_⟩
    rw [show its.toArray.any (fun u => g (vOf u)) = its.any (fun u => g (vOf u)) by simp, any_vOf g r]
    exact q
theorem op_ninG (hu : X.A.units + 64 < cLine) : OpR X (compareOp .NotIn) (rInG X.K true) := by
  intro pins s σ H x y v u Q I rx ry h
  obtain ⟨p, xs, g, rfl, hq, he, q⟩ := h
  cases ry
  have run : ∀ z ∈ xs, ∀ w, RelV z w → SeqAt.EqAt X.A.in1 s w v (g z) := fun z hz w rw' => EqI.run I (A := X.A.in1) (by show X.A.units + 1 + 60 < cLine; omega) (he z hz) rw' rx
  rcases hq with hq | hq
  · obtain ⟨its, r, pl, hz⟩ := I.list hq
    refine SeqAt.notIn_listAt (fun u => g (vOf u)) pl.isList (fun w hw => mem_vOf (x := x) r run w (by simpa using hw)) ⟨.bl _, H, I, rfl, ?_⟩
    rw [show its.toArray.any (fun u => g (vOf u)) = its.any (fun u => g (vOf u)) by simp, any_vOf g r]
    exact q
  · obtain ⟨its, r, pl, hz⟩ := I.tuple hq
    refine SeqAt.notIn_tupleAt (fun u => g (vOf u)) pl (fun w hw => mem_vOf (x := x) r run w (by simpa using hw)) ⟨.bl _, H, I, rfl, ?_⟩
    rw [show its.toArray.any (fun u => g (vOf u)) = its.any (fun u => g (vOf u)) by simp, any_vOf g r]
    exact q
def rInDc : R2 := fun x y H Q => ∃ a o, y = .ref a ∧ DGet H a x o ∧ Q (.bl o.isSome) H
def rNinDc : R2 := fun x y H Q => ∃ a o, y = .ref a ∧ DGet H a x o ∧ Q (.bl (!o.isSome)) H
theorem op_inDc (hu : X.A.units + 64 < cLine) : OpR X (compareOp .In) rInDc := by
  intro pins s σ H x y v u Q I rx ry h
  obtain ⟨a, o, rfl, g, q⟩ := h
  cases ry
  exact d_in (by omega) I g rx fun s3 I3 => ⟨.bl o.isSome, H, I3, rfl, q⟩
theorem op_ninDc (hu : X.A.units + 64 < cLine) : OpR X (compareOp .NotIn) rNinDc := by
  intro pins s σ H x y v u Q I rx ry h
  obtain ⟨a, o, rfl, g, q⟩ := h
  cases ry
  exact d_notIn (by omega) I g rx fun s3 I3 => ⟨.bl (!o.isSome), H, I3, rfl, q⟩
def rInB (K : PySem.W.Frag) : R2 := fun x y H Q => rInA K x y H Q ∨ rInG K false x y H Q ∨ rInDc x y H Q
def rNinB (K : PySem.W.Frag) : R2 := fun x y H Q => rNinA K x y H Q ∨ rInG K true x y H Q ∨ rNinDc x y H Q
theorem op_inB (hu : X.A.units + 64 < cLine) : OpR X (compareOp .In) (rInB X.K) := op_inA.or ((op_inG hu).or (op_inDc hu))
theorem op_ninB (hu : X.A.units + 64 < cLine) : OpR X (compareOp .NotIn) (rNinB X.K) := op_ninA.or ((op_ninG hu).or (op_ninDc hu))
def rIxDc : R2 := fun x y H Q => ∃ a v, x = .ref a ∧ DGet H a y (some v) ∧ Q v H
theorem ix_Dc (hu : X.A.units + 64 < cLine) : IxR X rIxDc := by
  intro value slice pins s σ H x y v u Q I rx ry h hs
  obtain ⟨a, r, rfl, g, q⟩ := h
  obtain rfl : v = Value.ref a := rx
  exact tail_any (dict_typeIs I g) PySem.F.slot_dict_getitem.lookup (d_getItem (by omega) I g ry fun w' s3 I3 rw' => ⟨r, H, I3, rw', q⟩) hs
def rIxB (K : PySem.W.Frag) : R2 := fun x y H Q => rIx K x y H Q ∨ rIxDc x y H Q
theorem ix_B (hu : X.A.units + 64 < cLine) : IxR X (rIxB X.K) := ix_seq.or (ix_Dc hu)
def rSetB : TSet := fun o i v H Q => rSetL o i v H Q ∨ rSetD o i v H Q
theorem set_B (hu : X.A.units + 64 < cLine) : PSet X rSetB := by
  intro pins s σ H o i v ov iv u Q I ro ri rv h
  rcases h with h | h
  · exact set_list pins s σ H o i v ov iv u Q I ro ri rv h
  · exact set_dict (by omega) pins s σ H o i v ov iv u Q I ro ri rv h
/-! conversions -/
def rListA (K : PySem.W.Frag) : List V → Hp → VK → Prop := fun xs H Q => ∃ p ys, xs = [.ref p] ∧ (SqL K H p ys ∨ SqT K H p ys) ∧ ∀ l, H l = none → Q (.ref l) (upd H l (.lst ys))
theorem call_listA : CallR X (.type "list") (rListA X.K) := call_list_of
def rTupA (K : PySem.W.Frag) : List V → Hp → VK → Prop := fun xs H Q => ∃ p ys, xs = [.ref p] ∧ ((SqL K H p ys ∧ ∀ l, H l = none → Q (.ref l) (upd H l (.tup ys))) ∨ (SqT K H p ys ∧ Q (.ref p) H))
theorem call_tupA : CallR X (.type "tuple") (rTupA X.K) := call_tuple_of
def rIntA : List V → Hp → VK → Prop := fun xs H Q => (∃ i, xs = [.int i] ∧ Q (.int i) H) ∨ ∃ k, xs = [.bl k] ∧ Q (.int (if k then 1 else 0)) H
theorem call_intA : CallR X (.type "int") rIntA := call_int1
def rStrA : List V → Hp → VK → Prop := fun xs H Q => (∃ i, xs = [.int i] ∧ i.natAbs.log2 < 1920 ∧ Q (.str (toString i)) H) ∨ ∃ a, xs = [.str a] ∧ Q (.str a) H
theorem call_strA : CallR X (.type "str") rStrA := call_str_int.or SkE.call_str_str
/-! methods -/
def rPopA : V → List V → Hp → VK → Prop := fun x vs H Q => rPop x vs H Q ∨ rPopAt x vs H Q
theorem mt_popA : MtR X "list.pop" rPopA := MtR.or mt_pop mt_popAt
def rInsert : V → List V → Hp → VK → Prop := fun x vs H Q => ∃ (l : Addr) (xs : List V) (i : Int) (y : V), x = .ref l ∧ vs = [.int i, y] ∧ H l = some (.lst xs) ∧ xs.length < sizeLine ∧ 0 ≤ i ∧ i < 2 ^ 63 ∧
    Q .non (upd H l (.lst (xs.take i.toNat ++ [y] ++ xs.drop i.toNat)))
theorem mt_insertA : MtR X "list.insert" rInsert := mt_insert
def rDGet : V → List V → Hp → VK → Prop := fun x vs H Q => ∃ a, x = .ref a ∧ ((∃ y o, vs = [y] ∧ DGet H a y o ∧ Q (o.getD .non) H) ∨ ∃ y z o, vs = [y, z] ∧ DGet H a y o ∧ Q (o.getD z) H)
theorem mt_dget (hu : X.A.units + 64 < cLine) : MtR X "dict.get" rDGet := by
  intro pins s σ H x xs v us Q I rx rxs h
  obtain ⟨a, rfl, h | h⟩ := h
  · obtain ⟨y, o, rfl, g, q⟩ := h
    cases rx
    obtain ⟨u, rfl, ru⟩ := Vals.one rxs
    exact d_get1 (by omega) I g ru fun w' s3 I3 rw' => ⟨_, H, I3, rw', q⟩
  · obtain ⟨y, z, o, rfl, g, q⟩ := h
    cases rx
    obtain ⟨u1, u2, rfl, r1, r2⟩ := Vals.two rxs
    exact d_get2 (by omega) I g r1 r2 fun w' s3 I3 rw' => ⟨_, H, I3, rw', q⟩
end
/-! steps -/
section
variable {K : PySem.W.Frag} {σ : L2.St} {H : Hp} {Q : VK} {x y v : V}
theorem s_bm {T : String} {r : V → List V → Hp → VK → Prop} {to : TE} {t : TA} (h : to σ H fun x H1 => tyV K T x H1 ∧ t σ H1 fun xs H2 => r x xs H2 Q) : tBM K T r to t σ H Q := h
theorem s_bm0 {T : String} {r : V → List V → Hp → VK → Prop} {to : TE} (h : to σ H fun x H1 => tyV K T x H1 ∧ r x [] H1 Q) : tBM0 K T r to σ H Q := h
theorem s_tyS {z : Str} {A : Prop} (h : A) : tyV K "str" (.str z) H ∧ A := ⟨rfl, h⟩
theorem s_inB {x y : V} (h : rInA K x y H Q) : rInB K x y H Q := .inl h
theorem s_ninB {x y : V} (h : rNinA K x y H Q) : rNinB K x y H Q := .inl h
theorem s_inG {p : Addr} {xs : List V} (g : V → Bool) (h : H p = some (.lst xs) ∨ H p = some (.tup xs)) (e : ∀ z ∈ xs, EqI K H 60 z x (g z)) (q : Q (.bl (xs.any g)) H) : rInB K x (.ref p) H Q :=
  .inr (.inl ⟨p, xs, g, rfl, h.elim (fun h => .inl (SqL.of h)) (fun h => .inr (SqT.of h)), e, q⟩)
theorem s_ninG {p : Addr} {xs : List V} (g : V → Bool) (h : H p = some (.lst xs) ∨ H p = some (.tup xs)) (e : ∀ z ∈ xs, EqI K H 60 z x (g z)) (q : Q (.bl (!xs.any g)) H) : rNinB K x (.ref p) H Q :=
  .inr (.inl ⟨p, xs, g, rfl, h.elim (fun h => .inl (SqL.of h)) (fun h => .inr (SqT.of h)), e, q⟩)
theorem s_inF {p : Addr} {xs : List V} (h : H p = some (.lst xs) ∨ H p = some (.tup xs)) (fx : flatV x = true) (fs : xs.all flatV = true) (q : Q (.bl (inV x xs)) H) : rInB K x (.ref p) H Q :=
  .inl (.inr (.inl ⟨p, xs, rfl, h.elim (fun h => .inl (SqL.of h)) (fun h => .inr (SqT.of h)), fx, fs, q⟩))
theorem s_ninF {p : Addr} {xs : List V} (h : H p = some (.lst xs) ∨ H p = some (.tup xs)) (fx : flatV x = true) (fs : xs.all flatV = true) (q : Q (.bl (!inV x xs)) H) : rNinB K x (.ref p) H Q :=
  .inl (.inr (.inl ⟨p, xs, rfl, h.elim (fun h => .inl (SqL.of h)) (fun h => .inr (SqT.of h)), fx, fs, q⟩))
theorem s_in1B {c : Nat} {z : Str} (q : Q (.bl (decide (c ∈ z.cps.toList))) H) : rInB K (.str ⟨#[c]⟩) (.str z) H Q := .inl (s_in1 q)
theorem s_nin1B {c : Nat} {z : Str} (q : Q (.bl (!decide (c ∈ z.cps.toList))) H) : rNinB K (.str ⟨#[c]⟩) (.str z) H Q := .inl (s_nin1 q)
theorem s_inD {a : Addr} {kvs : List (Key × V)} {k : Key} (h : H a = some (.dK kvs)) (q : Q (.bl (valV kvs k).isSome) H) : rInB K (kV k) (.ref a) H Q := .inr (.inr ⟨a, _, rfl, DGet.k h, q⟩)
theorem s_ixB {x y : V} (h : rIx K x y H Q) : rIxB K x y H Q := .inl h
theorem s_ixD {a : Addr} {kvs : List (Key × V)} {k : Key} (h : H a = some (.dK kvs)) (e : valV kvs k = some v) (q : Q v H) : rIxB K (.ref a) (kV k) H Q := .inr ⟨a, v, rfl, e ▸ DGet.k h, q⟩
theorem s_listA {p : Addr} {xs : List V} (h : H p = some (.lst xs) ∨ H p = some (.tup xs)) (q : ∀ l, H l = none → Q (.ref l) (upd H l (.lst xs))) : rListA K [.ref p] H Q :=
  ⟨p, xs, rfl, h.elim (fun h => .inl (SqL.of h)) (fun h => .inr (SqT.of h)), q⟩
theorem s_tupL {p : Addr} {xs : List V} (h : H p = some (.lst xs)) (q : ∀ l, H l = none → Q (.ref l) (upd H l (.tup xs))) : rTupA K [.ref p] H Q := ⟨p, xs, rfl, .inl ⟨SqL.of h, q⟩⟩
theorem s_tupT {p : Addr} {xs : List V} (h : H p = some (.tup xs)) (q : Q (.ref p) H) : rTupA K [.ref p] H Q := ⟨p, xs, rfl, .inr ⟨SqT.of h, q⟩⟩
theorem s_intI {i : Int} (q : Q (.int i) H) : rIntA [.int i] H Q := .inl ⟨i, rfl, q⟩
theorem s_intB {b : Bool} (q : Q (.int (if b then 1 else 0)) H) : rIntA [.bl b] H Q := .inr ⟨b, rfl, q⟩
theorem s_strI {i : Int} (h : i.natAbs.log2 < 1920) (q : Q (.str (toString i)) H) : rStrA [.int i] H Q := .inl ⟨i, rfl, h, q⟩
theorem s_strS {z : Str} (q : Q (.str z) H) : rStrA [.str z] H Q := .inr ⟨z, rfl, q⟩
theorem s_tyL {p : Addr} {xs : List V} {A : Prop} (h : H p = some (.lst xs)) (q : A) : tyV K "list" (.ref p) H ∧ A := ⟨.inl ⟨rfl, xs, SqL.of h⟩, q⟩
theorem s_tyD {p : Addr} {kvs : List (Key × V)} {A : Prop} (h : H p = some (.dK kvs)) (q : A) : tyV K "dict" (.ref p) H ∧ A := ⟨.inr (.inr (.inl ⟨rfl, .inl ⟨kvs, h⟩⟩)), q⟩
theorem s_append {l : Addr} {xs : List V} (h : H l = some (.lst xs)) (hz : xs.length < sizeLine) (q : Q .non (upd H l (.lst (xs ++ [y])))) : rAppend (.ref l) [y] H Q := ⟨l, xs, y, rfl, rfl, h, hz, q⟩
theorem s_insert {l : Addr} {xs : List V} {i : Int} (h : H l = some (.lst xs)) (hz : xs.length < sizeLine) (h0 : 0 ≤ i) (h1 : i < 2 ^ 63) (q : Q .non (upd H l (.lst (xs.take i.toNat ++ [y] ++ xs.drop i.toNat)))) : rInsert (.ref l) [.int i, y] H Q :=
  ⟨l, xs, i, y, rfl, rfl, h, hz, h0, h1, q⟩
theorem s_popAt {l : Addr} {xs : List V} {i : Int} (h : H l = some (.lst xs)) (h0 : 0 ≤ i) (h1 : i < xs.length) (hz : xs.length ≤ 1000000) (q : ∀ y, y ∈ xs → xs[i.toNat]? = some y → Q y (upd H l (.lst (xs.eraseIdx i.toNat)))) : rPopA (.ref l) [.int i] H Q := by
  have hj : i.toNat < xs.length := by omega
  refine .inr ⟨l, xs, i, i.toNat, xs[i.toNat], rfl, rfl, h, by omega, by omega, ?_, by simp [hj], q _ (List.getElem_mem hj) (by simp [hj])⟩
  unfold seqIndex?
  first
    | (simp; omega)
    | (rw [if_neg (by omega)]; simp; omega)
theorem s_dget2 {a : Addr} {kvs : List (Key × V)} {k : Key} {z : V} (h : H a = some (.dK kvs)) (q : Q ((valV kvs k).getD z) H) : rDGet (.ref a) [kV k, z] H Q := ⟨a, rfl, .inr ⟨_, z, _, rfl, DGet.k h, q⟩⟩
theorem s_setBL {p : Addr} {k : Int} {xs : List V} {j : Nat} {R : Hp → Prop} (h : H p = some (.lst xs)) (hj : ixN xs.length k = some j) (q : R (upd H p (.lst (xs.set j v)))) : rSetB (.ref p) (.int k) v H R := .inl (s_setL h hj q)
theorem s_setBD {p : Addr} {kvs : List (Key × V)} {k : Key} {R : Hp → Prop} (h : H p = some (.dK kvs)) (hl : kvs.length < sizeLine) (q : R (upd H p (.dK (putK kvs k v)))) : rSetB (.ref p) (kV k) v H R := .inr ⟨p, _, rfl, .inl ⟨kvs, k, h, rfl, hl, rfl⟩, q⟩
theorem s_gStar {n i : Nat} {gs : TGs} {a : Addr} {xs : List V} {R : L2.St → Hp → Prop} (h : H a = some (.tup xs) ∨ H a = some (.lst xs)) (hn : n ≤ xs.length + 1) (hz : xs.length ≤ 16384)
    (q : ∀ D, H D = none → gs (xs.take i ++ [.ref D] ++ (xs.drop i).drop (xs.length + 1 - n)) σ (upd H D (.lst ((xs.drop i).take (xs.length + 1 - n)))) R) : gStar K n i gs (.ref a) σ H R :=
  ⟨a, xs, rfl, h.elim (fun h => .inl (SqT.of h)) (fun h => .inr (SqL.of h)), hn, hz, q⟩
theorem s_orT {ta tb : TE} (h : ta σ H fun x H1 => ∃ k, TruV K x H1 k ∧ if k = true then Q x H1 else tb σ H1 Q) : tOrT K ta tb σ H Q := h
theorem tru_tup {p : Addr} {xs : List V} (h : H p = some (.tup xs)) : TruV K (.ref p) H (!xs.isEmpty) := .inr (.inl ⟨xs, SqT.of h, rfl⟩)
theorem tru_lst {p : Addr} {xs : List V} (h : H p = some (.lst xs)) : TruV K (.ref p) H (!xs.isEmpty) := .inl ⟨xs, SqL.of h, rfl⟩
end
end Z
namespace Z
open PySem PySem.Spec PyProof.Rows L2 Evl
section
variable {K : PySem.W.Frag} {H : Hp} {Q : VK}
theorem cutV_take (xs : List V) {m : Int} (h : 0 ≤ m) : cutV xs none (some m) = xs.take m.toNat := by
  have e1 : HT.sIx xs.length 0 none = 0 := rfl
  have e2 : HT.sIx xs.length xs.length (some m) = min m.toNat xs.length := by
    unfold HT.sIx
    show (if m < 0 then _ else _) = _
    rw [if_neg (by omega)]
  unfold cutV
  rw [e1, e2, List.drop_zero, Nat.sub_zero]
  rcases Nat.le_total m.toNat xs.length with q | q
  · rw [Nat.min_eq_left q]
  · rw [Nat.min_eq_right q, List.take_length, List.take_of_length_le q]
theorem cutV_drop (xs : List V) {m : Int} (h : 0 ≤ m) : cutV xs (some m) none = xs.drop m.toNat := by
  have e1 : HT.sIx xs.length xs.length none = xs.length := rfl
  have e2 : HT.sIx xs.length 0 (some m) = min m.toNat xs.length := by
    unfold HT.sIx
    show (if m < 0 then _ else _) = _
    rw [if_neg (by omega)]
  unfold cutV
  rw [e1, e2]
  rcases Nat.le_total m.toNat xs.length with q | q
  · rw [Nat.min_eq_left q, List.take_of_length_le (by rw [List.length_drop]; omega)]
  · rw [Nat.min_eq_right q, List.drop_length, List.drop_of_length_le q]
    simp
theorem s_slL {a : Addr} {xs : List V} {lo hi : Option Int} (h : H a = some (.lst xs)) (q : ∀ p, H p = none → Q (.ref p) (upd H p (.lst (cutV xs lo hi)))) : Z.rSlA K (.ref a) lo hi H Q := .inr (.inl ⟨a, xs, rfl, SqL.of h, q⟩)
theorem s_slT {a : Addr} {xs : List V} {lo hi : Option Int} (h : H a = some (.tup xs)) (q0 : HT.sIx xs.length 0 lo = 0 ∧ HT.sIx xs.length xs.length hi = xs.length → Q (.ref a) H)
    (q : ¬ (HT.sIx xs.length 0 lo = 0 ∧ HT.sIx xs.length xs.length hi = xs.length) → ∀ p, H p = none → Q (.ref p) (upd H p (.tup (cutV xs lo hi)))) : Z.rSlA K (.ref a) lo hi H Q := .inr (.inr ⟨a, xs, rfl, SqT.of h, q0, q⟩)
end
end Z
namespace Z
open PySem PySem.Spec PyProof.Rows L2 Evl
theorem s_par3 {i j l : Nat} {t : TA} {D : Ends} {σ : L2.St} {H : Hp} (h : t σ H fun vs H1 => ∃ u v w, vs = [u, v, w] ∧ D.nx (((σ.set i (some u)).set j (some v)).set l (some w)) H1) : tPar3 i j l t D σ H := h
end Z

namespace Z
open PySem PySem.Spec PyProof.Rows L2 Evl
/-! ### kinds of data -/
inductive Kd where
  | sc (v : V) | tup (xs : List V) | lst (xs : List V) | dct (kvs : List (Key × V))
def isSc : V → Bool
  | .non | .bl _ | .int _ | .str _ => true
  | _ => false
/-- v is such a datum in the heap H -/
def Is (H : Hp) (v : V) : Kd → Prop
  | .sc x => v = x ∧ isSc x = true
  | .tup xs => ∃ a, v = .ref a ∧ H a = some (.tup xs)
  | .lst xs => ∃ a, v = .ref a ∧ H a = some (.lst xs)
  | .dct kvs => ∃ a, v = .ref a ∧ H a = some (.dK kvs)
def Deep (H : Hp) : Kd → Prop
  | .tup xs => ∀ x ∈ xs, ∃ e, Is H x e
  | _ => True
theorem Is.ex {H H' : Hp} {v : V} {d : Kd} (h : Is H v d) (e : Ex H H') : Is H' v d := by
  cases d with
  | sc x => exact h
  | tup xs => obtain ⟨a, rfl, q⟩ := h; exact ⟨a, rfl, e _ _ q⟩
  | lst xs => obtain ⟨a, rfl, q⟩ := h; exact ⟨a, rfl, e _ _ q⟩
  | dct xs => obtain ⟨a, rfl, q⟩ := h; exact ⟨a, rfl, e _ _ q⟩
theorem Deep.ex {H H' : Hp} {d : Kd} (h : Deep H d) (e : Ex H H') : Deep H' d := by
  cases d with
  | tup xs => exact fun x hx => let ⟨k, q⟩ := h x hx; ⟨k, q.ex e⟩
  | _ => trivial
def tyN : Kd → String
  | .sc .non => "NoneType"
  | .sc (.bl _) => "bool"
  | .sc (.int _) => "int"
  | .sc (.str _) => "str"
  | .sc _ => "object"
  | .tup _ => "tuple"
  | .lst _ => "list"
  | .dct _ => "dict"
theorem Is.ty {K : PySem.W.Frag} {H : Hp} {v : V} {d : Kd} (h : Is H v d) : TyX K H v (.type (tyN d)) := by
  cases d with
  | sc x =>
    obtain ⟨rfl, hs⟩ := h
    cases v with
    | non => exact .base .non
    | bl b => exact .base (.bl b)
    | int i => exact .base (.int i)
    | str x => exact .base (.str x)
    | _ => cases hs
  | tup xs => obtain ⟨a, rfl, q⟩ := h; exact .base (.tup q)
  | lst xs => obtain ⟨a, rfl, q⟩ := h; exact .base (.lst q)
  | dct xs => obtain ⟨a, rfl, q⟩ := h; exact .base (.dK q)
theorem s_isi {K : PySem.W.Frag} {H : Hp} {Q : VK} {v : V} {d : Kd} {T : String} {b : Bool} (h : Is H v d) (e : kitB (tyN d) T = some b) (q : Q (.bl b) H) : rIsi K [v, .ty T] H Q :=
  ⟨v, .ty T, _, _, b, rfl, .ty T, h.ty, kit_ty e, q⟩
def tyB (T : String) (a : String) : Bool := a == T || (a == "bool" && T == "int")
def tyNs : List String := ["NoneType", "bool", "int", "str", "tuple", "list", "dict"]
theorem Is.tyN {H : Hp} {v : V} {d : Kd} (h : Is H v d) : tyN d ∈ tyNs := by
  cases d with
  | sc x =>
    obtain ⟨rfl, hs⟩ := h
    cases v <;> first | (simp [Z.tyN, tyNs]; done) | cases hs
  | _ => simp [Z.tyN, tyNs]
def kitOk (T : String) : Bool := tyNs.all fun a => decide (kitB a T = some (tyB T a))
theorem s_isiT {K : PySem.W.Frag} {H : Hp} {Q : VK} {v : V} {d : Kd} {T : String} (hT : kitOk T = true) (h : Is H v d) (q : Q (.bl (tyB T (tyN d))) H) : rIsi K [v, .ty T] H Q :=
  s_isi h (of_decide_eq_true (List.all_eq_true.mp hT _ h.tyN)) q
theorem kit_int : kitOk "int" = true := by decide +kernel
theorem kit_bool : kitOk "bool" = true := by decide +kernel
theorem kit_str : kitOk "str" = true := by decide +kernel
theorem kit_tuple : kitOk "tuple" = true := by decide +kernel
theorem kit_list : kitOk "list" = true := by decide +kernel
theorem kit_dict : kitOk "dict" = true := by decide +kernel
/-! ### what the words tell -/
def isIV : V → Bool
  | .int _ => true
  | _ => false
def limV : V → Bool
  | .non | .int _ => true
  | _ => false
def letters : List Nat := ("abcdefghijklmnopqrstuvwxyz" : Str).cps.toList
def nmS (z : Str) : Bool := !decide (z = ("table" : Str)) && (decide (1 ≤ z.length) && (decide (z.length ≤ 8) && z.cps.toList.all fun c => decide (c ∈ letters)))
def nmV : V → Bool
  | .str z => nmS z
  | _ => false
def spL : List V → Bool
  | [l, h] => limV l && (limV h && (match l, h with
    | .int a, .int b => decide (a < b)
    | _, _ => true))
  | _ => false
def spD : Kd → Bool
  | .tup xs => spL xs
  | _ => false
def smallV : V → Prop
  | .str z => z.length ≤ 1000
  | _ => True
/-! ### the promises of the words -/
def sp_is_integer (K : PySem.W.Frag) : Sp := fun vs H Q _ => ∃ v d, vs = [v] ∧ Is H v d ∧ Q (.bl (isIV v)) H
def sp_is_name (K : PySem.W.Frag) : Sp := fun vs H Q _ => ∃ v d, vs = [v] ∧ Is H v d ∧ smallV v ∧ ∀ H', Ex H H' → Q (.bl (nmV v)) H'
def sp_is_limit (K : PySem.W.Frag) : Sp := fun vs H Q _ => ∃ v d, vs = [v] ∧ Is H v d ∧ Q (.bl (limV v)) H
def sp_is_span (K : PySem.W.Frag) : Sp := fun vs H Q _ => ∃ v d, vs = [v] ∧ Is H v d ∧ Deep H d ∧ Q (.bl (spD d)) H
/-! ### the box of draws -/
def Bx (H : Hp) (p : Addr) (n : Nat) : Prop := ∃ a b c : Int, H p = some (.lst [.int a, .int b, .int c]) ∧ 0 ≤ b ∧ b < 2147483648 ∧ 0 ≤ c ∧ c ≤ n
theorem Bx.mono {H : Hp} {p : Addr} {n m : Nat} (h : Bx H p n) (l : n ≤ m) : Bx H p m := by
  obtain ⟨a, b, c, e, h1, h2, h3, h4⟩ := h
  exact ⟨a, b, c, e, h1, h2, h3, by omega⟩
theorem Bx.ex {H H' : Hp} {p : Addr} {n : Nat} (h : Bx H p n) (e : Ex H H') : Bx H' p n := by
  obtain ⟨a, b, c, e1, h1⟩ := h
  exact ⟨a, b, c, e _ _ e1, h1⟩
theorem Bx.ne {H : Hp} {p q : Addr} {n : Nat} (h : Bx H p n) (e : H q = none) : q ≠ p := by
  obtain ⟨a, b, c, e1, h1⟩ := h
  exact ne_back e1 e
theorem But.back {H H' : Hp} {p q : Addr} {n : Nat} (s : But p H H') (h : Bx H' p n) (e : H' q = none) : H q = none := by
  cases q1 : H q with
  | none => rfl
  | some o =>
    rw [s q o q1 (h.ne e)] at e
    cases e
theorem But.old {H0 H H' : Hp} {p : Addr} (hp : H0 p = none) (e : Ex H0 H) (s : But p H H') : Ex H0 H' := fun a o h => s a o (e a o h) (ne_of_none h hp)
theorem Is.but {H H' : Hp} {p : Addr} {v : V} {d : Kd} {n : Nat} (h : Is H v d) (B : Bx H p n) (s : But p H H') (hd : ∀ xs, d ≠ .lst xs) : Is H' v d := by
  obtain ⟨x, y, z, e, _⟩ := B
  cases d with
  | sc x => exact h
  | tup xs => obtain ⟨a, rfl, q⟩ := h; exact ⟨a, rfl, s _ _ q (ne_of q e (fun z => by cases z))⟩
  | lst xs => exact absurd rfl (hd xs)
  | dct xs => obtain ⟨a, rfl, q⟩ := h; exact ⟨a, rfl, s _ _ q (ne_of q e (fun z => by cases z))⟩
def sp_law_cell (K : PySem.W.Frag) : Sp := fun vs H Q _ => ∃ (a : Addr) (ns : List Int) (k : Int), vs = [.ref a, .int k] ∧ SqL K H a (ns.map V.int) ∧ 0 ≤ k ∧ k < 1000 ∧ ∀ n, Q (.int n) H
def sp_law_box (K : PySem.W.Frag) : Sp := fun vs H Q _ => ∃ n : Int, vs = [.int n] ∧ ∀ (p : Addr) (H' : Hp), H p = none → Ex H H' → Bx H' p 0 → Q (.ref p) H'
def sp_law_take (K : PySem.W.Frag) : Sp := fun vs H Q _ => ∃ (p : Addr) (m : Int) (n : Nat), vs = [.ref p, .int m] ∧ Bx H p n ∧ n < 4294967296 ∧ 0 < m ∧ m.natAbs.log2 < 9000 ∧
  ∀ (d : Int) (H' : Hp), But p H H' → Bx H' p (n + 1) → 0 ≤ d → d < m → Q (.int d) H'
end Z

/-! steps by tactics: walk_at "look" finds an object, walk_at "s" makes one step, walk_at "go" as many as there are -/
section
open PySem PySem.Spec PyProof.Rows L2 Evl Z
end
open Z in
local macro_rules | `(tactic| walk_at "ne") => `(tactic| first
  | assumption | (apply Ne.symm; assumption)
  | (refine L2.ne_of_none (H := ?H) (o := ?o) ?b ?f; case f => assumption; case b => walk_at "look")
  | (refine Z.ne_back (H := ?H) (o := ?o) ?b ?f; case f => assumption; case b => walk_at "look")
  | (refine Z.Bx.ne (H := ?H) (n := ?n) ?b ?f; (case f => assumption); (case b => walk_at "bx"))
  | (apply Ne.symm; refine Z.Bx.ne (H := ?H) (n := ?n) ?b ?f; (case f => assumption); (case b => walk_at "bx"))
  | (refine L2.ne_of (H := ?H) (o := ?o) (u := ?u) ?a ?b ?c; (case a => walk_at "look"); (case b => walk_at "look"); (case c => (intro z; cases z))))
local macro_rules | `(tactic| walk_at "bx") => `(tactic| first
  | assumption
  | (refine Z.Bx.ex ?_ (Evl.Ex.new (by assumption)); walk_at "bx"))
local macro_rules | `(tactic| walk_at "look") => `(tactic| first
  | assumption
  | exact L2.upd_same
  | (refine Z.look_new ?_ (by assumption); walk_at "look")
  | (refine Z.look_mut ?_ ?_; (walk_at "look"); (walk_at "ne"))
  | (refine Z.look_ex (by assumption) ?_; walk_at "look")
  | (refine Z.look_but (by assumption) ?_ ?_; (walk_at "look"); (walk_at "ne")))
local macro_rules | `(tactic| walk_at "len") => `(tactic| first | (show _ ≤ 16777216; decide) | (simp [L2.sizeLine_eq]; done) | (simp [L2.sizeLine_eq]; omega) | (rw [PyProof.Rows.sizeLine_eq]; omega))
local macro_rules | `(tactic| walk_at "s") => `(tactic| first
  | ((with_reducible refine Z.s_var (v := ?v) ?h ?q); (case h => rfl))
  | with_reducible refine Z.s_c ?_
  | with_reducible refine Z.s_op ?_
  | with_reducible refine Z.s_cons ?_
  | with_reducible refine Z.s_nil ?_
  | with_reducible refine Z.s_call ?_
  | with_reducible refine Z.s_cb ?_
  | with_reducible refine Z.s_seq ?_
  | with_reducible refine Z.s_asg ?_
  | with_reducible refine Z.s_gName ?_
  | with_reducible refine Z.s_ifS ?_
  | with_reducible refine Z.s_ret ?_
  | with_reducible refine Z.s_next ?_
  | with_reducible refine Z.s_drop ?_
  | with_reducible refine Z.s_test ?_
  | with_reducible refine Z.s_B ?_
  | with_reducible refine Z.s_bl ?_
  | with_reducible refine Z.s_int ?_
  | with_reducible refine Z.s_not ?_
  | with_reducible refine Z.s_and ?_
  | with_reducible refine Z.s_or ?_
  | with_reducible refine Z.s_yes ?_
  | with_reducible refine Z.s_notV ?_
  | with_reducible refine Z.s_andV ?_
  | with_reducible refine Z.s_orV ?_
  | with_reducible refine Z.s_if ?_
  | with_reducible refine Z.s_chain ?_
  | with_reducible refine L2.iteT ?_
  | with_reducible refine L2.iteF ?_
  | ((with_reducible refine Z.s_itet ?e ?h); (case e => first | rfl | assumption))
  | ((with_reducible refine Z.s_itef ?e ?h); (case e => first | rfl | assumption))
  | ((with_reducible refine Z.s_gTup (xs := ?xs) ?h ?n ?q); (case h => walk_at "look"); (case n => rfl))
  | with_reducible refine Z.s_gCons ?_
  | with_reducible refine Z.s_gNil ?_
  | with_reducible refine Z.s_gSub ?_
  | ((with_reducible refine Z.s_setL (xs := ?xs) (j := ?j) ?h ?n ?q); (case h => walk_at "look"); (case n => rfl))
  | with_reducible refine Z.s_par ?_
  | with_reducible refine Z.s_par3 ?_
  | with_reducible refine Z.s_bm ?_
  | with_reducible refine Z.s_bm0 ?_
  | with_reducible refine Z.s_tyS ?_
  | ((with_reducible refine Z.s_tyL (xs := ?xs) ?h ?q); (case h => walk_at "look"))
  | ((with_reducible refine Z.s_tyD (kvs := ?xs) ?h ?q); (case h => walk_at "look"))
  | ((with_reducible refine Z.s_ixB ?_); ((with_reducible refine Z.s_ixL (v := ?v) (xs := ?xs) ?h ?a ?q); (case h => walk_at "look"); (case a => rfl)))
  | ((with_reducible refine Z.s_ixB ?_); ((with_reducible refine Z.s_ixT (v := ?v) (xs := ?xs) ?h ?a ?q); (case h => walk_at "look"); (case a => rfl)))
  | with_reducible refine Z.s_intI ?_
  | with_reducible refine Z.s_intB ?_
  | with_reducible refine Z.s_strS ?_
  | ((with_reducible refine Z.s_setBL (xs := ?xs) (j := ?j) ?h ?n ?q); (case h => walk_at "look"); (case n => rfl))
  | with_reducible refine Z.s_callS ?_
  | with_reducible refine Z.s_callP ?_
  | with_reducible refine Z.s_try ?_
  | with_reducible refine Z.s_xf ?_
  | with_reducible refine Z.s_addI ?_
  | with_reducible refine Z.s_subI ?_
  | with_reducible refine Z.s_ltI ?_
  | with_reducible refine Z.s_leI ?_
  | with_reducible refine Z.s_gtI ?_
  | with_reducible refine Z.s_geI ?_
  | with_reducible refine Z.s_isN ?_
  | with_reducible refine Z.s_notN ?_
  | with_reducible refine Z.s_isB ?_
  | with_reducible refine Z.s_notB ?_
  | with_reducible refine Z.s_un ?_
  | with_reducible refine Z.s_rU ?_
  | with_reducible refine Z.s_lst ?_
  | with_reducible refine Z.s_tup ?_
  | with_reducible refine Z.s_sl ?_
  | with_reducible refine Z.s_nopart ?_
  | with_reducible refine Z.s_part ?_
  | with_reducible refine Z.s_max2 ?_
  | with_reducible refine Z.s_min2 ?_
  | ((with_reducible refine Z.s_eqS ?_ ?_); rfl)
  | ((with_reducible refine Z.s_neS ?_ ?_); rfl)
  | ((with_reducible refine Z.s_powI ?_ ?_); (exact ⟨by decide, by decide, by decide⟩))
  | ((with_reducible refine Z.s_ixL (v := ?v) (xs := ?xs) ?h ?a ?q); (case h => walk_at "look"); (case a => rfl))
  | ((with_reducible refine Z.s_ixT (v := ?v) (xs := ?xs) ?h ?a ?q); (case h => walk_at "look"); (case a => rfl)))
local macro_rules | `(tactic| walk_at "go") => `(tactic| repeat (walk_at "s"))
local macro_rules | `(tactic| walk_at "al") => `(tactic| (refine ⟨?h, ?q⟩; (case h => (apply Z.len_ok; simp))))
local macro_rules | `(tactic| walk_at "menu") => `(tactic| (refine Z.s_menuL (xs := ?xs) ?h ?a ?b ?q; (case h => walk_at "look"); (case a => assumption); (case b => first | assumption | (simp; omega))))
local macro_rules | `(tactic| walk_at "but") => `(tactic| first
  | assumption
  | exact Z.But.refl
  | (refine Z.But.new ?_ (by assumption); walk_at "but")
  | (refine Z.But.ex ?_ (by assumption); walk_at "but")
  | (refine Z.But.trans ?_ (by assumption); walk_at "but"))
local macro_rules | `(tactic| walk_at "ex") => `(tactic| first
  | assumption
  | exact Evl.Ex.refl _
  | (refine Evl.Ex.trans ?_ (Evl.Ex.new (by assumption)); walk_at "ex")
  | (refine Evl.Ex.trans ?_ (by assumption); walk_at "ex"))

namespace Z
open PySem PySem.Spec PyProof.Rows L2 Evl
theorem q_bl {Q : VK} {H : Hp} {b b' : Bool} (h : Q (.bl b) H) (e : b' = b) : Q (.bl b') H := by
  rw [e]
  exact h
/-- what isinstance tells of int and not bool -/
theorem isIV_of {H : Hp} {v : V} {d : Kd} (h : Is H v d) : isIV v = (tyB "int" (tyN d) && !tyB "bool" (tyN d)) := by
  cases d with
  | sc x =>
    obtain ⟨rfl, hs⟩ := h
    cases v <;> first | (simp [isIV, tyB, tyN]; done) | cases hs
  | tup xs => obtain ⟨a, rfl, q⟩ := h; simp [isIV, tyB, tyN]
  | lst xs => obtain ⟨a, rfl, q⟩ := h; simp [isIV, tyB, tyN]
  | dct xs => obtain ⟨a, rfl, q⟩ := h; simp [isIV, tyB, tyN]
theorem limV_of (v : V) : limV v = (decide (v = .non) || isIV v) := by
  cases v <;> simp [limV, isIV]
theorem notTup {H : Hp} {v : V} {d : Kd} (h : Is H v d) (e : tyB "tuple" (tyN d) = false) : spD d = false := by
  cases d with
  | tup xs => cases e
  | _ => rfl
theorem isTup {H : Hp} {v : V} {d : Kd} (h : Is H v d) (e : tyB "tuple" (tyN d) = true) : ∃ a xs, v = .ref a ∧ d = .tup xs ∧ H a = some (.tup xs) := by
  cases d with
  | tup xs =>
    obtain ⟨a, rfl, q⟩ := h
    exact ⟨a, xs, rfl, rfl, q⟩
  | sc x =>
    obtain ⟨rfl, hs⟩ := h
    cases v <;> first | (simp [tyB, tyN] at e; done) | cases hs
  | lst xs => cases e
  | dct xs => cases e
theorem spL_ne {xs : List V} (h : xs.length ≠ 2) : spL xs = false := by
  match xs with
  | [] => rfl
  | [_] => rfl
  | [_, _] => exact absurd rfl h
  | _ :: _ :: _ :: _ => rfl
/-! a text's signs, each as a text -/
def signs (z : Str) : List V := z.cps.toList.map fun c => V.str ⟨#[c]⟩
theorem signs_len (z : Str) : (signs z).length = z.cps.size := by simp [signs]
theorem signs_at {z : Str} {i : Nat} {c : Nat} (h : z.cps[i]? = some c) : (signs z)[i]? = some (V.str ⟨#[c]⟩) := by
  simp [signs, h]
theorem walk_signs {z : Str} : Walk (Its z) (signs z).length (fun _ => True) (YAt (signs z)) := by
  rw [signs_len]
  exact walk_str.mono (fun _ h => h) fun i H x H' hi _ ⟨e, c, hc, hx⟩ => ⟨e, by rw [hx]; exact signs_at hc⟩
/-- a comprehension whose test and element leave the heap as it was but for what they add -/
theorem lc_pure {J : It} {G : Hp → Prop} {xs : List V} (w : Walk J xs.length G (YAt xs)) {i : Nat} {tt : TT} {te : TE} {σ : L2.St} {H : Hp} {Q : VK} {wi : TI} (p : V → Bool) (f : V → V)
    (hw : ∀ R : It → Hp → Prop, R J H → wi σ H R) (hG : ∀ H', Ex H H' → G H') (hx : xs.length < sizeLine)
    (ht : ∀ x ∈ xs, EvT tt ((wipe σ [i]).set i (some x)) H (p x)) (he : ∀ x ∈ xs, p x = true → Ev te ((wipe σ [i]).set i (some x)) H (f x))
    (q : ∀ D H2, H D = none → Ex H H2 → H2 D = some (.lst ((xs.filter p).map f)) → Q (.ref D) H2) : tLc wi (gName i) tt te [i] σ H Q := by
  refine hw _ fun D hD => ?_
  refine lc_it w (fun k H2 => Ex H H2 ∧ H2 D = some (.lst (((xs.take k).filter p).map f))) ⟨Ex.new hD, upd_same⟩ (fun k H2 _ h => hG H2 h.1) ?_ ?_
  · rintro k x H2 H' hk ⟨e, hd⟩ ⟨rfl, hxk⟩
    have hm : x ∈ xs := List.mem_of_getElem? hxk
    refine ⟨?_, ?_⟩
    · show ((wipe σ [i]).set i (some x)).set i none = wipe σ [i]
      unfold wipe
      simp [wipe]
    · refine ht x hm _ e _ fun H3 e3 => ?_
      have htk : xs.take (k + 1) = xs.take k ++ [x] := by
        rw [List.take_add_one, hxk]
        rfl
      cases c : p x with
      | false =>
        refine iteF ?_
        refine ⟨e.trans e3, ?_⟩
        rw [e3 _ _ hd, htk, List.filter_append]
        simp [c]
      | true =>
        refine iteT ?_
        refine he x hm c _ (e.trans e3) _ fun H4 e4 => ?_
        refine ⟨_, e4 _ _ (e3 _ _ hd), ?_, ?_, ?_⟩
        · have h1 : (((xs.take k).filter p).map f).length ≤ xs.length := by
            rw [List.length_map]
            exact Nat.le_trans (List.length_filter_le _ _) (by rw [List.length_take]; omega)
          omega
        · exact ((e.trans e3).trans e4).mut hD
        · rw [upd_same, htk, List.filter_append]
          simp [c]
  · rintro H2 ⟨e, hd⟩
    rw [List.take_length] at hd
    exact q D H2 hD e hd

/-- a sign among the letters -/
def inL : V → Bool
  | .str z => match z.cps.toList with
    | [c] => decide (c ∈ letters)
    | _ => false
  | _ => false
theorem inL_sign (c : Nat) : inL (.str ⟨#[c]⟩) = decide (c ∈ letters) := rfl
theorem iAny_str {K : PySem.W.Frag} {te : TE} {σ : L2.St} {H : Hp} {R : It → Hp → Prop} (h : te σ H fun v H1 => ∃ x, v = .str x ∧ R (Its x) H1) : iAny K te σ H R := .inr (.inr h)
theorem iAny_tup {K : PySem.W.Frag} {te : TE} {σ : L2.St} {H : Hp} {R : It → Hp → Prop} (h : te σ H fun x H1 => ∃ a, x = .ref a ∧ (∃ xs, SqT K H1 a xs) ∧ R (Itt K a) H1) : iAny K te σ H R := .inr (.inl h)
theorem iAny_lst {K : PySem.W.Frag} {te : TE} {σ : L2.St} {H : Hp} {R : It → Hp → Prop} (h : te σ H fun x H1 => ∃ a, x = .ref a ∧ (∃ xs, SqL K H1 a xs) ∧ R (Itl K a) H1) : iAny K te σ H R := .inl h
theorem filter_true {α : Type} (xs : List α) : xs.filter (fun _ => true) = xs := List.filter_eq_self.mpr fun _ _ => rfl
theorem signs_all (z : Str) (g : V → Bool) : (signs z).all g = z.cps.toList.all fun c => g (.str ⟨#[c]⟩) := by
  simp [signs, List.all_map, Function.comp_def]
theorem notStr {H : Hp} {v : V} {d : Kd} (h : Is H v d) (e : tyB "str" (tyN d) = false) : nmV v = false := by
  cases d with
  | sc x =>
    obtain ⟨rfl, hs⟩ := h
    cases v <;> first | rfl | (simp [tyB, tyN] at e; done) | cases hs
  | tup xs => obtain ⟨a, rfl, q⟩ := h; rfl
  | lst xs => obtain ⟨a, rfl, q⟩ := h; rfl
  | dct xs => obtain ⟨a, rfl, q⟩ := h; rfl
theorem isStr {H : Hp} {v : V} {d : Kd} (h : Is H v d) (e : tyB "str" (tyN d) = true) : ∃ z, v = .str z := by
  cases d with
  | sc x =>
    obtain ⟨rfl, hs⟩ := h
    cases v <;> first | exact ⟨_, rfl⟩ | (simp [tyB, tyN] at e; done) | cases hs
  | _ => simp [tyB, tyN] at e
theorem all_signs (z : Str) : ((signs z).map fun x => V.bl (inL x)) = ((signs z).map inL).map V.bl := by simp
theorem but_upd {p : Addr} {H : Hp} {o : HO} : But p H (upd H p o) := But.refl.set
def one (c : Nat) : Str := ⟨#[c]⟩
theorem ones_of {R : Nat → Prop} : ∀ {ys : List V}, (∀ y ∈ ys, ∃ c, y = .str (one c) ∧ R c) → ∃ cs : List Nat, ys = (cs.map one).map V.str ∧ (∀ c ∈ cs, R c) ∧ cs.length = ys.length
  | [], _ => ⟨[], rfl, (fun _ h => by cases h), rfl⟩
  | y :: ys, h => by
    obtain ⟨c, rfl, hc⟩ := h y (by simp)
    obtain ⟨cs, e, hr, hl⟩ := ones_of (ys := ys) fun z hz => h z (by simp [hz])
    refine ⟨c :: cs, by rw [e]; rfl, fun d hd => ?_, by simp [hl]⟩
    rcases List.mem_cons.mp hd with rfl | hd
    · exact hc
    · exact hr d hd
theorem sum_ones : ∀ cs : List Nat, ((cs.map one).map (·.length)).sum = cs.length
  | [] => rfl
  | c :: cs => by
    have e := sum_ones cs
    show (one c).length + ((cs.map one).map (·.length)).sum = cs.length + 1
    rw [e]
    show 1 + cs.length = cs.length + 1
    omega
section
variable {K : PySem.W.Frag} {σ : L2.St} {H : Hp} {Q : VK}
theorem s_joinOnes {p : Addr} {cs : List Nat} (h : H p = some (.lst ((cs.map one).map V.str))) (hl : cs.length ≤ 10000) (q : Q (.str ⟨cs.toArray⟩) H) : rJoinA K (.str ("" : Str)) [.ref p] H Q := by
  refine ⟨_, p, cs.map one, rfl, rfl, .inl (SqL.of h), ?_, ?_⟩
  · rw [sum_ones]
    show cs.length + (cs.map one).length * 0 ≤ 16777216
    omega
  · have e : Txt.join ("" : Str) (cs.map one) = ⟨cs.toArray⟩ := by
      show PySem.Builtin.Str.glued _ _ = _
      rw [PySem.StrLaws.glued_eq_join]
      exact join_ones cs
    rw [e]
    exact q
/-- a comprehension over a range whose element draws from the box at p, at most c draws an element -/
theorem lc_box {p : Addr} {n1 : Nat} {i : Nat} {te : TE} {wi : TI} (c mx : Nat) (P : V → Prop) (M : Nat → Prop) (hmx : ∀ m, M m → m ≤ mx) (hs : mx < sizeLine)
    (hw : ∀ R : It → Hp → Prop, (∀ m H1, But p H H1 → Bx H1 p n1 → M m → R (Itr 0 m) H1) → wi σ H R)
    (he : ∀ (j m : Nat) (H1 : Hp), j < m → M m → But p H H1 → Bx H1 p (n1 + j * c) → ∀ R : VK, (∀ y H2, But p H1 H2 → Bx H2 p (n1 + (j + 1) * c) → P y → R y H2) → te ((wipe σ [i]).set i (some (.int (0 + (j : Int))))) H1 R)
    (q : ∀ (D : Addr) (H2 : Hp) (ys : List V), But p H H2 → Bx H2 p (n1 + mx * c) → D ≠ p → H2 D = some (.lst ys) → M ys.length → (∀ y ∈ ys, P y) → Q (.ref D) H2) :
    tLc wi (gName i) tYes te [i] σ H Q := by
  refine hw _ fun m H0 b0 B0 hm D hD => ?_
  have nD : D ≠ p := B0.ne hD
  refine lc_range (lo := 0) (n := m) (fun k H2 => But p H0 H2 ∧ Bx H2 p (n1 + k * c) ∧ ∃ ys, H2 D = some (.lst ys) ∧ ys.length = k ∧ ∀ y ∈ ys, P y) ⟨But.refl.new hD, by simpa using B0.ex (Ex.new hD), [], upd_same, rfl, fun _ h => nomatch h⟩ ?_ ?_
  · rintro k H2 hk ⟨b, B2, ys, hy, hl, hp⟩
    refine ⟨?_, ?_⟩
    · show ((wipe σ [i]).set i (some (.int (0 + (k : Int))))).set i none = wipe σ [i]
      unfold wipe
      simp [wipe]
    · refine he k m H2 hk hm (b0.trans b) B2 _ fun y H3 b3 B3 py => ?_
      refine ⟨ys, b3 _ _ hy nD, ?_, fun a o h n => ?_, ?_, ys ++ [y], upd_same, by simp [hl], ?_⟩
      · have := hmx m hm
        omega
      · rw [upd_ne (ne_of_none h hD)]
        exact b3 _ _ (b _ _ h n) n
      · obtain ⟨x1, x2, x3, e1, e2⟩ := B3
        refine ⟨x1, x2, x3, ?_, e2⟩
        rw [upd_ne nD.symm]
        exact e1
      · intro z hz
        rcases List.mem_append.mp hz with hz | hz
        · exact hp z hz
        · rw [List.mem_singleton.mp hz]
          exact py
  · rintro H2 ⟨b, B2, ys, hy, hl, hp⟩
    subst hl
    refine q D H2 ys (b0.trans b) (B2.mono ?_) nD hy hm hp
    have := Nat.mul_le_mul_right c (hmx _ hm)
    omega
theorem iRng1_of {ta : TA} {R : It → Hp → Prop} (h : ta σ H fun vs H1 => ∃ j : Int, vs = [.int j] ∧ -(2 ^ 62) ≤ j ∧ j < 2 ^ 62 ∧ R (Itr 0 j.toNat) H1) : iRng1 ta σ H R := h
end
/-- a draw, for use -/
theorem u_take {K : PySem.W.Frag} {p : Addr} {m : Int} {n : Nat} {H : Hp} {Q : VK} {E : XK} (B : Bx H p n) (hn : n < 4294967296) (hm : 0 < m) (hl : m.natAbs.log2 < 9000)
    (k : ∀ (d : Int) (H' : Hp), But p H H' → Bx H' p (n + 1) → 0 ≤ d → d < m → Q (.int d) H') : sp_law_take K [.ref p, .int m] H Q E := ⟨p, m, n, rfl, B, hn, hm, hl, k⟩

theorem u_isint {K : PySem.W.Frag} {H : Hp} {Q : VK} {v : V} {E : XK} {b : Bool} (d : Kd) (h : Is H v d) (e : isIV v = b) (q : Q (.bl b) H) : sp_is_integer K [v] H Q E := ⟨v, d, rfl, h, by rw [e]; exact q⟩
theorem u_isname {K : PySem.W.Frag} {H : Hp} {Q : VK} {v : V} {E : XK} {b : Bool} (d : Kd) (h : Is H v d) (hs : smallV v) (e : nmV v = b) (q : ∀ H', Ex H H' → Q (.bl b) H') : sp_is_name K [v] H Q E := ⟨v, d, rfl, h, hs, by rw [e]; exact q⟩
theorem u_isspan {K : PySem.W.Frag} {H : Hp} {Q : VK} {v : V} {E : XK} {b : Bool} (d : Kd) (h : Is H v d) (hd : Deep H d) (e : spD d = b) (q : Q (.bl b) H) : sp_is_span K [v] H Q E := ⟨v, d, rfl, h, hd, by rw [e]; exact q⟩
section
variable {K : PySem.W.Frag} {σ : L2.St} {H : Hp} {Q : VK}
/-- [one for one in xs if not isinstance(one, bool)] of truths: empty -/
theorem lc_notBool {a : Addr} {bs : List Bool} {i j : Nat} (ha : H a = some (.lst (bs.map V.bl))) (hσ : σ[j]? = some (some (.ref a))) (hi : i < σ.length) (hl : bs.length ≤ 1000)
    (q : ∀ D H2, H D = none → Ex H H2 → H2 D = some (.lst []) → Q (.ref D) H2) : tLc (iAny K (tVar j)) (gName i) (tNot (tB (tCB (rIsi K) (tCons (tVar i) (tCons (tC (.ty "bool")) tNil))))) (tVar i) [i] σ H Q := by
  have hw : (wipe σ [i]).length = σ.length := wipe_length _ _
  refine lc_pure (walk_list (K := K) (a := a) (xs := bs.map V.bl)) (fun _ => false) (fun x => x) (fun R r => iAny_lst ⟨_, hσ, a, rfl, ⟨_, SqL.of ha⟩, r⟩) (fun H' e => SqL.of (e _ _ ha)) ?_ (fun x hx => ?_) (fun x hx h => absurd h Bool.false_ne_true) fun D H2 hD e hl => ?_
  · rw [List.length_map, sizeLine_eq]
    omega
  · obtain ⟨c, hc, rfl⟩ := List.mem_map.mp hx
    intro H1 e1 R r
    refine s_not (s_B (s_cb (s_cons ⟨_, by rw [List.getElem?_set_self (by rw [hw]; exact hi)], ?_⟩)))
    walk_at "go"
    refine s_isiT (d := .sc (.bl c)) kit_bool ⟨rfl, rfl⟩ ?_
    walk_at "go"
    exact r _ (Ex.refl _)
  · refine q D H2 hD e ?_
    rw [hl]
    simp
end
end Z

namespace Z
open PySem PySem.Spec PyProof.Rows L2 Evl
/-- the same where what is walked is made ahead -/
theorem lc_gen {P : It → Hp → Prop} {xs : List V} {i : Nat} {tt : TT} {te : TE} {σ : L2.St} {H : Hp} {Q : VK} {wi : TI} (p : V → Bool) (f : V → V) (hw : ∀ R : It → Hp → Prop, (∀ J H1, P J H1 → R J H1) → wi σ H R)
    (w : ∀ J H1, P J H1 → ∃ G : Hp → Prop, Walk J xs.length G (YAt xs) ∧ ∀ H', Ex H1 H' → G H') (hx : xs.length < sizeLine)
    (ht : ∀ J H1, P J H1 → ∀ x ∈ xs, EvT tt ((wipe σ [i]).set i (some x)) H1 (p x)) (he : ∀ J H1, P J H1 → ∀ x ∈ xs, p x = true → Ev te ((wipe σ [i]).set i (some x)) H1 (f x))
    (q : ∀ J H1 D H2, P J H1 → H1 D = none → Ex H1 H2 → H2 D = some (.lst ((xs.filter p).map f)) → Q (.ref D) H2) : tLc wi (gName i) tt te [i] σ H Q := by
  refine hw _ fun J H1 hp => ?_
  obtain ⟨G, w1, hG⟩ := w J H1 hp
  exact (lc_pure w1 p f (wi := fun _ H R => R J H) (fun R r => r) hG hx (ht J H1 hp) (he J H1 hp) (fun D H2 hD e hl => q J H1 D H2 hp hD e hl) : tLc (fun _ H R => R J H) (gName i) tt te [i] σ H1 Q)
/-- a new or a held tuple | list at hand -/
def AtT (K : PySem.W.Frag) (H : Hp) (xs : List V) (J : It) (H1 : Hp) : Prop := ∃ t, J = Itt K t ∧ H1 t = some (.tup xs) ∧ Ex H H1
def AtL (K : PySem.W.Frag) (H : Hp) (xs : List V) (J : It) (H1 : Hp) : Prop := ∃ t, J = Itl K t ∧ H1 t = some (.lst xs) ∧ Ex H H1
theorem AtT.w {K : PySem.W.Frag} {H : Hp} {xs : List V} : ∀ J H1, AtT K H xs J H1 → ∃ G : Hp → Prop, Walk J xs.length G (YAt xs) ∧ ∀ H', Ex H1 H' → G H' := by
  rintro _ H1 ⟨t, rfl, h, _⟩
  exact ⟨_, walk_tup (K := K) (a := t) (xs := xs), fun H' e => SqT.of (e _ _ h)⟩
theorem AtL.w {K : PySem.W.Frag} {H : Hp} {xs : List V} : ∀ J H1, AtL K H xs J H1 → ∃ G : Hp → Prop, Walk J xs.length G (YAt xs) ∧ ∀ H', Ex H1 H' → G H' := by
  rintro _ H1 ⟨t, rfl, h, _⟩
  exact ⟨_, walk_list (K := K) (a := t) (xs := xs), fun H' e => SqL.of (e _ _ h)⟩
end Z

namespace Z
open PySem PySem.Spec PyProof.Rows L2 Evl
/-- a datum apart from the box at p -/
def IsP (p : Addr) (H : Hp) (v : V) (d : Kd) : Prop := Is H v d ∧ Deep H d ∧ v ≠ .ref p
theorem Is.butN {H H' : Hp} {p : Addr} {v : V} {d : Kd} (h : Is H v d) (s : But p H H') (hn : v ≠ .ref p) : Is H' v d := by
  cases d with
  | sc x => exact h
  | tup xs => obtain ⟨a, rfl, q⟩ := h; exact ⟨a, rfl, s _ _ q (fun z => hn (by rw [z]))⟩
  | lst xs => obtain ⟨a, rfl, q⟩ := h; exact ⟨a, rfl, s _ _ q (fun z => hn (by rw [z]))⟩
  | dct xs => obtain ⟨a, rfl, q⟩ := h; exact ⟨a, rfl, s _ _ q (fun z => hn (by rw [z]))⟩
def flatD : Kd → Bool
  | .tup xs => xs.all isSc
  | _ => true
theorem deep_flat {H : Hp} {d : Kd} (h : flatD d = true) : Deep H d := by
  cases d with
  | tup xs => exact fun x hx => ⟨.sc x, rfl, List.all_eq_true.mp h x hx⟩
  | _ => trivial
theorem eqI_self {K : PySem.W.Frag} {H : Hp} {n : Nat} {v : V} {d : Kd} (h : Is H v d) : EqI K H (n + 1) v v true := by
  cases d with
  | sc x =>
    obtain ⟨rfl, hs⟩ := h
    have e : scB v v = true := by cases v <;> first | rfl | cases hs
    have := EqI.sc (K := K) (H := H) (n := n) e
    simpa using this
  | tup xs => obtain ⟨a, rfl, q⟩ := h; exact EqI.same a
  | lst xs => obtain ⟨a, rfl, q⟩ := h; exact EqI.same a
  | dct xs => obtain ⟨a, rfl, q⟩ := h; exact EqI.same a
/-- an item of a display by a draw -/
theorem menu_of {K : PySem.W.Frag} {p : Addr} {m : Int} {n : Nat} {H0 H : Hp} {Q : VK} {E : XK} {xs : List V} (b0 : But p H0 H) (B : Bx H p n) (hn : n < 4294967296) (hx : (xs.length : Int) = m) (hm : 0 < m) (hl : m.natAbs.log2 < 9000)
    (k : ∀ v H', v ∈ xs → But p H0 H' → But p H H' → Bx H' p (n + 1) → Q v H') (q : Addr) (hq : H q = none) : sp_law_take K [.ref p, .int m] (upd H q (.lst xs)) (fun y H2 => rIxB K (.ref q) y H2 Q) E := by
  have nq := B.ne hq
  refine u_take (B.ex (Ex.new hq)) hn hm hl fun d H1 b1 B1 d0 d1 => ?_
  refine s_ixB (s_menuL (b1 _ _ upd_same nq) d0 (by omega) fun v hv => ?_)
  have b2 : But p H H1 := (But.refl.new hq).trans b1
  exact k v H1 hv (b0.trans b2) b2 B1
theorem lim_cases {v : V} (h : limV v = true) : v = .non ∨ ∃ i, v = .int i := by
  cases v with
  | non => exact .inl rfl
  | int i => exact .inr ⟨i, rfl⟩
  | _ => cases h
end Z

/-! data as trees, apart from the box at p -/
namespace Z
open PySem PySem.Spec PyProof.Rows L2 Evl
inductive PT where
  | sc (v : V) | tup (ts : List PT) | lst (ts : List PT) | dct (kvs : List (Key × V))
mutual
inductive Tr (H : Hp) (p : Addr) : V → PT → Prop
  | sc {v : V} : isSc v = true → smallV v → Tr H p v (.sc v)
  | tup {a : Addr} {vs : List V} {ts : List PT} : H a = some (.tup vs) → a ≠ p → vs.length ≤ 1000 → TrL H p vs ts → Tr H p (.ref a) (.tup ts)
  | lst {a : Addr} {vs : List V} {ts : List PT} : H a = some (.lst vs) → a ≠ p → vs.length ≤ 1000 → TrL H p vs ts → Tr H p (.ref a) (.lst ts)
  | dct {a : Addr} {kvs : List (Key × V)} : H a = some (.dK kvs) → a ≠ p → Tr H p (.ref a) (.dct kvs)
inductive TrL (H : Hp) (p : Addr) : List V → List PT → Prop
  | nil : TrL H p [] []
  | cons {v : V} {t : PT} {vs : List V} {ts : List PT} : Tr H p v t → TrL H p vs ts → TrL H p (v :: vs) (t :: ts)
end
mutual
theorem Tr.mv {H H' : Hp} {p : Addr} (e : ∀ a o, H a = some o → a ≠ p → H' a = some o) : ∀ {v : V} {t : PT}, Tr H p v t → Tr H' p v t
  | _, _, .sc h z => .sc h z
  | _, _, .tup h n l r => .tup (e _ _ h n) n l (TrL.mv e r)
  | _, _, .lst h n l r => .lst (e _ _ h n) n l (TrL.mv e r)
  | _, _, .dct h n => .dct (e _ _ h n) n
theorem TrL.mv {H H' : Hp} {p : Addr} (e : ∀ a o, H a = some o → a ≠ p → H' a = some o) : ∀ {vs : List V} {ts : List PT}, TrL H p vs ts → TrL H' p vs ts
  | _, _, .nil => .nil
  | _, _, .cons h r => .cons (Tr.mv e h) (TrL.mv e r)
end
theorem Tr.ex {H H' : Hp} {p : Addr} {v : V} {t : PT} (h : Tr H p v t) (e : Ex H H') : Tr H' p v t := h.mv fun a o q _ => e a o q
theorem Tr.but {H H' : Hp} {p : Addr} {v : V} {t : PT} (h : Tr H p v t) (e : But p H H') : Tr H' p v t := h.mv e
theorem TrL.ex {H H' : Hp} {p : Addr} {v : List V} {t : List PT} (h : TrL H p v t) (e : Ex H H') : TrL H' p v t := h.mv fun a o q _ => e a o q
theorem TrL.but {H H' : Hp} {p : Addr} {v : List V} {t : List PT} (h : TrL H p v t) (e : But p H H') : TrL H' p v t := h.mv e
theorem TrL.len {H : Hp} {p : Addr} : ∀ {vs : List V} {ts : List PT}, TrL H p vs ts → vs.length = ts.length
  | _, _, .nil => rfl
  | _, _, .cons _ r => by rw [List.length_cons, List.length_cons, r.len]
theorem TrL.mem {H : Hp} {p : Addr} : ∀ {vs : List V} {ts : List PT}, TrL H p vs ts → ∀ v ∈ vs, ∃ t ∈ ts, Tr H p v t
  | _, _, .nil => fun v hv => by cases hv
  | _, _, .cons h r => fun v hv => by
    rcases List.mem_cons.mp hv with rfl | hv
    · exact ⟨_, List.mem_cons_self .., h⟩
    · obtain ⟨t, ht, q⟩ := r.mem v hv
      exact ⟨t, List.mem_cons_of_mem _ ht, q⟩
theorem TrL.app {H : Hp} {p : Addr} : ∀ {vs : List V} {ts : List PT} {ws : List V} {us : List PT}, TrL H p vs ts → TrL H p ws us → TrL H p (vs ++ ws) (ts ++ us)
  | _, _, _, _, .nil, r => r
  | _, _, _, _, .cons h l, r => .cons h (l.app r)
theorem TrL.of {H : Hp} {p : Addr} : ∀ {vs : List V}, (∀ v ∈ vs, ∃ t, Tr H p v t) → ∃ ts, TrL H p vs ts
  | [], _ => ⟨[], .nil⟩
  | v :: vs, h => by
    obtain ⟨t, ht⟩ := h v (List.mem_cons_self ..)
    obtain ⟨ts, hts⟩ := TrL.of (vs := vs) fun w hw => h w (List.mem_cons_of_mem _ hw)
    exact ⟨t :: ts, .cons ht hts⟩
theorem TrL.at_ {H : Hp} {p : Addr} : ∀ {vs : List V} {ts : List PT} {i : Nat} {t : PT}, TrL H p vs ts → ts[i]? = some t → ∃ v, vs[i]? = some v ∧ Tr H p v t
  | _, _, _, _, .nil, e => by simp at e
  | _, _, 0, _, .cons h _, e => by
    simp only [List.getElem?_cons_zero, Option.some.injEq] at e
    subst e
    exact ⟨_, rfl, h⟩
  | _, _, i + 1, _, .cons _ r, e => by
    obtain ⟨v, h1, h2⟩ := r.at_ (i := i) (by simpa using e)
    exact ⟨v, by simpa using h1, h2⟩
/-- its kind, for isinstance -/
theorem Tr.is {H : Hp} {p : Addr} {v : V} {t : PT} (h : Tr H p v t) : ∃ d, Is H v d ∧ Deep H d ∧ smallV v ∧ v ≠ .ref p := by
  have one : ∀ {w : V} {u : PT}, Tr H p w u → ∃ d, Is H w d := fun {w u} h => by
    cases h with
    | sc h z => exact ⟨.sc _, rfl, h⟩
    | tup h n l r => exact ⟨.tup _, _, rfl, h⟩
    | lst h n l r => exact ⟨.lst _, _, rfl, h⟩
    | dct h n => exact ⟨.dct _, _, rfl, h⟩
  cases h with
  | sc h z => exact ⟨.sc _, ⟨rfl, h⟩, trivial, z, fun e => by rw [e] at h; cases h⟩
  | tup h n l r => exact ⟨.tup _, ⟨_, rfl, h⟩, (fun x hx => by obtain ⟨u, _, q⟩ := r.mem x hx; exact one q), trivial, fun e => n (by cases e; rfl)⟩
  | lst h n l r => exact ⟨.lst _, ⟨_, rfl, h⟩, trivial, trivial, fun e => n (by cases e; rfl)⟩
  | dct h n => exact ⟨.dct _, ⟨_, rfl, h⟩, trivial, trivial, fun e => n (by cases e; rfl)⟩
def tyT : PT → String
  | .sc v => Z.tyN (.sc v)
  | .tup _ => "tuple"
  | .lst _ => "list"
  | .dct _ => "dict"
theorem s_isiP {K : PySem.W.Frag} {H : Hp} {Q : VK} {p : Addr} {v : V} {t : PT} {T : String} (hT : kitOk T = true) (h : Tr H p v t) (q : Q (.bl (tyB T (tyT t))) H) : rIsi K [v, .ty T] H Q := by
  cases h with
  | sc h z => exact s_isiT (d := .sc _) hT ⟨rfl, h⟩ q
  | tup h n l r => exact s_isiT (d := .tup _) hT ⟨_, rfl, h⟩ q
  | lst h n l r => exact s_isiT (d := .lst _) hT ⟨_, rfl, h⟩ q
  | dct h n => exact s_isiT (d := .dct _) hT ⟨_, rfl, h⟩ q
theorem Tr.self {K : PySem.W.Frag} {H : Hp} {p : Addr} {v : V} {t : PT} {n : Nat} (h : Tr H p v t) : EqI K H (n + 1) v v true := by
  obtain ⟨d, hd, _⟩ := h.is
  exact eqI_self hd
/-! what the words tell of trees -/
def vT : PT → V
  | .sc v => v
  | _ => .ref 0
def nameT : PT → Bool
  | .sc v => nmV v
  | _ => false
def intT : PT → Bool
  | .sc v => isIV v
  | _ => false
def limT : PT → Bool
  | .sc v => limV v
  | _ => false
def spT : PT → Bool
  | .tup [.sc l, .sc h] => spL [l, h]
  | _ => false
/-- no item stands already ahead of its place -/
def dupV (us : List V) : Bool := (List.range us.length).all fun i => !inV (us.getD i .non) (us.take i)
def namesT (ts : List PT) : Bool := ts.all nameT && dupV (ts.map vT)
section
variable {K : PySem.W.Frag} {H : Hp} {Q : VK} {E : XK} {p : Addr} {v : V} {t : PT}
theorem Tr.nm (h : Tr H p v t) : nmV v = nameT t := by cases h <;> rfl
theorem Tr.int (h : Tr H p v t) : isIV v = intT t := by cases h <;> rfl
theorem Tr.lim (h : Tr H p v t) : limV v = limT t := by cases h <;> rfl
theorem Tr.sp {d : Kd} (h : Tr H p v t) (hd : Is H v d) : spD d = spT t := by
  cases h with
  | sc h z =>
    cases d with
    | tup xs =>
      obtain ⟨a, e, _⟩ := hd
      rw [e] at h
      cases h
    | _ => rfl
  | tup h n l r =>
    cases d with
    | sc x =>
      obtain ⟨e, hs⟩ := hd
      rw [← e] at hs
      cases hs
    | tup xs =>
      obtain ⟨a, e, q⟩ := hd
      cases e
      rw [h] at q
      cases q
      cases r with
      | nil => rfl
      | cons h1 r =>
        cases r with
        | nil =>
          cases h1 <;> rfl
        | cons h2 r =>
          cases r with
          | nil =>
            cases h1 <;> cases h2 <;> first | rfl | simp [spD, spL, spT, limV]
          | cons h3 r => cases h1 <;> cases h2 <;> rfl
    | lst xs =>
      obtain ⟨a, e, q⟩ := hd
      cases e
      rw [h] at q
      cases q
    | dct xs =>
      obtain ⟨a, e, q⟩ := hd
      cases e
      rw [h] at q
      cases q
  | lst h n l r =>
    cases d with
    | tup xs =>
      obtain ⟨a, e, q⟩ := hd
      cases e
      rw [h] at q
      cases q
    | _ => rfl
  | dct h n =>
    cases d with
    | tup xs =>
      obtain ⟨a, e, q⟩ := hd
      cases e
      rw [h] at q
      cases q
    | _ => rfl
theorem t_isint (h : Tr H p v t) (q : Q (.bl (intT t)) H) : sp_is_integer K [v] H Q E := by
  obtain ⟨d, hd, _⟩ := h.is
  exact ⟨v, d, rfl, hd, by rw [h.int]; exact q⟩
theorem t_isname (h : Tr H p v t) (q : ∀ H', Ex H H' → Q (.bl (nameT t)) H') : sp_is_name K [v] H Q E := by
  obtain ⟨d, hd, _, hs, _⟩ := h.is
  exact ⟨v, d, rfl, hd, hs, by rw [h.nm]; exact q⟩
theorem t_isspan (h : Tr H p v t) (q : Q (.bl (spT t)) H) : sp_is_span K [v] H Q E := by
  obtain ⟨d, hd, hp, _⟩ := h.is
  exact ⟨v, d, rfl, hd, hp, by rw [h.sp hd]; exact q⟩
theorem t_islimit (h : Tr H p v t) (q : Q (.bl (limT t)) H) : sp_is_limit K [v] H Q E := by
  obtain ⟨d, hd, _⟩ := h.is
  exact ⟨v, d, rfl, hd, by rw [h.lim]; exact q⟩
end
end Z

/-! draws: lists mixed, names -/
namespace Z
open PySem PySem.Spec PyProof.Rows L2 Evl
section
variable {K : PySem.W.Frag} {σ : L2.St} {H : Hp} {Q : VK}
/-- a comprehension over range(m) under an invariant of one's own; D: the list that grows -/
theorem lc_inv {i : Nat} {te : TE} {wi : TI} (m : Nat) (hm : m < sizeLine) (hw : ∀ R : It → Hp → Prop, R (Itr 0 m) H → wi σ H R) (Iv : Addr → Nat → List V → Hp → Prop)
    (h0 : ∀ D, H D = none → Iv D 0 [] (upd H D (.lst [])))
    (he : ∀ D j ys H1, H D = none → j < m → ys.length = j → H1 D = some (.lst ys) → Iv D j ys H1 → ∀ R : VK, (∀ y H2, H2 D = some (.lst ys) → Iv D (j + 1) (ys ++ [y]) (upd H2 D (.lst (ys ++ [y]))) → R y H2) → te ((wipe σ [i]).set i (some (.int (0 + (j : Int))))) H1 R)
    (q : ∀ D H2 ys, H D = none → ys.length = m → H2 D = some (.lst ys) → Iv D m ys H2 → Q (.ref D) H2) : tLc wi (gName i) tYes te [i] σ H Q := by
  refine hw _ fun D hD => ?_
  refine lc_range (lo := 0) (n := m) (fun k H2 => ∃ ys, H2 D = some (.lst ys) ∧ ys.length = k ∧ Iv D k ys H2) ⟨[], upd_same, rfl, h0 D hD⟩ ?_ ?_
  · rintro k H2 hk ⟨ys, hy, hl, iv⟩
    refine ⟨?_, ?_⟩
    · show ((wipe σ [i]).set i (some (.int (0 + (k : Int))))).set i none = wipe σ [i]
      unfold wipe
      simp [wipe]
    · refine he D k ys H2 hD hk hl hy iv _ fun y H3 hy3 iv3 => ?_
      exact ⟨ys, hy3, by omega, ys ++ [y], upd_same, by simp [hl], iv3⟩
  · rintro H2 ⟨ys, hy, hl, iv⟩
    exact q D H2 ys hD hl hy iv
end
theorem perm_erase {l : List V} {i : Nat} (h : i < l.length) : (l[i] :: l.eraseIdx i).Perm l := by
  have e : l.take i ++ l[i] :: l.drop (i + 1) = l := by rw [← List.drop_eq_getElem_cons h, List.take_append_drop]
  rw [List.eraseIdx_eq_take_drop_succ]
  have q : (l[i] :: (l.take i ++ l.drop (i + 1))).Perm (l.take i ++ l[i] :: l.drop (i + 1)) := List.perm_middle.symm
  rw [e] at q
  exact q
theorem But.newD {p : Addr} {H H1 : Hp} {q : Addr} {o : HO} (a : But p H H1) (h : H q = none) : But p H (upd H1 q o) := fun x u e n => by
  rw [upd_ne (ne_of_none e h)]
  exact a x u e n
theorem Bx.upd {H : Hp} {p q : Addr} {n : Nat} {o : HO} (h : Bx H p n) (ne : q ≠ p) : Bx (L2.upd H q o) p n := by
  obtain ⟨a, b, c, e, r⟩ := h
  exact ⟨a, b, c, by rw [upd_ne ne.symm]; exact e, r⟩
def sp_law_mixed (K : PySem.W.Frag) : Sp := fun vs H Q _ => ∃ (p : Addr) (n : Nat) (a : Addr) (xs : List V), vs = [.ref p, .ref a] ∧ Bx H p n ∧ n ≤ 100000 ∧ H a = some (.lst xs) ∧ xs.length ≤ 100 ∧
  ∀ (D : Addr) (H' : Hp) (ys : List V), H D = none → But p H H' → Bx H' p (n + xs.length) → D ≠ p → H' D = some (.lst ys) → ys.Perm xs → Q (.ref D) H'
def sp_law_names (K : PySem.W.Frag) : Sp := fun vs H Q _ => ∃ (p : Addr) (n : Nat) (m : Int), vs = [.ref p, .int m] ∧ Bx H p n ∧ n ≤ 90000 ∧ 0 ≤ m ∧ m ≤ 13 ∧
  ∀ (D : Addr) (H' : Hp) (ys : List V), H D = none → But p H H' → Bx H' p (n + 20) → D ≠ p → H' D = some (.lst ys) → (ys.length : Int) = m → (∀ v ∈ ys, nmV v = true) → ys.Nodup → Q (.ref D) H'
def stems : List Str := ["", "a", "tabl", "rest", "part", "zzzzzzz"]
def fixS (z : Str) : Str := if z = ("table" : Str) then "tables" else z
def formS (stem : Str) (c : Nat) (w : Nat) : Str := fixS (match w with | 0 => stem ++ one c | 1 => one c ++ stem | _ => one c)
theorem form_ok : ∀ stem ∈ stems, ∀ c ∈ letters, ∀ w ∈ [0, 1, 2], nmS (formS stem c w) = true := by decide +kernel
theorem form_ne : ∀ stem ∈ stems, ∀ w ∈ [0, 1, 2], ∀ c ∈ letters, ∀ d ∈ letters, c ≠ d → formS stem c w ≠ formS stem d w ∧ formS stem c 0 ≠ formS stem d w := by decide +kernel
def lett (i : Nat) : Nat := letters.getD i 0
theorem steps_ne : ∀ f ∈ List.range 26, ∀ s ∈ [1, 3, 5, 7, 9, 11], ∀ i ∈ List.range 13, ∀ j ∈ List.range 13, i ≠ j → lett ((f + s * i) % 26) ≠ lett ((f + s * j) % 26) := by decide +kernel
theorem lett_mem : ∀ i ∈ List.range 26, lett i ∈ letters := by decide +kernel
def nameK (stem : Str) (f s w k : Nat) : Str := formS stem (lett ((f + s * k) % 26)) (if k = 0 then 0 else w)
theorem nameK_ok {stem : Str} {f s w : Nat} (hs : stem ∈ stems) (hw : w < 3) (k : Nat) : nmS (nameK stem f s w k) = true := by
  refine form_ok stem hs _ (lett_mem _ (List.mem_range.mpr (Nat.mod_lt _ (by decide)))) _ ?_
  split
  · decide
  · simp; omega
theorem nameK_ne {stem : Str} {f s w i j : Nat} (hs : stem ∈ stems) (hf : f < 26) (hst : s ∈ [1, 3, 5, 7, 9, 11]) (hw : w < 3) (hi : i < 13) (hj : j < 13) (ne : i ≠ j) : nameK stem f s w i ≠ nameK stem f s w j := by
  have hc := steps_ne f (List.mem_range.mpr hf) s hst i (List.mem_range.mpr hi) j (List.mem_range.mpr hj) ne
  have m1 := lett_mem _ (List.mem_range.mpr (Nat.mod_lt (f + s * i) (by decide : 26 > 0)))
  have m2 := lett_mem _ (List.mem_range.mpr (Nat.mod_lt (f + s * j) (by decide : 26 > 0)))
  have hw3 : w ∈ [0, 1, 2] := by simp; omega
  unfold nameK
  by_cases e1 : i = 0
  · rw [if_pos e1, if_neg (fun z => ne (e1.trans z.symm))]
    exact (form_ne stem hs w hw3 _ m1 _ m2 hc).2
  · rw [if_neg e1]
    by_cases e2 : j = 0
    · rw [if_pos e2]
      exact ((form_ne stem hs w hw3 _ m2 _ m1 hc.symm).2).symm
    · rw [if_neg e2]
      exact (form_ne stem hs w hw3 _ m1 _ m2 hc).1
theorem names_nodup {stem : Str} {f s w : Nat} (hs : stem ∈ stems) (hf : f < 26) (hst : s ∈ [1, 3, 5, 7, 9, 11]) (hw : w < 3) : ∀ m, m ≤ 13 → ((List.range m).map fun k => V.str (nameK stem f s w k)).Nodup
  | 0, _ => by simp
  | m + 1, hm => by
    rw [List.range_succ, List.map_append, List.nodup_append]
    refine ⟨names_nodup hs hf hst hw m (by omega), by simp, fun a ha b hb => ?_⟩
    obtain ⟨k, hk, rfl⟩ := List.mem_map.mp ha
    have hk := List.mem_range.mp hk
    rw [List.map_singleton, List.mem_singleton] at hb
    rw [hb]
    intro e
    have e2 : nameK stem f s w k = nameK stem f s w m := V.str.inj e
    exact nameK_ne hs hf hst hw (by omega) (by omega) (by omega) e2
end Z

namespace Z
open PySem PySem.Spec PyProof.Rows L2 Evl
def chT : PT → Bool
  | .tup (.sc (.str z) :: g) =>
    if z = ("hang" : Str) then (match g with
      | [a, b] => nameT a && spT b
      | _ => false)
    else if z = ("take" : Str) then (match g with
      | [a] => nameT a
      | _ => false)
    else if z = ("split" : Str) then (match g with
      | [a, b, c, d] => intT b && namesT [a, c, d]
      | _ => false)
    else if z = ("join" : Str) then (match g with
      | [a, b, c] => namesT [a, b, c]
      | _ => false)
    else false
  | _ => false
def sp_are_names (K : PySem.W.Frag) : Sp := fun vs H Q _ => ∃ (p a : Addr) (us : List V) (ts : List PT), vs = [.ref a] ∧ H a = some (.lst us) ∧ TrL H p us ts ∧ us.length ≤ 1000 ∧ ∀ H', Ex H H' → Q (.bl (namesT ts)) H'
def sp_is_change (K : PySem.W.Frag) : Sp := fun vs H Q _ => ∃ (p : Addr) (v : V) (t : PT), vs = [v] ∧ Tr H p v t ∧ ∀ H', Ex H H' → Q (.bl (chT t)) H'
def sp_need_change (K : PySem.W.Frag) : Sp := fun vs H Q E => ∃ (p : Addr) (v : V) (t : PT), vs = [v] ∧ Tr H p v t ∧ (chT t = true → ∀ H', Ex H H' → Q .non H') ∧ (chT t = false → Rz K "InvalidChange" "value" v H E)
/-- the parts ahead of a change, behind it: by its length -/
def oldV : List V → List V
  | [_, a] => [a]
  | [_, a, b, _] => [a, b]
  | [_, a, _, _, _] => [a]
  | _ => []
def newV : List V → List V
  | [_, a, _] => [a]
  | [_, _, _, c] => [c]
  | [_, _, _, c, d] => [c, d]
  | _ => []
def sp_old_parts (K : PySem.W.Frag) : Sp := fun vs H Q _ => ∃ (p a : Addr) (us : List V) (ts : List PT), vs = [.ref a] ∧ H a = some (.tup us) ∧ TrL H p us ts ∧ chT (.tup ts) = true ∧ ∀ (r : Addr) (H' : Hp), H r = none → Ex H H' → H' r = some (.lst (oldV us)) → Q (.ref r) H'
def sp_new_parts (K : PySem.W.Frag) : Sp := fun vs H Q _ => ∃ (p a : Addr) (us : List V) (ts : List PT), vs = [.ref a] ∧ H a = some (.tup us) ∧ TrL H p us ts ∧ chT (.tup ts) = true ∧ ∀ (r : Addr) (H' : Hp), H r = none → Ex H H' → H' r = some (.lst (newV us)) → Q (.ref r) H'
/-- at r: the pair of the lists at o, w, all new -/
def Rol (H H' : Hp) (us : List V) (r o w : Addr) : Prop := H r = none ∧ H o = none ∧ H w = none ∧ H' r = some (.tup [.ref o, .ref w]) ∧ H' o = some (.lst (oldV us)) ∧ H' w = some (.lst (newV us))
def sp_roles (K : PySem.W.Frag) : Sp := fun vs H Q E => ∃ (p : Addr) (v : V) (t : PT), vs = [v] ∧ Tr H p v t ∧ (chT t = true → ∀ a us, v = .ref a → H a = some (.tup us) → ∀ r o w H', Ex H H' → Rol H H' us r o w → Q (.ref r) H') ∧ (chT t = false → Rz K "InvalidChange" "value" v H E)
def sp_law_is_name (K : PySem.W.Frag) : Sp := fun vs H Q _ => ∃ (p : Addr) (v : V) (t : PT), vs = [v] ∧ Tr H p v t ∧ ∀ H', Ex H H' → Q (.bl (nameT t)) H'
def sp_law_is_limit (K : PySem.W.Frag) : Sp := fun vs H Q _ => ∃ (p : Addr) (v : V) (t : PT), vs = [v] ∧ Tr H p v t ∧ Q (.bl (limT t)) H
def sp_law_is_span (K : PySem.W.Frag) : Sp := fun vs H Q _ => ∃ (p : Addr) (v : V) (t : PT), vs = [v] ∧ Tr H p v t ∧ Q (.bl (spT t)) H
def notD : PT → Bool
  | .dct _ => false
  | _ => true
def sp_law_is_change (K : PySem.W.Frag) : Sp := fun vs H Q _ => ∃ (p : Addr) (v : V) (t : PT), vs = [v] ∧ Tr H p v t ∧ (∀ ts, t = .tup ts → ts.all notD = true) ∧ ∀ H', Ex H H' → Q (.bl (chT t)) H'
def sp_law_right (K : PySem.W.Frag) : Sp := fun vs H Q _ => ∃ (p a : Addr) (n : Nat) (x y z : V), vs = [.ref p, .ref a] ∧ Bx H p n ∧ n ≤ 10000 ∧ H a = some (.lst [x, y, z]) ∧ nmV x = true ∧ nmV y = true ∧ nmV z = true ∧
  ∀ (r : Addr) (us : List V) (ts : List PT) (H' : Hp), But p H H' → Bx H' p (n + 2) → H' r = some (.tup us) → r ≠ p → TrL H' p us ts → us ≠ [] → us.length ≤ 10 → ts.all notD = true → Q (.ref r) H'
def sp_law_bent (K : PySem.W.Frag) : Sp := fun vs H Q _ => ∃ (p a : Addr) (n : Nat) (us : List V) (ts : List PT), vs = [.ref p, .ref a] ∧ Bx H p n ∧ n ≤ 10000 ∧ (H a = some (.tup us) ∨ H a = some (.lst us)) ∧ a ≠ p ∧ TrL H p us ts ∧ us ≠ [] ∧ us.length ≤ 100 ∧ ts.all notD = true ∧
  ∀ (r : Addr) (ws : List V) (xs : List PT) (H' : Hp), But p H H' → Bx H' p (n + 3) → (H' r = some (.tup ws) ∨ H' r = some (.lst ws)) → r ≠ p → TrL H' p ws xs → ws.length ≤ us.length + 1 → xs.all notD = true → Q (.ref r) H'
def sp_law_told (K : PySem.W.Frag) : Sp := fun vs H Q _ => ∃ (p : Addr) (v : V) (t : PT), vs = [v] ∧ Tr H p v t ∧
  (chT t = true → ∀ a us, v = .ref a → H a = some (.tup us) → ∀ q r o w H', Ex H H' → Rol H H' us r o w → H q = none → H' q = some (.lst [.str "told", .ref r]) → Q (.ref q) H') ∧
  (chT t = false → ∀ q H', Ex H H' → H' q = some (.lst [.str "change", v]) → Q (.ref q) H')
def sp_law_roles (K : PySem.W.Frag) : Sp := fun vs H Q _ => ∃ (p a : Addr) (us : List V) (ts : List PT), vs = [.ref a] ∧ H a = some (.tup us) ∧ TrL H p us ts ∧ chT (.tup ts) = true ∧ ∀ r o w H', Ex H H' → Rol H H' us r o w → Q (.ref r) H'
def sp_law (K : PySem.W.Frag) : Sp := fun vs H Q _ => ∃ (a : Addr) (ns : List Int), vs = [.ref a] ∧ SqL K H a (ns.map V.int) ∧ ns.length ≤ 63 ∧ ∀ H', Q (.bl true) H'
end Z

namespace Z
open PySem PySem.Spec PyProof.Rows L2 Evl
/-! ### readings (gen.py) -/
structure Exm (K : PySem.W.Frag) : Prop where
  e_InvalidChange_InvalidChange : PySem.W.exmOne K (.ref (He.ga K "InvalidChange")) (.ref (He.ga K "InvalidChange")) = some true
def t_is_integer (K : PySem.W.Frag) : TS :=
  (tRet ((tAndV (tCB (rIsi K) (tCons (tVar 0) (tCons (tC (.ty "int")) tNil))) (tNotV (tCB (rIsi K) (tCons (tVar 0) (tCons (tC (.ty "bool")) tNil)))))))
def t_is_name (K : PySem.W.Frag) : TS :=
  (tSeq (tIfS ((tOr (tNot (tB (tCB (rIsi K) (tCons (tVar 0) (tCons (tC (.ty "str")) tNil))))) (tOr (tTest (tOp (rEqA K) (tVar 0) (tC (.str "table")))) (tNot (tTest (tChain rLeA rLeA (tC (.int 1)) (tCB (rLenA K) (tCons (tVar 0) tNil)) (tC (.int 8)))))))) (tRet (tC (.bl false))) tNext)
    (tRet (tCB (rAll K) (tCons (tLc (iAny K (tVar 0)) (gName 1) tYes (tOp (rInB K) (tVar 1) (tC (.str "abcdefghijklmnopqrstuvwxyz"))) [1]) tNil))))
def t_is_limit (K : PySem.W.Frag) : TS :=
  (tRet ((tOrV (tOp rIsA (tVar 0) (tC .non)) (tCall (sp_is_integer K) [] E0 (tCons (tVar 0) tNil)))))
def t_is_span (K : PySem.W.Frag) : TS :=
  (tSeq (tIfS ((tOr (tNot (tB (tCB (rIsi K) (tCons (tVar 0) (tCons (tC (.ty "tuple")) tNil))))) (tTest (tOp (rNeA K) (tCB (rLenA K) (tCons (tVar 0) tNil)) (tC (.int 2)))))) (tRet (tC (.bl false))) tNext)
    (tSeq (tAsg (tVar 0) (gTup K 2 (gCons (gName 1) (gCons (gName 2) gNil))))
    (tSeq (tIfS ((tOr (tNot (tB (tCall (sp_is_limit K) [] E0 (tCons (tVar 1) tNil)))) (tNot (tB (tCall (sp_is_limit K) [] E0 (tCons (tVar 2) tNil)))))) (tRet (tC (.bl false))) tNext)
    (tRet ((tOrV (tOp rIsA (tVar 1) (tC .non)) (tOrV (tOp rIsA (tVar 2) (tC .non)) (tOp rLtA (tVar 1) (tVar 2)))))))))
def t_are_names (K : PySem.W.Frag) : TS :=
  (tSeq (tIfS (tNot (tB (tCB (rAll K) (tCons (tLc (iAny K (tVar 0)) (gName 1) tYes (tCall (sp_is_name K) [] E0 (tCons (tVar 1) tNil)) [1]) tNil)))) (tRet (tC (.bl false))) tNext)
    (tRet (tCB (rAll K) (tCons (tLc (iRng1 (tCons (tCB (rLenA K) (tCons (tVar 0) tNil)) tNil)) (gName 2) tYes (tOp (rNinB K) (tOp (rIxB K) (tVar 0) (tVar 2)) (tSl (rSlA K) (tVar 0) tNoPart (tPart (tVar 2)))) [2]) tNil))))
def t_is_change (K : PySem.W.Frag) : TS :=
  (tSeq (tIfS ((tOr (tNot (tB (tCB (rIsi K) (tCons (tVar 0) (tCons (tC (.ty "tuple")) tNil))))) (tOr (tTest (tOp (rEqA K) (tCB (rLenA K) (tCons (tVar 0) tNil)) (tC (.int 0)))) (tNot (tB (tCB (rIsi K) (tCons (tOp (rIxB K) (tVar 0) (tC (.int 0))) (tCons (tC (.ty "str")) tNil)))))))) (tRet (tC (.bl false))) tNext)
    (tSeq (tAsg (tVar 0) (gStar K 2 1 (gCons (gName 1) (gCons (gName 2) gNil))))
    (tSeq (tIfS (tTest (tOp (rEqA K) (tVar 1) (tC (.str "hang")))) (tRet ((tAndV (tOp (rEqA K) (tCB (rLenA K) (tCons (tVar 2) tNil)) (tC (.int 2))) (tAndV (tCall (sp_is_name K) [] E0 (tCons (tOp (rIxB K) (tVar 2) (tC (.int 0))) tNil)) (tCall (sp_is_span K) [] E0 (tCons (tOp (rIxB K) (tVar 2) (tC (.int 1))) tNil)))))) tNext)
    (tSeq (tIfS (tTest (tOp (rEqA K) (tVar 1) (tC (.str "take")))) (tRet ((tAndV (tOp (rEqA K) (tCB (rLenA K) (tCons (tVar 2) tNil)) (tC (.int 1))) (tCall (sp_is_name K) [] E0 (tCons (tOp (rIxB K) (tVar 2) (tC (.int 0))) tNil))))) tNext)
    (tSeq (tIfS (tTest (tOp (rEqA K) (tVar 1) (tC (.str "split")))) (tRet ((tAndV (tOp (rEqA K) (tCB (rLenA K) (tCons (tVar 2) tNil)) (tC (.int 4))) (tAndV (tCall (sp_is_integer K) [] E0 (tCons (tOp (rIxB K) (tVar 2) (tC (.int 1))) tNil)) (tCall (sp_are_names K) [] E0 (tCons (tLst (tCons (tOp (rIxB K) (tVar 2) (tC (.int 0))) (tCons (tOp (rIxB K) (tVar 2) (tC (.int 2))) (tCons (tOp (rIxB K) (tVar 2) (tC (.int 3))) tNil)))) tNil)))))) tNext)
    (tRet ((tAndV (tOp (rEqA K) (tVar 1) (tC (.str "join"))) (tAndV (tOp (rEqA K) (tCB (rLenA K) (tCons (tVar 2) tNil)) (tC (.int 3))) (tCall (sp_are_names K) [] E0 (tCons (tVar 2) tNil)))))))))))
def t_need_change (K : PySem.W.Frag) (E : XK) : TS :=
  (tIfS (tNot (tB (tCall (sp_is_change K) [] E0 (tCons (tVar 0) tNil)))) (tRaisevalue (He.ga K "InvalidChange") (fun cls d _ H => E cls d H) (tCons (tVar 0) tNil)) tNext)
def t_old_parts (K : PySem.W.Frag) : TS :=
  (tSeq (tIfS (tTest (tOp (rEqA K) (tOp (rIxB K) (tVar 0) (tC (.int 0))) (tC (.str "hang")))) (tRet (tLst tNil)) tNext)
    (tRet (tIf (tTest (tOp (rEqA K) (tOp (rIxB K) (tVar 0) (tC (.int 0))) (tC (.str "join")))) (tLst (tCons (tOp (rIxB K) (tVar 0) (tC (.int 1))) (tCons (tOp (rIxB K) (tVar 0) (tC (.int 2))) tNil))) (tLst (tCons (tOp (rIxB K) (tVar 0) (tC (.int 1))) tNil)))))
def t_new_parts (K : PySem.W.Frag) : TS :=
  (tSeq (tIfS (tTest (tOp (rEqA K) (tOp (rIxB K) (tVar 0) (tC (.int 0))) (tC (.str "take")))) (tRet (tLst tNil)) tNext)
    (tSeq (tIfS (tTest (tOp (rEqA K) (tOp (rIxB K) (tVar 0) (tC (.int 0))) (tC (.str "hang")))) (tRet (tLst (tCons (tOp (rIxB K) (tVar 0) (tC (.int 1))) tNil))) tNext)
    (tRet (tIf (tTest (tOp (rEqA K) (tOp (rIxB K) (tVar 0) (tC (.int 0))) (tC (.str "split")))) (tLst (tCons (tOp (rIxB K) (tVar 0) (tC (.int 3))) (tCons (tOp (rIxB K) (tVar 0) (tC (.int 4))) tNil))) (tLst (tCons (tOp (rIxB K) (tVar 0) (tC (.int 3))) tNil))))))
def t_roles (K : PySem.W.Frag) (E : XK) : TS :=
  (tSeq (tDrop (tCallS (sp_need_change K) (WE (fun cls d _ H => E cls d H)) (tCons (tVar 0) tNil)))
    (tRet (tTup (tCons (tCall (sp_old_parts K) [] E0 (tCons (tVar 0) tNil)) (tCons (tCall (sp_new_parts K) [] E0 (tCons (tVar 0) tNil)) tNil)))))
def t_law_cell (K : PySem.W.Frag) : TS :=
  (tSeq (tIfS (tTest (tOp rLtA (tVar 1) (tCB (rLenA K) (tCons (tVar 0) tNil)))) (tRet (tOp (rIxB K) (tVar 0) (tVar 1))) tNext)
    (tRet (tOp (rAddA K) (tOp rMulA (tC (.int 7919)) (tVar 1)) (tC (.int 131)))))
def t_law_box (K : PySem.W.Frag) : TS :=
  (tRet (tLst (tCons (tCB (rMaxA K) (tCons (tC (.int 0)) (tCons (tOp rSubA (tVar 0) (tOp rPowA (tC (.int 10)) (tC (.int 18)))) tNil))) (tCons (tOp rModA (tVar 0) (tC (.int 2147483629))) (tCons (tC (.int 0)) tNil)))))
def t_law_take (K : PySem.W.Frag) : TS :=
  (tSeq (tIfS (tTest (tOp rGtA (tOp (rIxB K) (tVar 0) (tC (.int 0))) (tC (.int 0)))) (tSeq (tAsg (tOp rModA (tOp (rIxB K) (tVar 0) (tC (.int 0))) (tVar 1)) (gName 2))
    (tSeq (tAsg (tOp rDivA (tOp (rIxB K) (tVar 0) (tC (.int 0))) (tVar 1)) (gSub (tVar 0) (tC (.int 0)) rSetB))
    (tRet (tVar 2)))) tNext)
    (tSeq (tAsg (tOp (rAddA K) (tOp (rIxB K) (tVar 0) (tC (.int 2))) (tC (.int 1))) (gSub (tVar 0) (tC (.int 2)) rSetB))
    (tSeq (tAsg (tOp rModA (tOp rPowA (tOp (rAddA K) (tOp (rAddA K) (tOp (rIxB K) (tVar 0) (tC (.int 1))) (tOp rMulA (tC (.int 7919)) (tOp (rIxB K) (tVar 0) (tC (.int 2))))) (tC (.int 43))) (tC (.int 5))) (tC (.int 2147483647))) (gName 3))
    (tSeq (tAsg (tOp rModA (tOp rPowA (tOp (rAddA K) (tVar 3) (tOp rMulA (tC (.int 104729)) (tOp (rIxB K) (tVar 0) (tC (.int 2))))) (tC (.int 3))) (tC (.int 2147483587))) (gName 3))
    (tRet (tOp rModA (tOp rDivA (tVar 3) (tC (.int 8))) (tVar 1)))))))
def t_law_mixed (K : PySem.W.Frag) : TS :=
  (tSeq (tAsg (tCB (rListA K) (tCons (tVar 1) tNil)) (gName 2))
    (tRet (tLc (iRng1 (tCons (tCB (rLenA K) (tCons (tVar 1) tNil)) tNil)) (gName 3) tYes (tBM K "list" rPopA (tVar 2) (tCons (tCall (sp_law_take K) [] E0 (tCons (tVar 0) (tCons (tCB (rLenA K) (tCons (tVar 2) tNil)) tNil))) tNil)) [3])))
def t_law_names (K : PySem.W.Frag) : TS :=
  (tSeq (tAsg (tC (.str "abcdefghijklmnopqrstuvwxyz")) (gName 2))
    (tSeq (tIfS (tTest (tOp (rEqA K) (tCall (sp_law_take K) [] E0 (tCons (tVar 0) (tCons (tC (.int 7)) tNil))) (tC (.int 0)))) (tSeq (tAsg (tLst (tCons (tC (.str "begin")) (tCons (tC (.str "empty")) (tCons (tC (.str "rest")) (tCons (tC (.str "step")) (tCons (tC (.str "end")) (tCons (tC (.str "look")) (tCons (tC (.str "old")) (tCons (tC (.str "new")) (tCons (tC (.str "put")) (tCons (tC (.str "part")) (tCons (tC (.str "move")) (tCons (tC (.str "split")) (tCons (tC (.str "lock")) tNil)))))))))))))) (gName 3))
    (tRet (tSl (rSlA K) (tCall (sp_law_mixed K) [] E0 (tCons (tVar 0) (tCons (tVar 3) tNil))) tNoPart (tPart (tVar 1))))) tNext)
    (tSeq (tAsg (tOp (rIxB K) (tLst (tCons (tC (.str "")) (tCons (tC (.str "a")) (tCons (tC (.str "tabl")) (tCons (tC (.str "rest")) (tCons (tC (.str "part")) (tCons (tC (.str "zzzzzzz")) tNil))))))) (tCall (sp_law_take K) [] E0 (tCons (tVar 0) (tCons (tC (.int 6)) tNil)))) (gName 4))
    (tSeq (tPar3 5 6 7 (tCons (tCall (sp_law_take K) [] E0 (tCons (tVar 0) (tCons (tC (.int 26)) tNil))) (tCons (tOp (rIxB K) (tLst (tCons (tC (.int 1)) (tCons (tC (.int 3)) (tCons (tC (.int 5)) (tCons (tC (.int 7)) (tCons (tC (.int 9)) (tCons (tC (.int 11)) tNil))))))) (tCall (sp_law_take K) [] E0 (tCons (tVar 0) (tCons (tC (.int 6)) tNil)))) (tCons (tCall (sp_law_take K) [] E0 (tCons (tVar 0) (tCons (tC (.int 3)) tNil))) tNil))))
    (tSeq (tAsg (tLst tNil) (gName 8))
    (tSeq (tFor (iRng1 (tCons (tVar 1) tNil)) (gName 9) (tSeq (tAsg (tOp (rIxB K) (tVar 2) (tOp rModA (tOp (rAddA K) (tVar 5) (tOp rMulA (tVar 6) (tVar 9))) (tC (.int 26)))) (gName 10))
    (tSeq (tAsg (tOp (rIxB K) (tLst (tCons (tOp (rAddA K) (tVar 4) (tVar 10)) (tCons (tOp (rAddA K) (tVar 10) (tVar 4)) (tCons (tVar 10) tNil)))) (tIf (tTest (tOp rGtA (tVar 9) (tC (.int 0)))) (tVar 7) (tC (.int 0)))) (gName 11))
    (tDrop (tBM K "list" rAppend (tVar 8) (tCons (tIf (tTest (tOp (rEqA K) (tVar 11) (tC (.str "table")))) (tC (.str "tables")) (tVar 11)) tNil))))))
    (tRet (tVar 8))))))))
def t_law_is_name (K : PySem.W.Frag) : TS :=
  (tSeq (tIfS ((tOr (tNot (tB (tCB (rIsi K) (tCons (tVar 0) (tCons (tC (.ty "str")) tNil))))) (tOr (tTest (tOp (rEqA K) (tVar 0) (tC (.str "table")))) (tOr (tTest (tOp rLtA (tCB (rLenA K) (tCons (tVar 0) tNil)) (tC (.int 1)))) (tTest (tOp rGtA (tCB (rLenA K) (tCons (tVar 0) tNil)) (tC (.int 8)))))))) (tRet (tC (.bl false))) tNext)
    (tRet (tOp (rEqA K) (tLc (iAny K (tVar 0)) (gName 1) (tTest (tOp (rNinB K) (tVar 1) (tC (.str "abcdefghijklmnopqrstuvwxyz")))) (tVar 1) [1]) (tLst tNil))))
def t_law_is_limit (K : PySem.W.Frag) : TS :=
  (tRet ((tOrV (tOp rIsA (tVar 0) (tC .non)) ((tAndV (tCB (rIsi K) (tCons (tVar 0) (tCons (tC (.ty "int")) tNil))) (tNotV (tCB (rIsi K) (tCons (tVar 0) (tCons (tC (.ty "bool")) tNil)))))))))
def t_law_is_span (K : PySem.W.Frag) : TS :=
  (tSeq (tIfS ((tOr (tNot (tB (tCB (rIsi K) (tCons (tVar 0) (tCons (tC (.ty "tuple")) tNil))))) (tTest (tOp (rNeA K) (tCB (rLenA K) (tCons (tVar 0) tNil)) (tC (.int 2)))))) (tRet (tC (.bl false))) tNext)
    (tSeq (tIfS ((tOr (tNot (tB (tCall (sp_law_is_limit K) [] E0 (tCons (tOp (rIxB K) (tVar 0) (tC (.int 0))) tNil)))) (tNot (tB (tCall (sp_law_is_limit K) [] E0 (tCons (tOp (rIxB K) (tVar 0) (tC (.int 1))) tNil)))))) (tRet (tC (.bl false))) tNext)
    (tRet ((tOrV (tOp rIsA (tOp (rIxB K) (tVar 0) (tC (.int 0))) (tC .non)) (tOrV (tOp rIsA (tOp (rIxB K) (tVar 0) (tC (.int 1))) (tC .non)) (tOp rLtA (tOp (rIxB K) (tVar 0) (tC (.int 0))) (tOp (rIxB K) (tVar 0) (tC (.int 1))))))))))
def t_law_is_change (K : PySem.W.Frag) : TS :=
  (tSeq (tIfS ((tOr (tNot (tB (tCB (rIsi K) (tCons (tVar 0) (tCons (tC (.ty "tuple")) tNil))))) (tOr (tTest (tOp (rEqA K) (tVar 0) (tTup tNil))) (tTest (tOp (rNinB K) (tOp (rIxB K) (tVar 0) (tC (.int 0))) (tLst (tCons (tC (.str "hang")) (tCons (tC (.str "take")) (tCons (tC (.str "split")) (tCons (tC (.str "join")) tNil)))))))))) (tRet (tC (.bl false))) tNext)
    (tSeq (tAsg (tCB (rListA K) (tCons (tSl (rSlA K) (tVar 0) (tPart (tC (.int 1))) tNoPart) tNil)) (gName 1))
    (tSeq (tIfS (tTest (tOp (rNeA K) (tCB (rLenA K) (tCons (tVar 1) tNil)) (tOp (rIxB K) (tDisp (((tC (.str "hang")), (tC (.int 2))) :: ((tC (.str "take")), (tC (.int 1))) :: ((tC (.str "split")), (tC (.int 4))) :: ((tC (.str "join")), (tC (.int 3))) :: [])) (tOp (rIxB K) (tVar 0) (tC (.int 0)))))) (tRet (tC (.bl false))) tNext)
    (tSeq (tIfS (tTest (tOp (rEqA K) (tOp (rIxB K) (tVar 0) (tC (.int 0))) (tC (.str "hang")))) (tRet ((tAndV (tCall (sp_law_is_name K) [] E0 (tCons (tOp (rIxB K) (tVar 1) (tC (.int 0))) tNil)) (tCall (sp_law_is_span K) [] E0 (tCons (tOp (rIxB K) (tVar 1) (tC (.int 1))) tNil))))) tNext)
    (tSeq (tAsg (tVar 1) (gName 2))
    (tCut (tIfS (tTest (tOp (rEqA K) (tOp (rIxB K) (tVar 0) (tC (.int 0))) (tC (.str "split")))) (tSeq (tIfS ((tOr (tTest (tOp rIsA (tOp (rIxB K) (tVar 1) (tC (.int 1))) (tC .non))) (tNot (tB (tCall (sp_law_is_limit K) [] E0 (tCons (tOp (rIxB K) (tVar 1) (tC (.int 1))) tNil)))))) (tRet (tC (.bl false))) tNext)
    (tAsg (tOp (rAddA K) (tLst (tCons (tOp (rIxB K) (tVar 1) (tC (.int 0))) tNil)) (tSl (rSlA K) (tVar 1) (tPart (tC (.int 2))) tNoPart)) (gName 2))) tNext)
    (tSeq (tIfS (tTest (tOp (rNeA K) (tLc (iAny K (tVar 2)) (gName 3) (tNot (tB (tCall (sp_law_is_name K) [] E0 (tCons (tVar 3) tNil)))) (tVar 3) [3]) (tLst tNil))) (tRet (tC (.bl false))) tNext)
    (tRet (tOp (rEqA K) (tLc (iRng1 (tCons (tCB (rLenA K) (tCons (tVar 2) tNil)) tNil)) (gName 4) (tTest (tOp (rInB K) (tOp (rIxB K) (tVar 2) (tVar 4)) (tSl (rSlA K) (tVar 2) tNoPart (tPart (tVar 4))))) (tVar 4) [4]) (tLst tNil))))))))))
def t_law_right (K : PySem.W.Frag) : TS :=
  (tSeq (tAsg (tOp rSubA (tCall (sp_law_take K) [] E0 (tCons (tVar 0) (tCons (tC (.int 21)) tNil))) (tC (.int 10))) (gName 2))
    (tSeq (tAsg (tLst (tCons (tTup (tCons (tC (.str "hang")) (tCons (tOp (rIxB K) (tVar 1) (tC (.int 0))) (tCons (tTup (tCons (tVar 2) (tCons (tOp (rAddA K) (tVar 2) (tC (.int 3))) tNil))) tNil)))) (tCons (tTup (tCons (tC (.str "hang")) (tCons (tOp (rIxB K) (tVar 1) (tC (.int 0))) (tCons (tTup (tCons (tC .non) (tCons (tVar 2) tNil))) tNil)))) (tCons (tTup (tCons (tC (.str "take")) (tCons (tOp (rIxB K) (tVar 1) (tC (.int 0))) tNil))) tNil)))) (gName 3))
    (tSeq (tAsg (tOp (rAddA K) (tVar 3) (tLst (tCons (tTup (tCons (tC (.str "split")) (tCons (tOp (rIxB K) (tVar 1) (tC (.int 0))) (tCons (tVar 2) (tCons (tOp (rIxB K) (tVar 1) (tC (.int 1))) (tCons (tOp (rIxB K) (tVar 1) (tC (.int 2))) tNil)))))) (tCons (tTup (tCons (tC (.str "join")) (tCons (tOp (rIxB K) (tVar 1) (tC (.int 0))) (tCons (tOp (rIxB K) (tVar 1) (tC (.int 1))) (tCons (tOp (rIxB K) (tVar 1) (tC (.int 2))) tNil))))) tNil)))) (gName 3))
    (tRet (tOp (rIxB K) (tVar 3) (tCall (sp_law_take K) [] E0 (tCons (tVar 0) (tCons (tC (.int 5)) tNil))))))))
def t_law_bent (K : PySem.W.Frag) : TS :=
  (tSeq (tAsg (tCB (rListA K) (tCons (tVar 1) tNil)) (gName 2))
    (tSeq (tAsg (tCall (sp_law_take K) [] E0 (tCons (tVar 0) (tCons (tCB (rLenA K) (tCons (tVar 2) tNil)) tNil))) (gName 3))
    (tSeq (tAsg (tOp (rIxB K) (tLst (tCons (tC .non) (tCons (tC (.int 5)) (tCons (tC (.bl true)) (tCons (tC (.str "table")) (tCons (tC (.str "")) (tCons (tC (.str "A")) (tCons (tC (.str "hang")) (tCons (tTup (tCons (tC (.int 5)) (tCons (tC (.int 5)) tNil))) (tCons (tLst (tCons (tC (.int 1)) (tCons (tC (.int 2)) tNil))) (tCons (tTup (tCons (tC (.str "a")) tNil)) (tCons (tC (.str "toolonger")) tNil)))))))))))) (tCall (sp_law_take K) [] E0 (tCons (tVar 0) (tCons (tC (.int 11)) tNil)))) (gName 4))
    (tSeq (tAsg (tCall (sp_law_take K) [] E0 (tCons (tVar 0) (tCons (tC (.int 5)) tNil))) (gName 5))
    (tCut (tIfS (tTest (tOp (rEqA K) (tVar 5) (tC (.int 0)))) (tAsg (tVar 4) (gSub (tVar 2) (tVar 3) rSetB)) tNext)
    (tCut (tIfS (tTest (tOp (rEqA K) (tVar 5) (tC (.int 1)))) (tDrop (tBM K "list" rPopA (tVar 2) (tCons (tVar 3) tNil))) tNext)
    (tCut (tIfS (tTest (tOp (rEqA K) (tVar 5) (tC (.int 2)))) (tDrop (tBM K "list" rInsert (tVar 2) (tCons (tVar 3) (tCons (tVar 4) tNil)))) tNext)
    (tCut (tIfS (tTest (tOp (rEqA K) (tVar 5) (tC (.int 3)))) (tAsg (tOp (rIxB K) (tVar 2) (tUn (rU fun i => .int (-i)) (tC (.int 1)))) (gSub (tVar 2) (tVar 3) rSetB)) tNext)
    (tRet (tOp (rIxB K) (tLst (tCons (tCB (rTupA K) (tCons (tVar 2) tNil)) (tCons (tVar 2) tNil))) (tCB rIntA (tCons (tOp (rEqA K) (tVar 5) (tC (.int 4))) tNil))))))))))))
def t_law_told (K : PySem.W.Frag) : TS :=
  (tTry K (fun W => (tRet (tLst (tCons (tC (.str "told")) (tCons (tCallS (sp_roles K) (WE W) (tCons (tVar 0) tNil)) tNil))))) (fun _ _ _ _ => False) ((.ref (He.ga K "InvalidChange"), some 1, fun a cls d => (tRet (tLst (tCons (tC (.str "change")) (tCons (tXf a cls d (He.ga K "InvalidChange") "value" (tVar 1)) tNil))))) :: ([])))
def t_law_roles (K : PySem.W.Frag) : TS :=
  (tSeq (tIfS (tTest (tOp (rInB K) (tOp (rIxB K) (tVar 0) (tC (.int 0))) (tLst (tCons (tC (.str "hang")) (tCons (tC (.str "take")) tNil))))) (tRet (tOp (rIxB K) (tLst (tCons (tTup (tCons (tLst tNil) (tCons (tLst (tCons (tOp (rIxB K) (tVar 0) (tC (.int 1))) tNil)) tNil))) (tCons (tTup (tCons (tLst (tCons (tOp (rIxB K) (tVar 0) (tC (.int 1))) tNil)) (tCons (tLst tNil) tNil))) tNil))) (tCB rIntA (tCons (tOp (rEqA K) (tOp (rIxB K) (tVar 0) (tC (.int 0))) (tC (.str "take"))) tNil)))) tNext)
    (tSeq (tIfS (tTest (tOp (rEqA K) (tOp (rIxB K) (tVar 0) (tC (.int 0))) (tC (.str "split")))) (tRet (tTup (tCons (tLst (tCons (tOp (rIxB K) (tVar 0) (tC (.int 1))) tNil)) (tCons (tLst (tCons (tOp (rIxB K) (tVar 0) (tC (.int 3))) (tCons (tOp (rIxB K) (tVar 0) (tC (.int 4))) tNil))) tNil)))) tNext)
    (tRet (tTup (tCons (tLst (tCons (tOp (rIxB K) (tVar 0) (tC (.int 1))) (tCons (tOp (rIxB K) (tVar 0) (tC (.int 2))) tNil))) (tCons (tLst (tCons (tOp (rIxB K) (tVar 0) (tC (.int 3))) tNil)) tNil))))))
def t_law (K : PySem.W.Frag) : TS :=
  (tSeq (tFor (iRng1 (tCons (tCB (rMaxA K) (tCons (tC (.int 2)) (tCons (tCB (rMinA K) (tCons (tC (.int 16)) (tCons (tCB (rLenA K) (tCons (tVar 0) tNil)) tNil))) tNil))) tNil)) (gName 1) (tSeq (tAsg (tCall (sp_law_box K) [] E0 (tCons (tCall (sp_law_cell K) [] E0 (tCons (tVar 0) (tCons (tVar 1) tNil))) tNil)) (gName 2))
    (tSeq (tAsg (tCall (sp_law_right K) [] E0 (tCons (tVar 2) (tCons (tCall (sp_law_names K) [] E0 (tCons (tVar 2) (tCons (tC (.int 3)) tNil))) tNil))) (gName 3))
    (tSeq (tAsg (tLst (tCons (tVar 3) (tCons (tCall (sp_law_bent K) [] E0 (tCons (tVar 2) (tCons (tVar 3) tNil))) (tCons (tCall (sp_law_bent K) [] E0 (tCons (tVar 2) (tCons ((tOrT K (tCall (sp_law_bent K) [] E0 (tCons (tVar 2) (tCons (tVar 3) tNil))) (tTup (tCons (tC (.int 1)) tNil)))) tNil))) (tCons (tTup tNil) tNil))))) (gName 4))
    (tSeq (tDrop (tBM K "list" rAppend (tVar 4) (tCons (tOp (rIxB K) (tLst (tCons (tC .non) (tCons (tC (.int 5)) (tCons (tC (.str "hang")) (tCons (tLst (tCons (tC (.str "take")) (tCons (tC (.str "a")) tNil))) (tCons (tDNewK) (tCons (tTup (tCons (tTup (tCons (tC (.str "take")) tNil)) tNil)) (tCons (tTup (tCons (tC (.str "take")) tNil)) tNil)))))))) (tCall (sp_law_take K) [] E0 (tCons (tVar 2) (tCons (tC (.int 7)) tNil)))) tNil)))
    (tFor (iAny K (tVar 4)) (gName 5) (tSeq (tAsg (tCall (sp_law_is_change K) [] E0 (tCons (tVar 5) tNil)) (gName 6))
    (tSeq (tAsg (tCall (sp_is_change K) [] E0 (tCons (tVar 5) tNil)) (gName 7))
    (tSeq (tIfS ((tOr (tNot (tB (tCB (rIsi K) (tCons (tVar 7) (tCons (tC (.ty "bool")) tNil))))) (tTest (tOp (rNeA K) (tVar 7) (tVar 6))))) (tRet (tC (.bl false))) tNext)
    (tSeq (tAsg (tCall (sp_law_told K) [] E0 (tCons (tVar 5) tNil)) (gName 8))
    (tSeq (tIfS (tTest (tOp (rNeA K) (tVar 8) (tIf (tB (tVar 6)) (tLst (tCons (tC (.str "told")) (tCons (tCall (sp_law_roles K) [] E0 (tCons (tVar 5) tNil)) tNil))) (tLst (tCons (tC (.str "change")) (tCons (tVar 5) tNil)))))) (tRet (tC (.bl false))) tNext)
    (tIfS (tB (tVar 6)) (tSeq (tDrop (tBM K "list" rAppend (tOp (rIxB K) (tOp (rIxB K) (tVar 8) (tC (.int 1))) (tC (.int 0))) (tCons (tC (.str "late")) tNil)))
    (tIfS (tTest (tOp (rNeA K) (tCall (sp_roles K) [] E0 (tCons (tVar 5) tNil)) (tCall (sp_law_roles K) [] E0 (tCons (tVar 5) tNil)))) (tRet (tC (.bl false))) tNext)) tNext))))))))))))
    (tRet (tC (.bl true))))

end Z

namespace Z
open PySem PySem.Spec PyProof.Rows L2 Evl
section
variable (K : PySem.W.Frag) (vs : List V) (H : Hp) (Q : VK) (E : XK)
theorem len_is_integer : ∀ vs H Q E, sp_is_integer K vs H Q E → vs.length = (["value"] : List Str).length := fun _ _ _ _ ⟨_, _, h, _⟩ => by rw [h]; rfl
theorem pure_is_integer (h : sp_is_integer K vs H Q E) : t_is_integer K { nx := fun _ H' => Q .non H', rt := Q } (start ["value"] vs) H := by
  obtain ⟨v, d, rfl, hi, k⟩ := h
  show t_is_integer K _ [some v] H
  unfold t_is_integer
  have e := isIV_of hi
  walk_at "go"
  refine s_isiT kit_int hi ?_
  walk_at "go"
  refine ite2 (fun c => ?_) (fun c => ?_)
  · walk_at "go"
    refine s_isiT kit_bool hi ?_
    walk_at "go"
    exact q_bl k (by rw [e, c]; rfl)
  · exact q_bl k (by rw [e, Bool.eq_false_iff.mpr c]; rfl)
end
end Z

namespace Z
open PySem PySem.Spec PyProof.Rows L2 Evl
section
variable (K : PySem.W.Frag) (vs : List V) (H : Hp) (Q : VK) (E : XK)
theorem len_is_limit : ∀ vs H Q E, sp_is_limit K vs H Q E → vs.length = (["value"] : List Str).length := fun _ _ _ _ ⟨_, _, h, _⟩ => by rw [h]; rfl
theorem pure_is_limit (h : sp_is_limit K vs H Q E) : t_is_limit K { nx := fun _ H' => Q .non H', rt := Q } (start ["value"] vs) H := by
  obtain ⟨v, d, rfl, hi, k⟩ := h
  show t_is_limit K _ [some v] H
  unfold t_is_limit
  have e := limV_of v
  walk_at "go"
  refine ite2 (fun c => ?_) (fun c => ?_)
  · exact q_bl k (by rw [e, c]; rfl)
  · walk_at "go"
    exact ⟨v, d, rfl, hi, q_bl k (by rw [e, Bool.eq_false_iff.mpr c]; rfl)⟩
end
end Z

namespace Z
open PySem PySem.Spec PyProof.Rows L2 Evl
section
variable (K : PySem.W.Frag) (vs : List V) (H : Hp) (Q : VK) (E : XK)
theorem len_is_span : ∀ vs H Q E, sp_is_span K vs H Q E → vs.length = (["value"] : List Str).length := fun _ _ _ _ ⟨_, _, h, _⟩ => by rw [h]; rfl
theorem pure_is_span (h : sp_is_span K vs H Q E) : t_is_span K { nx := fun _ H' => Q .non H', rt := Q } (start ["value", "low", "high"] vs) H := by
  obtain ⟨v, d, rfl, hi, hd, k⟩ := h
  show t_is_span K _ [some v, none, none] H
  unfold t_is_span
  walk_at "go"
  refine s_isiT kit_tuple hi ?_
  walk_at "go"
  cases c : tyB "tuple" (tyN d) with
  | false =>
    walk_at "go"
    exact q_bl k (notTup hi c).symm
  | true =>
    obtain ⟨a, xs, rfl, rfl, ha⟩ := isTup hi c
    walk_at "go"
    refine s_lenT ha ?_
    walk_at "go"
    refine ite2 (fun c2 => ?_) (fun c2 => ?_)
    · walk_at "go"
      refine q_bl k (spL_ne ?_).symm
      intro e
      rw [e] at c2
      simp at c2
    · obtain ⟨l, h, rfl⟩ : ∃ l h, xs = [l, h] := by
        have e2 : xs.length = 2 := by
          simp at c2
          omega
        match xs, e2 with
        | [l, h], _ => exact ⟨l, h, rfl⟩
      obtain ⟨dl, hl⟩ := hd l (by simp)
      obtain ⟨dh, hh⟩ := hd h (by simp)
      walk_at "go"
      refine ⟨l, dl, rfl, hl, ?_⟩
      walk_at "go"
      cases cl : limV l with
      | false =>
        walk_at "go"
        exact q_bl k (by simp [spD, spL, cl])
      | true =>
        walk_at "go"
        refine ⟨h, dh, rfl, hh, ?_⟩
        walk_at "go"
        cases ch : limV h with
        | false =>
          walk_at "go"
          exact q_bl k (by simp [spD, spL, cl, ch])
        | true =>
          walk_at "go"
          cases l with
          | non =>
            walk_at "go"
            exact q_bl k (by simp [spD, spL, cl, ch])
          | int i =>
            walk_at "go"
            cases h with
            | non =>
              walk_at "go"
              exact q_bl k (by simp [spD, spL, cl, ch])
            | int j =>
              walk_at "go"
              exact q_bl k (by simp [spD, spL, cl, ch])
            | _ => cases ch
          | _ => cases cl
end
end Z

namespace Z
open PySem PySem.Spec PyProof.Rows L2 Evl
section
variable (K : PySem.W.Frag) (vs : List V) (H : Hp) (Q : VK) (E : XK)
theorem len_is_name : ∀ vs H Q E, sp_is_name K vs H Q E → vs.length = (["value"] : List Str).length := fun _ _ _ _ ⟨_, _, h, _⟩ => by rw [h]; rfl
theorem pure_is_name (h : sp_is_name K vs H Q E) : t_is_name K { nx := fun _ H' => Q .non H', rt := Q } (start ["value", "sign"] vs) H := by
  obtain ⟨v, d, rfl, hi, hz, k⟩ := h
  show t_is_name K _ [some v, none] H
  unfold t_is_name
  walk_at "go"
  refine s_isiT kit_str hi ?_
  walk_at "go"
  cases c : tyB "str" (tyN d) with
  | false =>
    walk_at "go"
    exact q_bl (k H (Ex.refl H)) (notStr hi c).symm
  | true =>
    obtain ⟨z, rfl⟩ := isStr hi c
    have hz : z.length ≤ 1000 := hz
    have hzl : z.length ≤ sizeLine := Nat.le_trans hz (by decide)
    walk_at "go"
    refine ite2 (fun c1 => ?_) (fun c1 => ?_)
    · walk_at "go"
      refine q_bl (k H (Ex.refl H)) ?_
      have e : z = ("table" : Str) := by simpa using c1
      simp [nmV, nmS, e]
    · have e1 : ¬ z = ("table" : Str) := by simpa using c1
      walk_at "go"
      refine s_lenS hzl ?_
      walk_at "go"
      refine ite2 (fun c2 => ?_) (fun c2 => ?_)
      · have e2 : 1 ≤ z.length := by simp at c2; omega
        walk_at "go"
        refine ite2 (fun c3 => ?_) (fun c3 => ?_)
        · walk_at "go"
          refine q_bl (k H (Ex.refl H)) ?_
          have e3 : ¬ z.length ≤ 8 := by simp at c3; omega
          simp [nmV, nmS, e3]
        · have e3 : z.length ≤ 8 := by simp at c3; omega
          walk_at "go"
          refine lc_pure (walk_signs (z := z)) (fun _ => true) (fun x => .bl (inL x)) (fun R r => iAny_str ?_) (fun _ _ => trivial) ?_ (fun x hx => ?_) (fun x hx _ => ?_) fun D H2 hD e hl => ?_
          · walk_at "go"
            exact ⟨z, rfl, r⟩
          · rw [signs_len]
            have : z.cps.size = z.length := rfl
            rw [sizeLine_eq]
            omega
          · intro H1 e1 R r
            walk_at "go"
            exact r _ (Ex.refl _)
          · intro H1 e1 R r
            obtain ⟨c, hc, rfl⟩ : ∃ c, c ∈ z.cps.toList ∧ V.str ⟨#[c]⟩ = x := by simpa [signs] using hx
            walk_at "go"
            refine s_in1B ?_
            exact r _ (Ex.refl _)
          · walk_at "go"
            rw [filter_true, all_signs] at hl
            refine ⟨D, _, rfl, SqL.of hl, ?_⟩
            refine q_bl (k H2 e) ?_
            have e4 : ((signs z).map inL).all id = (signs z).all inL := by simp [List.all_map]
            rw [e4, signs_all]
            simp [nmV, nmS, e1, e2, e3, inL_sign]
      · have e2 : ¬ 1 ≤ z.length := by simp at c2; omega
        walk_at "go"
        refine q_bl (k H (Ex.refl H)) ?_
        simp [nmV, nmS, e2]
end
end Z

namespace Z
open PySem PySem.Spec PyProof.Rows L2 Evl
section
variable (K : PySem.W.Frag) (vs : List V) (H : Hp) (Q : VK) (E : XK)
theorem len_law_cell : ∀ vs H Q E, sp_law_cell K vs H Q E → vs.length = (["script", "k"] : List Str).length := fun _ _ _ _ ⟨_, _, _, h, _⟩ => by rw [h]; rfl
theorem pure_law_cell (h : sp_law_cell K vs H Q E) : t_law_cell K { nx := fun _ H' => Q .non H', rt := Q } (start ["script", "k"] vs) H := by
  obtain ⟨a, ns, j, rfl, hs, h0, h1, k⟩ := h
  show t_law_cell K _ [some (.ref a), some (.int j)] H
  unfold t_law_cell
  walk_at "go"
  refine s_lenLK hs ?_
  walk_at "go"
  refine ite2 (fun c => ?_) (fun c => ?_)
  · walk_at "go"
    have hj : j.toNat < ns.length := by simp at c; omega
    exact s_ixB (s_ixLK (v := .int (ns[j.toNat])) hs (at_of (j := j.toNat) (by omega) (by simp [hj])) (k _))
  · walk_at "go"
    refine s_mulI (wide_mul (a := 13) (b := 10) (by decide) (by omega) (by decide) (by decide) (by decide)) ?_
    walk_at "go"
    exact k _
theorem len_law_box : ∀ vs H Q E, sp_law_box K vs H Q E → vs.length = (["cell"] : List Str).length := fun _ _ _ _ ⟨_, h, _⟩ => by rw [h]; rfl
theorem pure_law_box (h : sp_law_box K vs H Q E) : t_law_box K { nx := fun _ H' => Q .non H', rt := Q } (start ["cell"] vs) H := by
  obtain ⟨n, rfl, k⟩ := h
  show t_law_box K _ [some (.int n)] H
  unfold t_law_box
  walk_at "go"
  refine s_modI (by decide) ?_
  walk_at "go"
  refine ⟨by show 3 ≤ sizeLine; decide, fun p hp => ?_⟩
  refine k p _ hp (Ex.new hp) ⟨_, _, _, upd_same, ?_, ?_, Int.le_refl _, Int.le_refl _⟩
  · exact Int.emod_nonneg _ (by decide)
  · exact Int.lt_trans (Int.emod_lt_of_pos _ (by decide)) (by decide)
theorem len_law_take : ∀ vs H Q E, sp_law_take K vs H Q E → vs.length = (["box", "many"] : List Str).length := fun _ _ _ _ ⟨_, _, _, h, _⟩ => by rw [h]; rfl
theorem pure_law_take (h : sp_law_take K vs H Q E) : t_law_take K { nx := fun _ H' => Q .non H', rt := Q } (start ["box", "many", "digit", "number"] vs) H := by
  obtain ⟨p, m, n, rfl, ⟨a, b, c, hp, hb0, hb1, hc0, hc1⟩, hn, hm, hml, k⟩ := h
  show t_law_take K _ [some (.ref p), some (.int m), none, none] H
  unfold t_law_take
  walk_at "go"
  refine ite2 (fun ca => ?_) (fun ca => ?_)
  · walk_at "go"
    refine s_modI hm ?_
    walk_at "go"
    refine s_divI ⟨hm, hml⟩ ?_
    walk_at "go"
    refine k _ _ but_upd ⟨_, _, _, upd_same, hb0, hb1, hc0, ?_⟩ (Int.emod_nonneg _ (by omega)) (Int.emod_lt_of_pos _ hm)
    omega
  · walk_at "go"
    refine s_mulI (wide_mul (a := 13) (b := 34) (by decide) (by omega) (by decide) (by decide) (by decide)) ?_
    walk_at "go"
    refine s_powI ⟨by decide, by decide, by omega⟩ ?_
    walk_at "go"
    refine s_modI (by decide) ?_
    walk_at "go"
    refine s_mulI (wide_mul (a := 17) (b := 34) (by decide) (by omega) (by decide) (by decide) (by decide)) ?_
    walk_at "go"
    have q0 : 0 ≤ (b + 7919 * (c + 1) + 43) ^ (5 : Int).toNat % 2147483647 := Int.emod_nonneg _ (by decide)
    have q1 : (b + 7919 * (c + 1) + 43) ^ (5 : Int).toNat % 2147483647 < 2147483647 := Int.emod_lt_of_pos _ (by decide)
    generalize (b + 7919 * (c + 1) + 43) ^ (5 : Int).toNat % 2147483647 = u at q0 q1 ⊢
    refine s_powI ⟨by decide, by decide, by omega⟩ ?_
    walk_at "go"
    refine s_modI (by decide) ?_
    walk_at "go"
    refine s_divI ⟨by decide, by decide⟩ ?_
    walk_at "go"
    refine s_modI hm ?_
    refine k _ _ but_upd ⟨_, _, _, upd_same, hb0, hb1, by omega, by omega⟩ (Int.emod_nonneg _ (by omega)) (Int.emod_lt_of_pos _ hm)
end
end Z

namespace Z
open PySem PySem.Spec PyProof.Rows L2 Evl
section
variable (K : PySem.W.Frag) (vs : List V) (H : Hp) (Q : VK) (E : XK)
theorem len_law_mixed : ∀ vs H Q E, sp_law_mixed K vs H Q E → vs.length = (["box", "some"] : List Str).length := fun _ _ _ _ ⟨_, _, _, _, h, _⟩ => by rw [h]; rfl
theorem pure_law_mixed (h : sp_law_mixed K vs H Q E) : t_law_mixed K { nx := fun _ H' => Q .non H', rt := Q } (start ["box", "some", "left", "k"] vs) H := by
  obtain ⟨p, n, a, xs, rfl, B, hn, ha, hx, k⟩ := h
  show t_law_mixed K _ [some (.ref p), some (.ref a), none, none] H
  unfold t_law_mixed
  walk_at "go"
  refine s_listA (.inl ha) fun l hl => ?_
  walk_at "go"
  have nl : l ≠ p := B.ne hl
  have ha1 := Ex.new (o := HO.lst xs) hl _ _ ha
  have B1 := B.ex (Ex.new (o := HO.lst xs) hl)
  refine lc_inv xs.length (by rw [sizeLine_eq]; omega) (fun R r => iRng1_of ?_) (fun D j ys H1 => But p H H1 ∧ Bx H1 p (n + j) ∧ l ≠ D ∧ D ≠ p ∧ ∃ rest, H1 l = some (.lst rest) ∧ (ys ++ rest).Perm xs) (fun D hD => ?_) (fun D j ys H1 hD hj hy hyD iv R r => ?_) fun D H2 ys hD hy hyD iv => ?_
  · walk_at "go"
    refine s_lenL ha1 ?_
    walk_at "go"
    exact ⟨_, rfl, by omega, by omega, r⟩
  · have nD : l ≠ D := ne_of_none upd_same hD
    exact ⟨(But.refl.new hl).new hD, by simpa using B1.ex (Ex.new hD), nD, B1.ne hD, xs, Ex.new hD _ _ upd_same, by simp⟩
  · obtain ⟨b1, B2, nD, nDp, rest, hr, pm⟩ := iv
    have hD0 : H D = none := fresh_back (Ex.new hl) hD
    have hlr : j + rest.length = xs.length := by
      have := pm.length_eq
      rw [List.length_append, hy] at this
      omega
    walk_at "go"
    refine s_lenL hr ?_
    walk_at "go"
    refine u_take B2 (by omega) (by omega) (by
      have h1 : ((rest.length : Int)).natAbs = rest.length := by omega
      rw [h1]
      have h2 := Nat.log2_le_self rest.length
      omega) fun d H3 b3 B3 d0 d1 => ?_
    walk_at "go"
    have hr3 := b3 _ _ hr nl
    refine s_popAt hr3 d0 d1 (by omega) fun y hy2 hyat => ?_
    have hd : d.toNat < rest.length := by omega
    refine r y _ ?_ ⟨?_, ?_, nD, nDp, rest.eraseIdx d.toNat, ?_, ?_⟩
    · rw [upd_ne nD.symm]
      exact b3 _ _ hyD nDp
    · exact ((b1.trans b3).newD hl).newD hD0
    · exact ((B3.upd nl).upd nDp).mono (by omega)
    · rw [upd_ne nD, upd_same]
    · have e1 : y = rest[d.toNat] := by
        rw [List.getElem?_eq_getElem hd] at hyat
        exact (Option.some.inj hyat).symm
      have e2 : (rest[d.toNat] :: rest.eraseIdx d.toNat).Perm rest := perm_erase hd
      rw [e1]
      refine List.Perm.trans ?_ pm
      rw [List.append_assoc]
      exact List.Perm.append_left ys e2
  · obtain ⟨b1, B2, nD, nDp, rest, hr, pm⟩ := iv
    have hD0 : H D = none := fresh_back (Ex.new hl) hD
    have hr0 : rest = [] := by
      have := pm.length_eq
      rw [List.length_append, hy] at this
      exact List.length_eq_zero_iff.mp (by omega)
    rw [hr0, List.append_nil] at pm
    exact k D H2 ys hD0 b1 B2 nDp hyD pm
theorem len_law_names : ∀ vs H Q E, sp_law_names K vs H Q E → vs.length = (["box", "many"] : List Str).length := fun _ _ _ _ ⟨_, _, _, h, _⟩ => by rw [h]; rfl
theorem pure_law_names (h : sp_law_names K vs H Q E) : t_law_names K { nx := fun _ H' => Q .non H', rt := Q } (start ["box", "many", "letters", "words", "stem", "first", "step", "way", "found", "k", "sign", "name"] vs) H := by
  obtain ⟨p, n, m, rfl, B, hn, hm0, hm1, k⟩ := h
  show t_law_names K _ [some (.ref p), some (.int m), none, none, none, none, none, none, none, none, none, none] H
  unfold t_law_names
  walk_at "go"
  refine u_take B (by omega) (by decide) (by decide +kernel) fun d0 H1 b1 B1 e0 e1 => ?_
  walk_at "go"
  refine ite2 (fun c => ?_) (fun c => ?_)
  · walk_at "go"
    walk_at "al"
    intro w hw
    have hw0 : H w = none := b1.back B1 hw
    walk_at "go"
    refine ⟨p, n + 1, w, _, rfl, B1.ex (Ex.new hw), by omega, upd_same, by show 13 ≤ 100; decide, fun D H2 ys hD b2 B2 nD hy pm => ?_⟩
    walk_at "go"
    have hl : ys.length = 13 := pm.length_eq
    refine s_slL hy fun q hq => ?_
    rw [cutV_take _ hm0]
    have bH : But p H H2 := (b1.newD hw0).trans b2
    have hys : ∀ v ∈ ys, nmV v = true := fun v hv => by
      have hv2 := pm.mem_iff.mp hv
      have all : (([V.str "begin", V.str "empty", V.str "rest", V.str "step", V.str "end", V.str "look", V.str "old", V.str "new", V.str "put", V.str "part", V.str "move", V.str "split", V.str "lock"] : List V).all nmV) = true := by decide +kernel
      exact List.all_eq_true.mp all v hv2
    have hnd : ys.Nodup := pm.symm.nodup (by decide +kernel)
    refine k q _ _ (bH.back B2 hq) (bH.new hq) ((B2.ex (Ex.new hq)).mono (by show n + 1 + 13 ≤ n + 20; omega)) (B2.ne hq) upd_same ?_ ?_ ?_
    · rw [List.length_take, hl]
      omega
    · exact fun v hv => hys v (List.mem_of_mem_take hv)
    · exact hnd.sublist (List.take_sublist _ _)
  · walk_at "go"
    walk_at "al"
    intro m1 f1
    walk_at "go"
    refine menu_of (m := 6) b1 B1 (by omega) rfl (by decide) (by decide +kernel) (fun st H2 hst b2 _ B2 => ?_) m1 f1
    obtain ⟨stem, rfl, hstem⟩ : ∃ z, st = .str z ∧ z ∈ stems := by
      simp only [List.mem_cons, List.mem_nil_iff, or_false] at hst
      rcases hst with rfl | rfl | rfl | rfl | rfl | rfl
      all_goals exact ⟨_, rfl, by decide +kernel⟩
    walk_at "go"
    refine u_take B2 (by omega) (by decide) (by decide +kernel) fun first H3 b3 B3 f0 f1 => ?_
    have b13 := b2.trans b3
    walk_at "go"
    walk_at "al"
    intro m2 f2
    walk_at "go"
    refine menu_of (m := 6) b13 B3 (by omega) rfl (by decide) (by decide +kernel) (fun sv H4 hsv b4 _ B4 => ?_) m2 f2
    obtain ⟨s, rfl, hs⟩ : ∃ s : Nat, sv = .int (s : Int) ∧ s ∈ [1, 3, 5, 7, 9, 11] := by
      simp only [List.mem_cons, List.mem_nil_iff, or_false] at hsv
      rcases hsv with rfl | rfl | rfl | rfl | rfl | rfl
      · exact ⟨1, rfl, by decide⟩
      · exact ⟨3, rfl, by decide⟩
      · exact ⟨5, rfl, by decide⟩
      · exact ⟨7, rfl, by decide⟩
      · exact ⟨9, rfl, by decide⟩
      · exact ⟨11, rfl, by decide⟩
    walk_at "go"
    refine u_take B4 (by omega) (by decide) (by decide +kernel) fun way H5 b5 B5 w0 w1 => ?_
    have b05 := b4.trans b5
    obtain ⟨wy, rfl⟩ : ∃ wy : Nat, way = (wy : Int) := ⟨way.toNat, by omega⟩
    obtain ⟨fs, rfl⟩ : ∃ fs : Nat, first = (fs : Int) := ⟨first.toNat, by omega⟩
    walk_at "go"
    refine ⟨_, _, _, rfl, ?_⟩
    walk_at "go"
    walk_at "al"
    intro fd hfd
    have hfd0 : H fd = none := b05.back B5 hfd
    have nfd := B5.ne hfd
    have b06 : But p H (upd H5 fd (.lst [])) := b05.new hfd
    have B6 := B5.ex (Ex.new (o := HO.lst []) hfd)
    walk_at "go"
    refine iRng1_of ?_
    walk_at "go"
    refine ⟨m, rfl, by omega, by omega, ?_⟩
    have hsb : s ≤ 11 := by
      simp only [List.mem_cons, List.mem_nil_iff, or_false] at hs
      omega
    refine for_range (lo := 0) (n := m.toNat) (fun i σ H7 => But p H H7 ∧ Bx H7 p (n + 5) ∧ H7 fd = some (.lst ((List.range i).map fun k => V.str (nameK stem fs s wy k))) ∧
      ∃ v9 v10 v11, σ = [some (.ref p), some (.int m), some (.str "abcdefghijklmnopqrstuvwxyz"), none, some (.str stem), some (.int fs), some (.int s), some (.int wy), some (.ref fd), v9, v10, v11])
      ⟨b06, B6.mono (by omega), upd_same, _, _, _, rfl⟩ ?_ ?_
    · rintro i σ H7 hi ⟨b7, B7, h7, v9, v10, v11, rfl⟩
      have hi13 : i < 13 := by omega
      walk_at "go"
      refine s_mulI (wide_mul (a := 5) (b := 5) (by omega) (by omega) (by decide) (by decide) (by decide)) ?_
      walk_at "go"
      refine s_modI (by decide) ?_
      walk_at "go"
      have hidx : ((fs : Int) + (s : Int) * (0 + (i : Int))) % 26 = (((fs + s * i) % 26 : Nat) : Int) := by
        push_cast
        simp
      rw [hidx]
      have hlt : (fs + s * i) % 26 < 26 := Nat.mod_lt _ (by decide)
      have hat : ∀ j : Nat, j < 26 → atI (("abcdefghijklmnopqrstuvwxyz" : Str).cps.toList) (j : Int) = some (lett j) := by
        intro j hj
        have e : ∀ j ∈ List.range 26, atI (("abcdefghijklmnopqrstuvwxyz" : Str).cps.toList) (j : Int) = some (lett j) := by decide +kernel
        exact e j (List.mem_range.mpr hj)
      refine s_ixB (s_ixS (by decide) (hat _ hlt) ?_)
      generalize hc : lett ((fs + s * i) % 26) = c
      walk_at "go"
      have lstem : stem.length ≤ 7 := by
        have e : ∀ z ∈ stems, z.length ≤ 7 := by decide +kernel
        exact e _ hstem
      refine s_addS (by rw [sizeLine_eq]; show stem.length + 1 ≤ _; omega) ?_
      walk_at "go"
      refine s_addS (by rw [sizeLine_eq]; show 1 + stem.length ≤ _; omega) ?_
      walk_at "go"
      walk_at "al"
      intro q hq
      walk_at "go"
      have hix : ∀ (w : Nat), w < 3 → ∀ R : VK, R (.str (match w with | 0 => stem ++ one c | 1 => one c ++ stem | _ => one c)) (upd H7 q (.lst [.str (stem ++ ⟨#[c]⟩), .str (⟨#[c]⟩ ++ stem), .str ⟨#[c]⟩])) →
          rIxB K (.ref q) (.int (w : Int)) (upd H7 q (.lst [.str (stem ++ ⟨#[c]⟩), .str (⟨#[c]⟩ ++ stem), .str ⟨#[c]⟩])) R := fun w hw R r => by
        match w, hw with
        | 0, _ => exact s_ixB (s_ixL upd_same rfl r)
        | 1, _ => exact s_ixB (s_ixL upd_same rfl r)
        | 2, _ => exact s_ixB (s_ixL upd_same rfl r)
      have hH7 : upd H7 q (.lst [.str (stem ++ ⟨#[c]⟩), .str (⟨#[c]⟩ ++ stem), .str ⟨#[c]⟩]) fd = some (.lst ((List.range i).map fun k => V.str (nameK stem fs s wy k))) := Ex.new hq _ _ h7
      have hq0 : H q = none := b7.back B7 hq
      have hlen : ((List.range i).map fun k => V.str (nameK stem fs s wy k)).length < sizeLine := by rw [sizeLine_eq, List.length_map, List.length_range]; omega
      have fin : ∀ u : Str, u = nameK stem fs s wy i → But p H (upd (upd H7 q (.lst [.str (stem ++ ⟨#[c]⟩), .str (⟨#[c]⟩ ++ stem), .str ⟨#[c]⟩])) fd (.lst (((List.range i).map fun k => V.str (nameK stem fs s wy k)) ++ [.str u]))) ∧
          Bx (upd (upd H7 q (.lst [.str (stem ++ ⟨#[c]⟩), .str (⟨#[c]⟩ ++ stem), .str ⟨#[c]⟩])) fd (.lst (((List.range i).map fun k => V.str (nameK stem fs s wy k)) ++ [.str u]))) p (n + 5) ∧
          upd (upd H7 q (.lst [.str (stem ++ ⟨#[c]⟩), .str (⟨#[c]⟩ ++ stem), .str ⟨#[c]⟩])) fd (.lst (((List.range i).map fun k => V.str (nameK stem fs s wy k)) ++ [.str u])) fd = some (.lst ((List.range (i + 1)).map fun k => V.str (nameK stem fs s wy k))) := fun u hu => by
        refine ⟨(b7.new hq).newD hfd0, (B7.ex (Ex.new hq)).upd nfd, ?_⟩
        rw [upd_same, hu, List.range_succ, List.map_append]
        rfl
      have hk : nameK stem fs s wy i = formS stem c (if i = 0 then 0 else wy) := by
        unfold nameK
        rw [hc]
      have tail : ∀ z : Str, fixS z = nameK stem fs s wy i → ∀ u : Str, (z = ("table" : Str) ∧ u = "tables") ∨ (z ≠ ("table" : Str) ∧ u = z) → u = nameK stem fs s wy i := fun z hz u hu => by
        rw [← hz]
        unfold fixS
        rcases hu with ⟨e1, e2⟩ | ⟨e1, e2⟩
        · rw [if_pos e1, e2]
        · rw [if_neg e1, e2]
      refine ite2 (fun c1 => ?_) (fun c1 => ?_)
      · have hi0 : ¬ i = 0 := by simp at c1; omega
        walk_at "go"
        refine hix wy (by omega) _ ?_
        have hz : fixS (match wy with | 0 => stem ++ one c | 1 => one c ++ stem | _ => one c) = nameK stem fs s wy i := by
          rw [hk, if_neg hi0]
          rfl
        generalize (match wy with | 0 => stem ++ one c | 1 => one c ++ stem | _ => one c) = z at hz ⊢
        walk_at "go"
        refine ite2 (fun c2 => ?_) (fun c2 => ?_)
        · walk_at "go"
          obtain ⟨x1, x2, x3⟩ := fin _ (tail z hz _ (.inl ⟨by simpa using c2, rfl⟩))
          exact s_append hH7 hlen ⟨x1, x2, x3, _, _, _, rfl⟩
        · walk_at "go"
          obtain ⟨x1, x2, x3⟩ := fin _ (tail z hz _ (.inr ⟨by simpa using c2, rfl⟩))
          exact s_append hH7 hlen ⟨x1, x2, x3, _, _, _, rfl⟩
      · have hi0 : i = 0 := by simp at c1; omega
        walk_at "go"
        have hz : fixS (stem ++ one c) = nameK stem fs s wy i := by
          rw [hk, if_pos hi0]
          rfl
        refine ite2 (fun c2 => ?_) (fun c2 => ?_)
        · walk_at "go"
          obtain ⟨x1, x2, x3⟩ := fin _ (tail _ hz _ (.inl ⟨(of_decide_eq_true c2 |> V.str.inj), rfl⟩))
          exact s_append hH7 hlen ⟨x1, x2, x3, _, _, _, rfl⟩
        · walk_at "go"
          obtain ⟨x1, x2, x3⟩ := fin _ (tail _ hz _ (.inr ⟨(fun e => c2 (decide_eq_true (congrArg V.str e))), rfl⟩))
          exact s_append hH7 hlen ⟨x1, x2, x3, _, _, _, rfl⟩
    · rintro σ H7 ⟨b7, B7, h7, v9, v10, v11, rfl⟩
      walk_at "go"
      refine k fd H7 _ hfd0 b7 (B7.mono (by omega)) nfd h7 ?_ ?_ ?_
      · rw [List.length_map, List.length_range]
        omega
      · intro v hv
        obtain ⟨j, _, rfl⟩ := List.mem_map.mp hv
        exact nameK_ok hstem (by omega) j
      · exact names_nodup hstem (by omega) hs (by omega) _ (by omega)
end
end Z

namespace Z
open PySem PySem.Spec PyProof.Rows L2 Evl
def rngV (n : Nat) : List V := (List.range n).map fun i : Nat => V.int (0 + (i : Int))
theorem rngV_len (n : Nat) : (rngV n).length = n := by simp [rngV]
theorem walk_rng {n : Nat} : Walk (Itr 0 n) (rngV n).length (fun _ => True) (YAt (rngV n)) := by
  rw [rngV_len]
  exact walk_range.mono (fun _ h => h) fun i H x H' hi _ ⟨e, hx⟩ => ⟨e, by rw [hx]; simp [rngV, hi]⟩
theorem mem_rngV {n : Nat} {x : V} (h : x ∈ rngV n) : ∃ i : Nat, i < n ∧ x = .int (0 + (i : Int)) := by
  obtain ⟨i, hi, rfl⟩ := List.mem_map.mp h
  exact ⟨i, List.mem_range.mp hi, rfl⟩
theorem names_vT {H : Hp} {p : Addr} : ∀ {us : List V} {ts : List PT}, TrL H p us ts → ts.all nameT = true → ts.map vT = us
  | _, _, .nil, _ => rfl
  | _, _, .cons h r, e => by
    rw [List.all_cons, Bool.and_eq_true] at e
    rw [List.map_cons, names_vT r e.2]
    cases h with
    | sc h z => rfl
    | _ => exact absurd e.1 (by simp [nameT])
theorem names_str {H : Hp} {p : Addr} {us : List V} {ts : List PT} (r : TrL H p us ts) (e : ts.all nameT = true) : ∀ v ∈ us, ∃ z, v = .str z := fun v hv => by
  obtain ⟨t, ht, q⟩ := r.mem v hv
  have h := List.all_eq_true.mp e t ht
  rw [← q.nm] at h
  cases v with
  | str z => exact ⟨z, rfl⟩
  | _ => cases h
theorem all_nm {H : Hp} {p : Addr} : ∀ {us : List V} {ts : List PT}, TrL H p us ts → us.all nmV = ts.all nameT
  | _, _, .nil => rfl
  | _, _, .cons h r => by rw [List.all_cons, List.all_cons, all_nm r, h.nm]
theorem flat_strs {us : List V} (h : ∀ v ∈ us, ∃ z, v = .str z) : us.all flatV = true := by
  rw [List.all_eq_true]
  intro v hv
  obtain ⟨z, rfl⟩ := h v hv
  rfl
/-- is the item at i among those ahead of it? -/
def dupAt (us : List V) : V → Bool
  | .int k => inV (us.getD k.toNat .non) (us.take k.toNat)
  | _ => false
theorem dup_rng (us : List V) : ((rngV us.length).map fun x => !dupAt us x).all id = dupV us := by
  have e : ∀ i : Nat, dupAt us (.int (0 + (i : Int))) = inV (us.getD i .non) (us.take i) := fun i => by
    show inV (us.getD (0 + (i : Int)).toNat .non) (us.take (0 + (i : Int)).toNat) = _
    have : (0 + (i : Int)).toNat = i := by omega
    rw [this]
  simp only [rngV, List.map_map, dupV, List.all_map]
  congr 1
  funext i
  simp only [Function.comp_def, id]
  rw [e]
section
variable (K : PySem.W.Frag) (vs : List V) (H : Hp) (Q : VK) (E : XK)
theorem len_are_names : ∀ vs H Q E, sp_are_names K vs H Q E → vs.length = (["names"] : List Str).length := fun _ _ _ _ ⟨_, _, _, _, h, _⟩ => by rw [h]; rfl
theorem pure_are_names (h : sp_are_names K vs H Q E) : t_are_names K { nx := fun _ H' => Q .non H', rt := Q } (start ["names", "name", "at"] vs) H := by
  obtain ⟨p, a, us, ts, rfl, ha, tr, hl, k⟩ := h
  show t_are_names K _ [some (.ref a), none, none] H
  unfold t_are_names
  walk_at "go"
  refine lc_pure (walk_list (K := K) (a := a) (xs := us)) (fun _ => true) (fun v => .bl (nmV v)) (fun R r => iAny_lst ⟨_, rfl, a, rfl, ⟨_, SqL.of ha⟩, r⟩) (fun H' e => SqL.of (e _ _ ha)) (by rw [sizeLine_eq]; omega) (fun x hx => ?_) (fun x hx _ => ?_) fun D H2 hD e2 hy => ?_
  · intro H1 e1 R r
    walk_at "go"
    exact r _ (Ex.refl _)
  · intro H1 e1 R r
    obtain ⟨t, ht, q⟩ := tr.mem x hx
    walk_at "go"
    refine t_isname (q.ex e1) fun H3 e3 => ?_
    rw [← q.nm]
    exact r _ e3
  · rw [filter_true] at hy
    walk_at "go"
    refine ⟨D, us.map nmV, rfl, SqL.of (by rw [hy]; simp), ?_⟩
    have e4 : (us.map nmV).all id = ts.all nameT := by
      rw [List.all_map, ← all_nm tr]
      rfl
    rw [e4]
    walk_at "go"
    cases c : ts.all nameT with
    | false =>
      walk_at "go"
      refine q_bl (k H2 e2) ?_
      unfold namesT
      rw [c]
      rfl
    | true =>
      have hs := names_str tr c
      have ha2 := e2 _ _ ha
      walk_at "go"
      refine lc_pure (walk_rng (n := us.length)) (fun _ => true) (fun v => .bl (!dupAt us v)) (fun R r => iRng1_of ?_) (fun _ _ => trivial) (by rw [rngV_len, sizeLine_eq]; omega) (fun x hx => ?_) (fun x hx _ => ?_) fun D2 H3 hD2 e3 hy2 => ?_
      · walk_at "go"
        refine s_lenL ha2 ?_
        walk_at "go"
        exact ⟨_, rfl, by omega, by omega, r⟩
      · intro H1 e1 R r
        walk_at "go"
        exact r _ (Ex.refl _)
      · intro H1 e1 R r
        obtain ⟨i, hi, rfl⟩ := mem_rngV hx
        have ha1 := e1 _ _ ha2
        walk_at "go"
        refine s_ixB (s_ixL ha1 (at_of (j := i) (v := us[i]) (by omega) (by simp [hi])) ?_)
        walk_at "go"
        refine s_slL ha1 fun q hq => ?_
        rw [cutV_take _ (by omega)]
        obtain ⟨z, hz⟩ := hs us[i] (List.getElem_mem hi)
        refine s_ninF (.inl upd_same) (by rw [hz]; rfl) (flat_strs fun v hv => hs v (List.mem_of_mem_take hv)) ?_
        have e : dupAt us (.int (0 + (i : Int))) = inV us[i] (us.take (0 + (i : Int)).toNat) := by
          show inV (us.getD (0 + (i : Int)).toNat .non) _ = _
          have e0 : (0 + (i : Int)).toNat = i := by omega
          rw [e0]
          simp [hi]
        rw [← e]
        exact r _ (Ex.new hq)
      · rw [filter_true] at hy2
        walk_at "go"
        refine ⟨D2, (rngV us.length).map fun x => !dupAt us x, rfl, SqL.of (by rw [hy2]; simp), ?_⟩
        rw [dup_rng]
        refine q_bl (k H3 (e2.trans e3)) ?_
        unfold namesT
        rw [c, names_vT tr c]
        rfl
end
end Z

namespace Z
open PySem PySem.Spec PyProof.Rows L2 Evl
section
variable {H : Hp} {p : Addr} {vs : List V} {ts : List PT}
theorem TrL.one (r : TrL H p vs ts) (h : vs.length = 1) : ∃ a s, vs = [a] ∧ ts = [s] ∧ Tr H p a s := by
  match vs, ts, r, h with
  | [_], _, .cons h1 .nil, _ => exact ⟨_, _, rfl, rfl, h1⟩
theorem TrL.two (r : TrL H p vs ts) (h : vs.length = 2) : ∃ a b s t, vs = [a, b] ∧ ts = [s, t] ∧ Tr H p a s ∧ Tr H p b t := by
  match vs, ts, r, h with
  | [_, _], _, .cons h1 (.cons h2 .nil), _ => exact ⟨_, _, _, _, rfl, rfl, h1, h2⟩
theorem TrL.three (r : TrL H p vs ts) (h : vs.length = 3) : ∃ a b c s t u, vs = [a, b, c] ∧ ts = [s, t, u] ∧ Tr H p a s ∧ Tr H p b t ∧ Tr H p c u := by
  match vs, ts, r, h with
  | [_, _, _], _, .cons h1 (.cons h2 (.cons h3 .nil)), _ => exact ⟨_, _, _, _, _, _, rfl, rfl, h1, h2, h3⟩
theorem TrL.four (r : TrL H p vs ts) (h : vs.length = 4) : ∃ a b c d s t u w, vs = [a, b, c, d] ∧ ts = [s, t, u, w] ∧ Tr H p a s ∧ Tr H p b t ∧ Tr H p c u ∧ Tr H p d w := by
  match vs, ts, r, h with
  | [_, _, _, _], _, .cons h1 (.cons h2 (.cons h3 (.cons h4 .nil))), _ => exact ⟨_, _, _, _, _, _, _, _, rfl, rfl, h1, h2, h3, h4⟩
end
theorem ch_hang (g : List PT) (h : g.length ≠ 2) : chT (.tup (.sc (.str "hang") :: g)) = false := by
  match g with
  | [] => rfl
  | [_] => rfl
  | [_, _] => exact absurd rfl h
  | _ :: _ :: _ :: _ => rfl
theorem ch_take (g : List PT) (h : g.length ≠ 1) : chT (.tup (.sc (.str "take") :: g)) = false := by
  match g with
  | [] => rfl
  | [_] => exact absurd rfl h
  | _ :: _ :: _ => rfl
theorem ch_split (g : List PT) (h : g.length ≠ 4) : chT (.tup (.sc (.str "split") :: g)) = false := by
  match g with
  | [] => rfl
  | [_] => rfl
  | [_, _] => rfl
  | [_, _, _] => rfl
  | [_, _, _, _] => exact absurd rfl h
  | _ :: _ :: _ :: _ :: _ :: _ => rfl
theorem ch_join (g : List PT) (h : g.length ≠ 3) : chT (.tup (.sc (.str "join") :: g)) = false := by
  match g with
  | [] => rfl
  | [_] => rfl
  | [_, _] => rfl
  | [_, _, _] => exact absurd rfl h
  | _ :: _ :: _ :: _ :: _ => rfl
theorem ch_hang2 (a b : PT) : chT (.tup [.sc (.str "hang"), a, b]) = (nameT a && spT b) := rfl
theorem ch_take1 (a : PT) : chT (.tup [.sc (.str "take"), a]) = nameT a := rfl
theorem ch_split4 (a b c d : PT) : chT (.tup [.sc (.str "split"), a, b, c, d]) = (intT b && namesT [a, c, d]) := rfl
theorem ch_join3 (a b c : PT) : chT (.tup [.sc (.str "join"), a, b, c]) = namesT [a, b, c] := rfl
theorem ch_else (z : Str) (g : List PT) (h1 : z ≠ "hang") (h2 : z ≠ "take") (h3 : z ≠ "split") (h4 : z ≠ "join") : chT (.tup (.sc (.str z) :: g)) = false := by
  simp only [chT]
  rw [if_neg h1, if_neg h2, if_neg h3, if_neg h4]
theorem ch_notStr {t : PT} (g : List PT) (h : tyB "str" (tyT t) = false) : chT (.tup (t :: g)) = false := by
  cases t with
  | sc v =>
    cases v with
    | str z => cases h
    | _ => rfl
  | _ => rfl
theorem str_of {H : Hp} {p : Addr} {v : V} {t : PT} (h : Tr H p v t) (e : tyB "str" (tyT t) = true) : ∃ z, v = .str z ∧ t = .sc (.str z) := by
  cases h with
  | sc h hz =>
    cases v with
    | str z => exact ⟨z, rfl, rfl⟩
    | _ => first | (simp [tyB, tyT, Z.tyN] at e; done) | cases h
  | _ => cases e
theorem tup_of {H : Hp} {p : Addr} {v : V} {t : PT} (h : Tr H p v t) (e : tyB "tuple" (tyT t) = true) : ∃ a vs ts, v = .ref a ∧ t = .tup ts ∧ H a = some (.tup vs) ∧ a ≠ p ∧ vs.length ≤ 1000 ∧ TrL H p vs ts := by
  cases h with
  | sc h z => cases v <;> first | (simp [tyB, tyT, Z.tyN] at e; done) | (cases h; done)
  | tup h n l r => exact ⟨_, _, _, rfl, rfl, h, n, l, r⟩
  | lst h n l r => cases e
  | dct h n => cases e
theorem ch_notTup {t : PT} (e : tyB "tuple" (tyT t) = false) : chT t = false := by
  cases t with
  | tup ts => cases e
  | _ => rfl
section
variable (K : PySem.W.Frag) (vs : List V) (H : Hp) (Q : VK) (E : XK)
theorem len_is_change : ∀ vs H Q E, sp_is_change K vs H Q E → vs.length = (["value"] : List Str).length := fun _ _ _ _ ⟨_, _, _, h, _⟩ => by rw [h]; rfl
theorem pure_is_change (h : sp_is_change K vs H Q E) : t_is_change K { nx := fun _ H' => Q .non H', rt := Q } (start ["value", "kind", "given"] vs) H := by
  obtain ⟨p, v, t, rfl, tr, k⟩ := h
  show t_is_change K _ [some v, none, none] H
  unfold t_is_change
  walk_at "go"
  refine s_isiP kit_tuple tr ?_
  walk_at "go"
  cases c : tyB "tuple" (tyT t) with
  | false =>
    walk_at "go"
    exact q_bl (k H (Ex.refl _)) (ch_notTup c).symm
  | true =>
    obtain ⟨a, us, ts, rfl, rfl, ha, na, hl, r⟩ := tup_of tr c
    walk_at "go"
    refine s_lenT ha ?_
    cases r with
    | nil =>
      walk_at "go"
      exact q_bl (k H (Ex.refl _)) rfl
    | @cons v1 t1 vr tr' h1 r =>
      walk_at "go"
      refine s_ixB (s_ixT ha (at_of (j := 0) (v := v1) rfl rfl) ?_)
      walk_at "go"
      refine s_isiP kit_str h1 ?_
      walk_at "go"
      cases c1 : tyB "str" (tyT t1) with
      | false =>
        walk_at "go"
        exact q_bl (k H (Ex.refl _)) (ch_notStr _ c1).symm
      | true =>
        obtain ⟨z, rfl, rfl⟩ := str_of h1 c1
        have el := r.len
        have hl2 : vr.length ≤ 1000 := by simp at hl; omega
        walk_at "go"
        refine s_gStar (.inl ha) (by simp) (by simp; omega) fun D hD => ?_
        have e1 : List.drop ((V.str z :: vr).length + 1 - 2) (List.drop 1 (V.str z :: vr)) = [] := by simp
        have e2 : List.take ((V.str z :: vr).length + 1 - 2) (List.drop 1 (V.str z :: vr)) = vr := by simp
        rw [e1, e2]
        show gCons _ _ [V.str z, V.ref D] _ _ _
        have eD := Ex.new (o := HO.lst vr) hD
        have rD := r.ex eD
        walk_at "go"
        refine ite2 (fun c2 => ?_) (fun c2 => ?_)
        · have hz : z = "hang" := by simpa using c2
          subst hz
          walk_at "go"
          refine s_lenL upd_same ?_
          walk_at "go"
          refine ite2 (fun c3 => ?_) (fun c3 => ?_)
          · obtain ⟨x, y, s, u, rfl, rfl, hx, hy⟩ := rD.two (by simp at c3; omega)
            walk_at "go"
            refine t_isname hx fun H1 e1 => ?_
            walk_at "go"
            refine ite2 (fun c4 => ?_) (fun c4 => ?_)
            · have hD1 := e1 _ _ (upd_same (H := H) (a := D) (o := HO.lst [x, y]))
              walk_at "go"
              refine t_isspan (hy.ex e1) ?_
              refine q_bl (k _ (eD.trans e1)) ?_
              simp [ch_hang2, ch_split4, c4]
            · refine q_bl (k _ (eD.trans e1)) ?_
              simp [ch_hang2, ch_split4, c4]
          · refine q_bl (k _ eD) (ch_hang _ (fun e => c3 ?_)).symm
            rw [← el] at e
            simp [e]
        · have hz : z ≠ "hang" := by simpa using c2
          walk_at "go"
          refine ite2 (fun c2 => ?_) (fun c2 => ?_)
          · have hz : z = "take" := by simpa using c2
            subst hz
            walk_at "go"
            refine s_lenL upd_same ?_
            walk_at "go"
            refine ite2 (fun c3 => ?_) (fun c3 => ?_)
            · obtain ⟨x, s, rfl, rfl, hx⟩ := rD.one (by simp at c3; omega)
              walk_at "go"
              refine t_isname hx fun H1 e1 => ?_
              refine q_bl (k _ (eD.trans e1)) ?_
              simp [ch_take1, ch_join3]
            · refine q_bl (k _ eD) (ch_take _ (fun e => c3 ?_)).symm
              rw [← el] at e
              simp [e]
          · have hz2 : z ≠ "take" := by simpa using c2
            walk_at "go"
            refine ite2 (fun c2 => ?_) (fun c2 => ?_)
            · have hz : z = "split" := by simpa using c2
              subst hz
              walk_at "go"
              refine s_lenL upd_same ?_
              walk_at "go"
              refine ite2 (fun c3 => ?_) (fun c3 => ?_)
              · obtain ⟨w, x, y, q, s1, s2, s3, s4, rfl, rfl, h1, h2, h3, h4⟩ := rD.four (by simp at c3; omega)
                walk_at "go"
                refine t_isint h2 ?_
                walk_at "go"
                refine ite2 (fun c4 => ?_) (fun c4 => ?_)
                · walk_at "go"
                  walk_at "al"
                  intro m1 f1
                  have ef := Ex.new (o := HO.lst [w, y, q]) f1
                  refine ⟨p, m1, _, [s1, s3, s4], rfl, upd_same, .cons (h1.ex ef) (.cons (h3.ex ef) (.cons (h4.ex ef) .nil)), by show 3 ≤ 1000; decide, fun H2 e2 => ?_⟩
                  refine q_bl (k _ ((eD.trans ef).trans e2)) ?_
                  simp [ch_hang2, ch_split4, c4]
                · refine q_bl (k _ eD) ?_
                  simp [ch_hang2, ch_split4, c4]
              · refine q_bl (k _ eD) (ch_split _ (fun e => c3 ?_)).symm
                rw [← el] at e
                simp [e]
            · have hz3 : z ≠ "split" := by simpa using c2
              walk_at "go"
              refine ite2 (fun c2 => ?_) (fun c2 => ?_)
              · have hz : z = "join" := by simpa using c2
                subst hz
                walk_at "go"
                refine s_lenL upd_same ?_
                walk_at "go"
                refine ite2 (fun c3 => ?_) (fun c3 => ?_)
                · obtain ⟨w, x, y, s1, s2, s3, rfl, rfl, h1, h2, h3⟩ := rD.three (by simp at c3; omega)
                  walk_at "go"
                  refine ⟨p, D, _, [s1, s2, s3], rfl, upd_same, .cons h1 (.cons h2 (.cons h3 .nil)), by show 3 ≤ 1000; decide, fun H2 e2 => ?_⟩
                  refine q_bl (k _ (eD.trans e2)) ?_
                  simp [ch_take1, ch_join3]
                · refine q_bl (k _ eD) (ch_join _ (fun e => c3 ?_)).symm
                  rw [← el] at e
                  simp [e]
              · have hz4 : z ≠ "join" := by simpa using c2
                exact q_bl (k _ eD) (ch_else _ _ hz hz2 hz3 hz4).symm
theorem len_need_change : ∀ vs H Q E, sp_need_change K vs H Q E → vs.length = (["change"] : List Str).length := fun _ _ _ _ ⟨_, _, _, h, _⟩ => by rw [h]; rfl
theorem pure_need_change (h : sp_need_change K vs H Q E) : t_need_change K E { nx := fun _ H' => Q .non H', rt := Q } (start ["change"] vs) H := by
  obtain ⟨p, v, t, rfl, tr, k1, k2⟩ := h
  show t_need_change K E _ [some v] H
  unfold t_need_change
  walk_at "go"
  refine ⟨p, v, t, rfl, tr, fun H1 e1 => ?_⟩
  walk_at "go"
  cases c : chT t with
  | true =>
    walk_at "go"
    exact k1 c H1 e1
  | false =>
    walk_at "go"
    refine s_raisevalue ?_
    walk_at "go"
    exact rzvalue (k2 c) e1
end
end Z

namespace Z
open PySem PySem.Spec PyProof.Rows L2 Evl
theorem ch_cases {H : Hp} {p : Addr} {us : List V} {ts : List PT} (r : TrL H p us ts) (c : chT (.tup ts) = true) :
    (∃ a b, us = [.str "hang", a, b]) ∨ (∃ a, us = [.str "take", a]) ∨ (∃ a b c d, us = [.str "split", a, b, c, d]) ∨ (∃ a b c, us = [.str "join", a, b, c]) := by
  cases r with
  | nil => cases c
  | @cons v1 t1 vr tr h1 r =>
    cases e : tyB "str" (tyT t1) with
    | false => rw [ch_notStr _ e] at c; cases c
    | true =>
      obtain ⟨z, rfl, rfl⟩ := str_of h1 e
      have el := r.len
      by_cases z1 : z = "hang"
      · subst z1
        by_cases l : tr.length = 2
        · obtain ⟨a, b, _, _, rfl, _⟩ := r.two (el.trans l)
          exact .inl ⟨a, b, rfl⟩
        · rw [ch_hang _ l] at c; cases c
      · by_cases z2 : z = "take"
        · subst z2
          by_cases l : tr.length = 1
          · obtain ⟨a, _, rfl, _⟩ := r.one (el.trans l)
            exact .inr (.inl ⟨a, rfl⟩)
          · rw [ch_take _ l] at c; cases c
        · by_cases z3 : z = "split"
          · subst z3
            by_cases l : tr.length = 4
            · obtain ⟨a, b, d, e, _, _, _, _, rfl, _⟩ := r.four (el.trans l)
              exact .inr (.inr (.inl ⟨a, b, d, e, rfl⟩))
            · rw [ch_split _ l] at c; cases c
          · by_cases z4 : z = "join"
            · subst z4
              by_cases l : tr.length = 3
              · obtain ⟨a, b, d, _, _, _, rfl, _⟩ := r.three (el.trans l)
                exact .inr (.inr (.inr ⟨a, b, d, rfl⟩))
              · rw [ch_join _ l] at c; cases c
            · rw [ch_else _ _ z1 z2 z3 z4] at c; cases c
section
variable (K : PySem.W.Frag) (vs : List V) (H : Hp) (Q : VK) (E : XK)
theorem len_old_parts : ∀ vs H Q E, sp_old_parts K vs H Q E → vs.length = (["change"] : List Str).length := fun _ _ _ _ ⟨_, _, _, _, h, _⟩ => by rw [h]; rfl
theorem pure_old_parts (h : sp_old_parts K vs H Q E) : t_old_parts K { nx := fun _ H' => Q .non H', rt := Q } (start ["change"] vs) H := by
  obtain ⟨p, a, us, ts, rfl, ha, r, c, k⟩ := h
  show t_old_parts K _ [some (.ref a)] H
  unfold t_old_parts
  walk_at "go"
  rcases ch_cases r c with ⟨x, y, rfl⟩ | ⟨x, rfl⟩ | ⟨x, y, z, w, rfl⟩ | ⟨x, y, z, rfl⟩
  · walk_at "go"
    walk_at "al"
    intro q hq
    exact k q _ hq (Ex.new hq) upd_same
  · walk_at "go"
    walk_at "al"
    intro q hq
    exact k q _ hq (Ex.new hq) upd_same
  · walk_at "go"
    walk_at "al"
    intro q hq
    exact k q _ hq (Ex.new hq) upd_same
  · walk_at "go"
    walk_at "al"
    intro q hq
    exact k q _ hq (Ex.new hq) upd_same
theorem len_new_parts : ∀ vs H Q E, sp_new_parts K vs H Q E → vs.length = (["change"] : List Str).length := fun _ _ _ _ ⟨_, _, _, _, h, _⟩ => by rw [h]; rfl
theorem pure_new_parts (h : sp_new_parts K vs H Q E) : t_new_parts K { nx := fun _ H' => Q .non H', rt := Q } (start ["change"] vs) H := by
  obtain ⟨p, a, us, ts, rfl, ha, r, c, k⟩ := h
  show t_new_parts K _ [some (.ref a)] H
  unfold t_new_parts
  walk_at "go"
  rcases ch_cases r c with ⟨x, y, rfl⟩ | ⟨x, rfl⟩ | ⟨x, y, z, w, rfl⟩ | ⟨x, y, z, rfl⟩
  · walk_at "go"
    walk_at "al"
    intro q hq
    exact k q _ hq (Ex.new hq) upd_same
  · walk_at "go"
    walk_at "al"
    intro q hq
    exact k q _ hq (Ex.new hq) upd_same
  · walk_at "go"
    walk_at "al"
    intro q hq
    exact k q _ hq (Ex.new hq) upd_same
  · walk_at "go"
    walk_at "al"
    intro q hq
    exact k q _ hq (Ex.new hq) upd_same
theorem len_roles : ∀ vs H Q E, sp_roles K vs H Q E → vs.length = (["change"] : List Str).length := fun _ _ _ _ ⟨_, _, _, h, _⟩ => by rw [h]; rfl
theorem pure_roles (h : sp_roles K vs H Q E) : t_roles K E { nx := fun _ H' => Q .non H', rt := Q } (start ["change"] vs) H := by
  obtain ⟨p, v, t, rfl, tr, k1, k2⟩ := h
  show t_roles K E _ [some v] H
  unfold t_roles
  walk_at "go"
  refine ⟨p, v, t, rfl, tr, fun c H1 e1 => ?_, fun c => k2 c⟩
  have ct : tyB "tuple" (tyT t) = true := by
    cases q : tyB "tuple" (tyT t) with
    | true => rfl
    | false => rw [ch_notTup q] at c; cases c
  obtain ⟨a, us, ts, rfl, rfl, ha, na, hl, r⟩ := tup_of tr ct
  walk_at "go"
  refine ⟨p, a, us, ts, rfl, e1 _ _ ha, r.ex e1, c, fun o H2 ho e2 h2 => ?_⟩
  walk_at "go"
  refine ⟨p, a, us, ts, rfl, e2 _ _ (e1 _ _ ha), (r.ex e1).ex e2, c, fun w H3 hw e3 h3 => ?_⟩
  walk_at "go"
  walk_at "al"
  intro q hq
  have e12 := e1.trans e2
  have e13 := e12.trans e3
  refine k1 c a us rfl ha q o w _ (e13.trans (Ex.new hq)) ⟨fresh_back e13 hq, fresh_back e1 ho, fresh_back e12 hw, upd_same, Ex.new hq _ _ (e3 _ _ h2), Ex.new hq _ _ h3⟩
theorem name_notStr {t : PT} (e : tyB "str" (tyT t) = false) : nameT t = false := by
  cases t with
  | sc v => cases v <;> first | rfl | cases e
  | _ => rfl
theorem filter_empty {g : V → Bool} : ∀ l : List V, (l.filter fun x => !g x).isEmpty = l.all g
  | [] => rfl
  | x :: l => by
    have ih := filter_empty (g := g) l
    rw [List.filter_cons, List.all_cons]
    cases c : g x with
    | true => simpa using ih
    | false => simp
theorem len_law_is_name : ∀ vs H Q E, sp_law_is_name K vs H Q E → vs.length = (["value"] : List Str).length := fun _ _ _ _ ⟨_, _, _, h, _⟩ => by rw [h]; rfl
theorem pure_law_is_name (h : sp_law_is_name K vs H Q E) : t_law_is_name K { nx := fun _ H' => Q .non H', rt := Q } (start ["value", "sign"] vs) H := by
  obtain ⟨p, v, t, rfl, tr, k⟩ := h
  show t_law_is_name K _ [some v, none] H
  unfold t_law_is_name
  walk_at "go"
  refine s_isiP kit_str tr ?_
  walk_at "go"
  cases c : tyB "str" (tyT t) with
  | false =>
    walk_at "go"
    exact q_bl (k H (Ex.refl H)) (name_notStr c).symm
  | true =>
    obtain ⟨z, rfl, rfl⟩ := str_of tr c
    have hz : z.length ≤ 1000 := by
      obtain ⟨_, _, _, hs, _⟩ := tr.is
      exact hs
    have hzl : z.length ≤ sizeLine := Nat.le_trans hz (by decide)
    walk_at "go"
    refine ite2 (fun c1 => ?_) (fun c1 => ?_)
    · walk_at "go"
      refine q_bl (k H (Ex.refl H)) ?_
      have e : z = ("table" : Str) := by simpa using c1
      simp [nameT, nmV, nmS, e]
    · have e1 : ¬ z = ("table" : Str) := by simpa using c1
      walk_at "go"
      refine s_lenS hzl ?_
      walk_at "go"
      refine ite2 (fun c2 => ?_) (fun c2 => ?_)
      · have e2 : ¬ 1 ≤ z.length := by simp at c2; omega
        walk_at "go"
        refine q_bl (k H (Ex.refl H)) ?_
        simp [nameT, nmV, nmS, e2]
      · have e2 : 1 ≤ z.length := by simp at c2; omega
        walk_at "go"
        refine s_lenS hzl ?_
        walk_at "go"
        refine ite2 (fun c3 => ?_) (fun c3 => ?_)
        · walk_at "go"
          refine q_bl (k H (Ex.refl H)) ?_
          have e3 : ¬ z.length ≤ 8 := by simp at c3; omega
          simp [nameT, nmV, nmS, e3]
        · have e3 : z.length ≤ 8 := by simp at c3; omega
          walk_at "go"
          refine lc_pure (walk_signs (z := z)) (fun x => !inL x) (fun x => x) (fun R r => iAny_str ?_) (fun _ _ => trivial) ?_ (fun x hx => ?_) (fun x hx _ => ?_) fun D H2 hD e hl => ?_
          · walk_at "go"
            exact ⟨z, rfl, r⟩
          · rw [signs_len]
            have : z.cps.size = z.length := rfl
            rw [sizeLine_eq]
            omega
          · intro H1 e1 R r
            obtain ⟨c, hc, rfl⟩ : ∃ c, c ∈ z.cps.toList ∧ V.str ⟨#[c]⟩ = x := by simpa [signs] using hx
            walk_at "go"
            refine s_nin1B ?_
            walk_at "go"
            exact r _ (Ex.refl _)
          · intro H1 e1 R r
            walk_at "go"
            exact r _ (Ex.refl _)
          · walk_at "go"
            walk_at "al"
            intro q hq
            refine s_eqNil (Ex.new hq _ _ hl) upd_same ?_
            refine q_bl (k _ (e.trans (Ex.new hq))) ?_
            rw [List.map_id', filter_empty, signs_all]
            simp [nameT, nmV, nmS, e1, e2, e3, inL_sign]
theorem len_law_is_limit : ∀ vs H Q E, sp_law_is_limit K vs H Q E → vs.length = (["value"] : List Str).length := fun _ _ _ _ ⟨_, _, _, h, _⟩ => by rw [h]; rfl
theorem pure_law_is_limit (h : sp_law_is_limit K vs H Q E) : t_law_is_limit K { nx := fun _ H' => Q .non H', rt := Q } (start ["value"] vs) H := by
  obtain ⟨p, v, t, rfl, tr, k⟩ := h
  show t_law_is_limit K _ [some v] H
  unfold t_law_is_limit
  obtain ⟨d, hd, _⟩ := tr.is
  have e := limV_of v
  have e5 := isIV_of hd
  have e6 := tr.lim
  walk_at "go"
  refine ite2 (fun c => ?_) (fun c => ?_)
  · exact q_bl k (by rw [← e6, e, c]; rfl)
  · walk_at "go"
    refine s_isiT kit_int hd ?_
    walk_at "go"
    refine ite2 (fun c2 => ?_) (fun c2 => ?_)
    · walk_at "go"
      refine s_isiT kit_bool hd ?_
      walk_at "go"
      exact q_bl k (by rw [← e6, e, e5, c2, Bool.eq_false_iff.mpr c]; rfl)
    · exact q_bl k (by rw [← e6, e, e5, Bool.eq_false_iff.mpr c2, Bool.eq_false_iff.mpr c]; rfl)
theorem sp_notTup {t : PT} (e : tyB "tuple" (tyT t) = false) : spT t = false := by
  cases t with
  | tup ts => cases e
  | _ => rfl
theorem spT_lim {s u : PT} (h : limT s = false ∨ limT u = false) : spT (.tup [s, u]) = false := by
  cases s <;> cases u <;> first | rfl | (simp only [limT] at h; simp [spT, spL]; rcases h with h | h <;> simp [h])
theorem len_law_is_span : ∀ vs H Q E, sp_law_is_span K vs H Q E → vs.length = (["value"] : List Str).length := fun _ _ _ _ ⟨_, _, _, h, _⟩ => by rw [h]; rfl
theorem spT_len {ts : List PT} (h : ts.length ≠ 2) : spT (.tup ts) = false := by
  match ts with
  | [] => rfl
  | [t] => cases t <;> rfl
  | [_, _] => exact absurd rfl h
  | a :: b :: _ :: _ => cases a <;> cases b <;> rfl
theorem lim_sc {H : Hp} {p : Addr} {v : V} {t : PT} (h : Tr H p v t) (e : limT t = true) : t = .sc v ∧ limV v = true := by
  cases h with
  | sc h z => exact ⟨rfl, e⟩
  | _ => cases e
theorem pure_law_is_span (h : sp_law_is_span K vs H Q E) : t_law_is_span K { nx := fun _ H' => Q .non H', rt := Q } (start ["value"] vs) H := by
  obtain ⟨p, v, t, rfl, tr, k⟩ := h
  show t_law_is_span K _ [some v] H
  unfold t_law_is_span
  walk_at "go"
  refine s_isiP kit_tuple tr ?_
  walk_at "go"
  cases c : tyB "tuple" (tyT t) with
  | false =>
    walk_at "go"
    exact q_bl k (sp_notTup c).symm
  | true =>
    obtain ⟨a, us, ts, rfl, rfl, ha, na, hl, r⟩ := tup_of tr c
    walk_at "go"
    refine s_lenT ha ?_
    walk_at "go"
    refine ite2 (fun c2 => ?_) (fun c2 => ?_)
    · walk_at "go"
      refine q_bl k (spT_len ?_).symm
      rw [← r.len]
      intro e
      rw [e] at c2
      simp at c2
    · obtain ⟨x, y, s, u, rfl, rfl, hx, hy⟩ := r.two (by simp at c2; omega)
      walk_at "go"
      refine ⟨p, x, s, rfl, hx, ?_⟩
      walk_at "go"
      cases cx : limT s with
      | false =>
        walk_at "go"
        exact q_bl k (spT_lim (.inl cx)).symm
      | true =>
        walk_at "go"
        refine ⟨p, y, u, rfl, hy, ?_⟩
        walk_at "go"
        cases cy : limT u with
        | false =>
          walk_at "go"
          exact q_bl k (spT_lim (.inr cy)).symm
        | true =>
          obtain ⟨rfl, lx⟩ := lim_sc hx cx
          obtain ⟨rfl, ly⟩ := lim_sc hy cy
          walk_at "go"
          rcases lim_cases lx with rfl | ⟨i, rfl⟩
          · walk_at "go"
            exact q_bl k (by simp [spT, spL, lx, ly])
          · walk_at "go"
            rcases lim_cases ly with rfl | ⟨j, rfl⟩
            · walk_at "go"
              exact q_bl k (by simp [spT, spL, lx, ly])
            · walk_at "go"
              exact q_bl k (by simp [spT, spL, lx, ly])
end
end Z

namespace Z
open PySem PySem.Spec PyProof.Rows L2 Evl
theorem disp4 {σ : L2.St} {H : Hp} {Q : VK} {a b c d : Str} {i j k l : Int} (q : ∀ p, H p = none → Q (.ref p) (upd H p (.dK (mergeK [] [(Sum.inr a, .int i), (Sum.inr b, .int j), (Sum.inr c, .int k), (Sum.inr d, .int l)])))) :
    tDisp [(tC (.str a), tC (.int i)), (tC (.str b), tC (.int j)), (tC (.str c), tC (.int k)), (tC (.str d), tC (.int l))] σ H Q := fun p hp =>
  ⟨upd_same, [(Sum.inr a, .int i), (Sum.inr b, .int j), (Sum.inr c, .int k), (Sum.inr d, .int l)], rfl, by show 4 ≤ 15; decide, by
    rw [upd_upd]
    exact q p hp⟩
theorem dup_empty (us : List V) : ((rngV us.length).filter (dupAt us)).isEmpty = dupV us := by
  rw [← dup_rng, List.all_map]
  have : (rngV us.length).filter (dupAt us) = (rngV us.length).filter fun x => !(!dupAt us x) := by simp
  rw [this, filter_empty]
  rfl
theorem not_names {us : List V} {H : Hp} {p : Addr} {ts : List PT} (r : TrL H p us ts) : (us.filter fun v => !nmV v).isEmpty = ts.all nameT := by
  rw [filter_empty, all_nm r]
/-- the first item among the four words? -/
theorem ch_word {z : Str} {g : List PT} (h : z ≠ "hang" ∧ z ≠ "take" ∧ z ≠ "split" ∧ z ≠ "join") : chT (.tup (.sc (.str z) :: g)) = false := ch_else z g h.1 h.2.1 h.2.2.1 h.2.2.2
section
variable (K : PySem.W.Frag) (vs : List V) (H : Hp) (Q : VK) (E : XK)
theorem eqI_str {H : Hp} {p : Addr} {v : V} {t : PT} {n : Nat} {z : Str} (h : Tr H p v t) (nd : notD t = true) : EqI K H (n + 1) (.str z) v (decide (V.str z = v)) := by
  cases h with
  | sc h hz =>
    refine EqI.sc ?_
    cases v <;> first | rfl | cases h
  | @tup a vs ts h n l r =>
    have e : decide (V.str z = V.ref a) = false := by simp
    rw [e]
    exact .inr ⟨.st (SqT.of h) rfl, fun a e => by cases e⟩
  | @lst a vs ts h n l r =>
    have e : decide (V.str z = V.ref a) = false := by simp
    rw [e]
    exact .inr ⟨.sl (SqL.of h) rfl, fun a e => by cases e⟩
  | dct h n => cases nd
/-- the last part of the law's word: names, none twice -/
theorem tail_names {p g : Addr} {us : List V} {ts : List PT} {v0 v1 : Option V} {b : Bool} (hg : H g = some (.lst us)) (r : TrL H p us ts) (hl : us.length ≤ 1000) (hb : namesT ts = b) (k : ∀ H', Ex H H' → Q (.bl b) H') :
    tSeq (tIfS (tTest (tOp (rNeA K) (tLc (iAny K (tVar 2)) (gName 3) (tNot (tB (tCall (sp_law_is_name K) [] E0 (tCons (tVar 3) tNil)))) (tVar 3) [3]) (tLst tNil))) (tRet (tC (.bl false))) tNext)
      (tRet (tOp (rEqA K) (tLc (iRng1 (tCons (tCB (rLenA K) (tCons (tVar 2) tNil)) tNil)) (gName 4) (tTest (tOp (rInB K) (tOp (rIxB K) (tVar 2) (tVar 4)) (tSl (rSlA K) (tVar 2) tNoPart (tPart (tVar 4))))) (tVar 4) [4]) (tLst tNil)))
      { nx := fun _ H' => Q .non H', rt := Q } [v0, v1, some (.ref g), none, none] H := by
  walk_at "go"
  refine lc_pure (walk_list (K := K) (a := g) (xs := us)) (fun v => !nmV v) (fun x => x) (fun R q => iAny_lst ⟨_, rfl, g, rfl, ⟨_, SqL.of hg⟩, q⟩) (fun H' e => SqL.of (e _ _ hg)) (by rw [sizeLine_eq]; omega) (fun x hx => ?_) (fun x hx _ => ?_) fun D H2 hD e2 hy => ?_
  · intro H1 e1 R q
    obtain ⟨t, ht, qt⟩ := r.mem x hx
    walk_at "go"
    refine ⟨p, x, t, rfl, qt.ex e1, fun H3 e3 => ?_⟩
    walk_at "go"
    rw [← qt.nm]
    exact q _ e3
  · intro H1 e1 R q
    walk_at "go"
    exact q _ (Ex.refl _)
  · walk_at "go"
    walk_at "al"
    intro m1 f1
    refine s_neNil (Ex.new f1 _ _ hy) upd_same ?_
    rw [List.map_id', not_names r]
    walk_at "go"
    have e3 : Ex H (upd H2 m1 (.lst [])) := e2.trans (Ex.new f1)
    cases c : ts.all nameT with
    | false =>
      walk_at "go"
      refine q_bl (k _ e3) ?_
      rw [← hb]
      unfold namesT
      rw [c]
      rfl
    | true =>
      have hs := names_str r c
      have hg3 := e3 _ _ hg
      walk_at "go"
      refine lc_pure (walk_rng (n := us.length)) (fun v => dupAt us v) (fun x => x) (fun R q => iRng1_of ?_) (fun _ _ => trivial) (by rw [rngV_len, sizeLine_eq]; omega) (fun x hx => ?_) (fun x hx _ => ?_) fun D2 H4 hD2 e4 hy2 => ?_
      · walk_at "go"
        refine s_lenL hg3 ?_
        walk_at "go"
        exact ⟨_, rfl, by omega, by omega, q⟩
      · intro H5 e5 R q
        obtain ⟨i, hi, rfl⟩ := mem_rngV hx
        have hg5 := e5 _ _ hg3
        walk_at "go"
        refine s_ixB (s_ixL hg5 (at_of (j := i) (v := us[i]) (by omega) (by simp [hi])) ?_)
        walk_at "go"
        refine s_slL hg5 fun t ht => ?_
        rw [cutV_take _ (by omega)]
        obtain ⟨z, hz⟩ := hs us[i] (List.getElem_mem hi)
        refine s_inF (.inl upd_same) (by rw [hz]; rfl) (flat_strs fun v hv => hs v (List.mem_of_mem_take hv)) ?_
        have e : dupAt us (.int (0 + (i : Int))) = inV us[i] (us.take (0 + (i : Int)).toNat) := by
          show inV (us.getD (0 + (i : Int)).toNat .non) _ = _
          have e0 : (0 + (i : Int)).toNat = i := by omega
          rw [e0]
          simp [hi]
        rw [← e]
        walk_at "go"
        exact q _ (Ex.new ht)
      · intro H5 e5 R q
        walk_at "go"
        exact q _ (Ex.refl _)
      · walk_at "go"
        walk_at "al"
        intro m2 f2
        refine s_eqNil (Ex.new f2 _ _ hy2) upd_same ?_
        refine q_bl (k _ ((e3.trans e4).trans (Ex.new f2))) ?_
        rw [List.map_id', dup_empty, ← hb]
        unfold namesT
        rw [c, names_vT r c]
        rfl
theorem len_law_is_change : ∀ vs H Q E, sp_law_is_change K vs H Q E → vs.length = (["value"] : List Str).length := fun _ _ _ _ ⟨_, _, _, h, _⟩ => by rw [h]; rfl
theorem pure_law_is_change (h : sp_law_is_change K vs H Q E) : t_law_is_change K { nx := fun _ H' => Q .non H', rt := Q } (start ["value", "given", "names", "name", "k"] vs) H := by
  obtain ⟨p, v, t, rfl, tr, nd, k⟩ := h
  show t_law_is_change K _ [some v, none, none, none, none] H
  unfold t_law_is_change
  walk_at "go"
  refine s_isiP kit_tuple tr ?_
  walk_at "go"
  cases c : tyB "tuple" (tyT t) with
  | false =>
    walk_at "go"
    exact q_bl (k H (Ex.refl _)) (ch_notTup c).symm
  | true =>
    obtain ⟨a, us, ts, rfl, rfl, ha, na, hl, r⟩ := tup_of tr c
    have nd := nd ts rfl
    walk_at "go"
    walk_at "al"
    intro q0 f0
    have e0 := Ex.new (o := HO.tup []) f0
    cases r with
    | nil =>
      refine s_eqG (.tup (SqT.of (e0 _ _ ha)) (SqT.of upd_same) .nil) ?_
      walk_at "go"
      first
        | exact q_bl (k _ e0) rfl
        | (refine s_itet (by simp) ?_
           walk_at "go"
           exact q_bl (k _ e0) rfl)
    | @cons v1 t1 vr tr' h1 r =>
      rw [List.all_cons, Bool.and_eq_true] at nd
      refine s_eqG (.tup (SqT.of (e0 _ _ ha)) (SqT.of upd_same) .nilR) ?_
      walk_at "go"
      first
        | skip
        | (refine s_itef (by simp) ?_
           walk_at "go")
      have ha0 := e0 _ _ ha
      have h10 := h1.ex e0
      have r0 := r.ex e0
      have el := r.len
      have hl2 : vr.length ≤ 1000 := by simp at hl; omega
      generalize hH0 : upd H q0 (HO.tup []) = H0 at ha0 h10 r0 e0 ⊢
      refine s_ixB (s_ixT ha0 (at_of (j := 0) (v := v1) rfl rfl) ?_)
      walk_at "go"
      walk_at "al"
      intro m0 g0
      have e1 := e0.trans (Ex.new (o := HO.lst [V.str "hang", V.str "take", V.str "split", V.str "join"]) g0)
      have h11 := h10.ex (Ex.new (o := HO.lst [V.str "hang", V.str "take", V.str "split", V.str "join"]) g0)
      have r1 := r0.ex (Ex.new (o := HO.lst [V.str "hang", V.str "take", V.str "split", V.str "join"]) g0)
      refine s_ninG (fun z => decide (z = v1)) (.inl upd_same) (fun z hz => ?_) ?_
      · obtain ⟨w, rfl⟩ : ∃ w, z = V.str w := by
          rcases (by simpa using hz : z = .str "hang" ∨ z = .str "take" ∨ z = .str "split" ∨ z = .str "join") with rfl | rfl | rfl | rfl <;> exact ⟨_, rfl⟩
        exact eqI_str K h11 nd.1
      · have ha1 := Ex.new (o := HO.lst [V.str "hang", V.str "take", V.str "split", V.str "join"]) g0 _ _ ha0
        generalize hH1 : upd H0 m0 (HO.lst [V.str "hang", V.str "take", V.str "split", V.str "join"]) = H1 at e1 h11 r1 ha1 ⊢
        walk_at "go"
        cases cc : ([V.str "hang", V.str "take", V.str "split", V.str "join"].any fun z => decide (z = v1)) with
        | false =>
          walk_at "go"
          refine q_bl (k _ e1) ?_
          cases cs : tyB "str" (tyT t1) with
          | false => rw [ch_notStr _ cs]
          | true =>
            obtain ⟨z, rfl, rfl⟩ := str_of h1 cs
            simp at cc
            exact (ch_word ⟨fun e => cc.1 e.symm, fun e => cc.2.1 e.symm, fun e => cc.2.2.1 e.symm, fun e => cc.2.2.2 e.symm⟩).symm
        | true =>
          walk_at "go"
          refine s_slT ha1 (fun z => ?_) fun _ t0 f1 => ?_
          · exfalso
            have := z.1
            unfold HT.sIx at this
            simp at this
          rw [cutV_drop _ (by decide)]
          walk_at "go"
          refine s_listA (.inr upd_same) fun g f2 => ?_
          have e2 : Ex H (upd (upd H1 t0 (.tup (List.drop (1 : Int).toNat (v1 :: vr)))) g (.lst (List.drop (1 : Int).toNat (v1 :: vr)))) := (e1.trans (Ex.new f1)).trans (Ex.new f2)
          have ha2 := Ex.new (o := HO.lst (List.drop (1 : Int).toNat (v1 :: vr))) f2 _ _ (Ex.new (o := HO.tup (List.drop (1 : Int).toNat (v1 :: vr))) f1 _ _ ha1)
          have r2 := (r1.ex (Ex.new (o := HO.tup (List.drop (1 : Int).toNat (v1 :: vr))) f1)).ex (Ex.new (o := HO.lst (List.drop (1 : Int).toNat (v1 :: vr))) f2)
          have hg : upd (upd H1 t0 (.tup (List.drop (1 : Int).toNat (v1 :: vr)))) g (.lst (List.drop (1 : Int).toNat (v1 :: vr))) g = some (.lst vr) := upd_same
          generalize upd (upd H1 t0 (.tup (List.drop (1 : Int).toNat (v1 :: vr)))) g (.lst (List.drop (1 : Int).toNat (v1 :: vr))) = H2 at e2 ha2 r2 hg ⊢
          walk_at "go"
          refine s_lenL hg ?_
          walk_at "go"
          refine disp4 fun d f3 => ?_
          have e3 := Ex.new (o := HO.dK (mergeK [] [(Sum.inr ("hang" : Str), V.int 2), (Sum.inr ("take" : Str), V.int 1), (Sum.inr ("split" : Str), V.int 4), (Sum.inr ("join" : Str), V.int 3)])) f3
          have ha3 := e3 _ _ ha2
          have r3 := r2.ex e3
          have hg3 := e3 _ _ hg
          have hd : upd H2 d (.dK (mergeK [] [(Sum.inr ("hang" : Str), V.int 2), (Sum.inr ("take" : Str), V.int 1), (Sum.inr ("split" : Str), V.int 4), (Sum.inr ("join" : Str), V.int 3)])) d = some (.dK (mergeK [] [(Sum.inr ("hang" : Str), V.int 2), (Sum.inr ("take" : Str), V.int 1), (Sum.inr ("split" : Str), V.int 4), (Sum.inr ("join" : Str), V.int 3)])) := upd_same
          have e4 := e2.trans e3
          generalize upd H2 d (.dK (mergeK [] [(Sum.inr ("hang" : Str), V.int 2), (Sum.inr ("take" : Str), V.int 1), (Sum.inr ("split" : Str), V.int 4), (Sum.inr ("join" : Str), V.int 3)])) = H3 at e4 ha3 r3 hg3 hd ⊢
          walk_at "go"
          refine s_ixB (s_ixT ha3 (at_of (j := 0) (v := v1) rfl rfl) ?_)
          have i0 : ∀ {R : VK}, R v1 H3 → rIxB K (.ref a) (.int 0) H3 R := fun {R} q => s_ixB (s_ixT ha3 (at_of (j := 0) (v := v1) rfl rfl) q)
          have hv1 : v1 = .str "hang" ∨ v1 = .str "take" ∨ v1 = .str "split" ∨ v1 = .str "join" := by
            rcases (by simpa using cc : V.str "hang" = v1 ∨ V.str "take" = v1 ∨ V.str "split" = v1 ∨ V.str "join" = v1) with e | e | e | e
            · exact .inl e.symm
            · exact .inr (.inl e.symm)
            · exact .inr (.inr (.inl e.symm))
            · exact .inr (.inr (.inr e.symm))
          have ht1 : t1 = .sc v1 := by
            cases h1 with
            | sc h z => rfl
            | _ => rcases hv1 with e | e | e | e <;> cases e
          subst ht1
          rcases hv1 with rfl | rfl | rfl | rfl
          · refine s_ixD (k := Sum.inr ("hang" : Str)) (v := .int 2) hd (by decide +kernel) ?_
            walk_at "go"
            refine ite2 (fun c3 => ?_) (fun c3 => ?_)
            · walk_at "go"
              refine q_bl (k _ e4) (ch_hang _ (fun e => ?_)).symm
              rw [← el] at e
              rw [e] at c3
              simp at c3
            · have hn : vr.length = 2 := by simp at c3; omega
              obtain ⟨x, y, s, u, rfl, rfl, hx, hy⟩ := r3.two hn
              walk_at "go"
              refine ⟨p, x, s, rfl, hx, fun H4 e5 => ?_⟩
              walk_at "go"
              refine ite2 (fun c4 => ?_) (fun c4 => ?_)
              · have hg4 := e5 _ _ hg3
                walk_at "go"
                refine ⟨p, y, u, rfl, hy.ex e5, q_bl (k _ (e4.trans e5)) ?_⟩
                rw [ch_hang2, c4]
                rfl
              · refine q_bl (k _ (e4.trans e5)) ?_
                rw [ch_hang2, Bool.eq_false_iff.mpr c4]
                rfl
          · refine s_ixD (k := Sum.inr ("take" : Str)) (v := .int 1) hd (by decide +kernel) ?_
            walk_at "go"
            refine ite2 (fun c3 => ?_) (fun c3 => ?_)
            · walk_at "go"
              refine q_bl (k _ e4) (ch_take _ (fun e => ?_)).symm
              rw [← el] at e
              rw [e] at c3
              simp at c3
            · have hn : vr.length = 1 := by simp at c3; omega
              obtain ⟨x, s, rfl, rfl, hx⟩ := r3.one hn
              walk_at "go"
              refine s_cut (fun σ' H' => σ' = [some (.ref a), some (.ref g), some (.ref g), none, none] ∧ H' = H3) ?_ ?_
              · walk_at "go"
                exact ⟨rfl, rfl⟩
              · rintro σ' H' ⟨rfl, rfl⟩
                exact tail_names K _ Q hg3 r3 (by simp) (by rw [ch_take1]; simp [namesT, dupV, inV]) fun H' e => k _ (e4.trans e)
          · refine s_ixD (k := Sum.inr ("split" : Str)) (v := .int 4) hd (by decide +kernel) ?_
            walk_at "go"
            refine ite2 (fun c3 => ?_) (fun c3 => ?_)
            · walk_at "go"
              refine q_bl (k _ e4) (ch_split _ (fun e => ?_)).symm
              rw [← el] at e
              rw [e] at c3
              simp at c3
            · have hn : vr.length = 4 := by simp at c3; omega
              obtain ⟨x, y, w, q, s1, s2, s3, s4, rfl, rfl, hx, hy, hw, hq⟩ := r3.four hn
              walk_at "go"
              refine s_cut (fun σ' H' => ∃ m, σ' = [some (.ref a), some (.ref g), some (.ref m), none, none] ∧ Ex H3 H' ∧ H' m = some (.lst [x, w, q]) ∧ intT s2 = true) ?_ ?_
              · walk_at "go"
                have key : intT s2 = (limT s2 && !decide (y = .non)) := by
                  rw [← hy.int, ← hy.lim, limV_of]
                  cases y <;> simp [isIV]
                refine ite2 (fun c4 => ?_) (fun c4 => ?_)
                · walk_at "go"
                  refine q_bl (k _ e4) ?_
                  rw [ch_split4, key, c4]
                  simp
                · walk_at "go"
                  refine ⟨p, y, s2, rfl, hy, ?_⟩
                  walk_at "go"
                  cases c5 : limT s2 with
                  | false =>
                    walk_at "go"
                    refine q_bl (k _ e4) ?_
                    rw [ch_split4, key, c5]
                    rfl
                  | true =>
                    walk_at "go"
                    walk_at "al"
                    intro m1 g1
                    walk_at "go"
                    refine s_slL (Ex.new g1 _ _ hg3) fun m2 g2 => ?_
                    rw [cutV_drop _ (by decide)]
                    refine s_addL (Ex.new g2 _ _ upd_same) upd_same (by rw [sizeLine_eq]; simp) fun m3 g3 => ?_
                    walk_at "go"
                    refine ⟨m3, rfl, ((Ex.new g1).trans (Ex.new g2)).trans (Ex.new g3), upd_same, ?_⟩
                    rw [key, c5, Bool.eq_false_iff.mpr c4]
                    rfl
              · rintro σ' H' ⟨m, rfl, e5, hm, hi⟩
                have r5 : TrL H' p [x, w, q] [s1, s3, s4] := .cons (hx.ex e5) (.cons (hw.ex e5) (.cons (hq.ex e5) .nil))
                exact tail_names K _ Q hm r5 (by simp) (by rw [ch_split4, hi]; rfl) fun H' e => k _ ((e4.trans e5).trans e)
          · refine s_ixD (k := Sum.inr ("join" : Str)) (v := .int 3) hd (by decide +kernel) ?_
            walk_at "go"
            refine ite2 (fun c3 => ?_) (fun c3 => ?_)
            · walk_at "go"
              refine q_bl (k _ e4) (ch_join _ (fun e => ?_)).symm
              rw [← el] at e
              rw [e] at c3
              simp at c3
            · have hn : vr.length = 3 := by simp at c3; omega
              obtain ⟨x, y, w, s1, s2, s3, rfl, rfl, hx, hy, hw⟩ := r3.three hn
              walk_at "go"
              refine s_cut (fun σ' H' => σ' = [some (.ref a), some (.ref g), some (.ref g), none, none] ∧ H' = H3) ?_ ?_
              · walk_at "go"
                exact ⟨rfl, rfl⟩
              · rintro σ' H' ⟨rfl, rfl⟩
                exact tail_names K _ Q hg3 r3 (by simp) (by rw [ch_join3]) fun H' e => k _ (e4.trans e)
end
end Z

namespace Z
open PySem PySem.Spec PyProof.Rows L2 Evl
mutual
theorem Tr.mv2 {H H' : Hp} {p q : Addr} (e : ∀ a o, H a = some o → a ≠ p → a ≠ q → H' a = some o) : ∀ {v : V} {t : PT}, Tr H p v t → Tr H q v t → Tr H' p v t
  | _, _, .sc h z, _ => .sc h z
  | _, _, .tup h n l r, .tup h2 n2 _ r2 => .tup (e _ _ h n n2) n l (TrL.mv2 e r (by rw [h] at h2; cases h2; exact r2))
  | _, _, .lst h n l r, .lst h2 n2 _ r2 => .lst (e _ _ h n n2) n l (TrL.mv2 e r (by rw [h] at h2; cases h2; exact r2))
  | _, _, .dct h n, .dct _ n2 => .dct (e _ _ h n n2) n
theorem TrL.mv2 {H H' : Hp} {p q : Addr} (e : ∀ a o, H a = some o → a ≠ p → a ≠ q → H' a = some o) : ∀ {vs : List V} {ts : List PT}, TrL H p vs ts → TrL H q vs ts → TrL H' p vs ts
  | _, _, .nil, _ => .nil
  | _, _, .cons h r, .cons h2 r2 => .cons (Tr.mv2 e h h2) (TrL.mv2 e r r2)
end
theorem TrL.set {H : Hp} {p : Addr} {x : V} {t : PT} (hx : Tr H p x t) : ∀ {vs : List V} {ts : List PT} (i : Nat), TrL H p vs ts → TrL H p (vs.set i x) (ts.set i t)
  | _, _, _, .nil => .nil
  | _, _, 0, .cons _ r => .cons hx r
  | _, _, i + 1, .cons h r => .cons h (TrL.set hx i r)
theorem TrL.take {H : Hp} {p : Addr} : ∀ {vs : List V} {ts : List PT} (i : Nat), TrL H p vs ts → TrL H p (vs.take i) (ts.take i)
  | _, _, 0, _ => by simp; exact .nil
  | _, _, i + 1, .nil => .nil
  | _, _, i + 1, .cons h r => .cons h (TrL.take i r)
theorem TrL.drop {H : Hp} {p : Addr} : ∀ {vs : List V} {ts : List PT} (i : Nat), TrL H p vs ts → TrL H p (vs.drop i) (ts.drop i)
  | _, _, 0, r => r
  | _, _, i + 1, .nil => .nil
  | _, _, i + 1, .cons _ r => TrL.drop i r
theorem TrL.erase {H : Hp} {p : Addr} : ∀ {vs : List V} {ts : List PT} (i : Nat), TrL H p vs ts → TrL H p (vs.eraseIdx i) (ts.eraseIdx i)
  | _, _, _, .nil => .nil
  | _, _, 0, .cons _ r => r
  | _, _, i + 1, .cons h r => .cons h (TrL.erase i r)
theorem all_set {g : PT → Bool} {t : PT} (ht : g t = true) : ∀ {ts : List PT} (i : Nat), ts.all g = true → (ts.set i t).all g = true
  | [], _, h => h
  | x :: ts, 0, h => by
    rw [List.all_cons, Bool.and_eq_true] at h
    rw [List.set_cons_zero, List.all_cons, ht, h.2]
    rfl
  | x :: ts, i + 1, h => by
    rw [List.all_cons, Bool.and_eq_true] at h
    rw [List.set_cons_succ, List.all_cons, h.1, all_set ht i h.2]
    rfl
theorem all_erase {g : PT → Bool} : ∀ {ts : List PT} (i : Nat), ts.all g = true → (ts.eraseIdx i).all g = true
  | [], _, h => h
  | x :: ts, 0, h => by
    rw [List.all_cons, Bool.and_eq_true] at h
    exact h.2
  | x :: ts, i + 1, h => by
    rw [List.all_cons, Bool.and_eq_true] at h
    rw [List.eraseIdx_cons_succ, List.all_cons, h.1, all_erase i h.2]
    rfl
theorem all_ins {g : PT → Bool} {t : PT} (ht : g t = true) {ts : List PT} (i : Nat) (h : ts.all g = true) : (ts.take i ++ [t] ++ ts.drop i).all g = true := by
  rw [List.all_eq_true] at h ⊢
  intro x hx
  rw [List.mem_append, List.mem_append, List.mem_singleton] at hx
  rcases hx with (hx | rfl) | hx
  · exact h x (List.mem_of_mem_take hx)
  · exact ht
  · exact h x (List.mem_of_mem_drop hx)
theorem nm_small {v : V} (h : nmV v = true) : isSc v = true ∧ smallV v := by
  cases v with
  | str z =>
    refine ⟨rfl, ?_⟩
    have h2 : nmS z = true := h
    simp only [nmS, Bool.and_eq_true, decide_eq_true_eq] at h2
    show z.length ≤ 1000
    omega
  | _ => cases h
section
variable (K : PySem.W.Frag) (vs : List V) (H : Hp) (Q : VK) (E : XK)
theorem len_law_right : ∀ vs H Q E, sp_law_right K vs H Q E → vs.length = (["box", "names"] : List Str).length := fun _ _ _ _ ⟨_, _, _, _, _, _, h, _⟩ => by rw [h]; rfl
theorem pure_law_right (h : sp_law_right K vs H Q E) : t_law_right K { nx := fun _ H' => Q .non H', rt := Q } (start ["box", "names", "at", "changes"] vs) H := by
  obtain ⟨p, a, n, x, y, z, rfl, B, hn, ha, nx, ny, nz, k⟩ := h
  show t_law_right K _ [some (.ref p), some (.ref a), none, none] H
  unfold t_law_right
  have na : a ≠ p := by
    obtain ⟨b1, b2, b3, e, _⟩ := B
    intro ea
    rw [ea, e] at ha
    cases ha
    cases nx
  walk_at "go"
  refine u_take B (by omega) (by decide) (by decide +kernel) fun d H1 b1 B1 d0 d1 => ?_
  have ha1 := b1 _ _ ha na
  walk_at "go"
  walk_at "al"
  intro t1 f1
  walk_at "go"
  walk_at "al"
  intro c1 g1
  walk_at "go"
  walk_at "al"
  intro t2 f2
  walk_at "go"
  walk_at "al"
  intro c2 g2
  walk_at "go"
  walk_at "al"
  intro c3 g3
  walk_at "go"
  walk_at "al"
  intro l1 h1
  walk_at "go"
  walk_at "al"
  intro c4 g4
  walk_at "go"
  walk_at "al"
  intro c5 g5
  walk_at "go"
  walk_at "al"
  intro l2 h2
  refine s_addL (xs := [.ref c1, .ref c2, .ref c3]) (ys := [.ref c4, .ref c5]) (by walk_at "look") upd_same (by rw [sizeLine_eq]; simp) fun l3 h3 => ?_
  walk_at "go"
  have B2 := B1
  refine u_take (p := p) (n := n + 1) (by walk_at "bx") (by omega) (by decide) (by decide +kernel) fun e H2 b2 B2 e0 e1 => ?_
  have N1 : t1 ≠ p := by walk_at "ne"
  have N2 : t2 ≠ p := by walk_at "ne"
  have M1 : c1 ≠ p := by walk_at "ne"
  have M2 : c2 ≠ p := by walk_at "ne"
  have M3 : c3 ≠ p := by walk_at "ne"
  have M4 : c4 ≠ p := by walk_at "ne"
  have M5 : c5 ≠ p := by walk_at "ne"
  have L3 : l3 ≠ p := by walk_at "ne"
  have bb : But p H H2 := But.trans (by walk_at "but") b2
  have i1 : H2 t1 = some (.tup [.int (d - 10), .int (d - 10 + 3)]) := b2 t1 _ (by walk_at "look") N1
  have i2 : H2 t2 = some (.tup [.non, .int (d - 10)]) := b2 t2 _ (by walk_at "look") N2
  have j1 : H2 c1 = some (.tup [.str "hang", x, .ref t1]) := b2 c1 _ (by walk_at "look") M1
  have j2 : H2 c2 = some (.tup [.str "hang", x, .ref t2]) := b2 c2 _ (by walk_at "look") M2
  have j3 : H2 c3 = some (.tup [.str "take", x]) := b2 c3 _ (by walk_at "look") M3
  have j4 : H2 c4 = some (.tup [.str "split", x, .int (d - 10), y, z]) := b2 c4 _ (by walk_at "look") M4
  have j5 : H2 c5 = some (.tup [.str "join", x, y, z]) := b2 c5 _ (by walk_at "look") M5
  refine s_ixB (s_menuL (xs := [.ref c1, .ref c2, .ref c3] ++ [.ref c4, .ref c5]) (b2 _ _ (by walk_at "look") L3) e0 (by simpa using e1) fun v hv => ?_)
  obtain ⟨sx, mx⟩ := nm_small nx
  obtain ⟨sy, my⟩ := nm_small ny
  obtain ⟨sz, mz⟩ := nm_small nz
  have str : ∀ s : Str, s.length ≤ 1000 → Tr H2 p (.str s) (.sc (.str s)) := fun s hs => .sc rfl hs
  have int : ∀ i : Int, Tr H2 p (.int i) (.sc (.int i)) := fun i => .sc rfl trivial
  have non : Tr H2 p .non (.sc .non) := .sc rfl trivial
  simp only [List.mem_append, List.mem_cons, List.mem_nil_iff, or_false] at hv
  rcases hv with (rfl | rfl | rfl) | rfl | rfl
  · exact k c1 _ _ H2 bb B2 j1 M1 (.cons (str _ (by decide)) (.cons (.sc sx mx) (.cons (.tup i1 N1 (by show 2 ≤ 1000; decide) (.cons (int _) (.cons (int _) .nil))) .nil))) (by simp) (by show 3 ≤ 10; decide) rfl
  · exact k c2 _ _ H2 bb B2 j2 M2 (.cons (str _ (by decide)) (.cons (.sc sx mx) (.cons (.tup i2 N2 (by show 2 ≤ 1000; decide) (.cons non (.cons (int _) .nil))) .nil))) (by simp) (by show 3 ≤ 10; decide) rfl
  · exact k c3 _ _ H2 bb B2 j3 M3 (.cons (str _ (by decide)) (.cons (.sc sx mx) .nil)) (by simp) (by show 2 ≤ 10; decide) rfl
  · exact k c4 _ _ H2 bb B2 j4 M4 (.cons (str _ (by decide)) (.cons (.sc sx mx) (.cons (int _) (.cons (.sc sy my) (.cons (.sc sz mz) .nil))))) (by simp) (by show 5 ≤ 10; decide) rfl
  · exact k c5 _ _ H2 bb B2 j5 M5 (.cons (str _ (by decide)) (.cons (.sc sx mx) (.cons (.sc sy my) (.cons (.sc sz mz) .nil)))) (by simp) (by show 4 ≤ 10; decide) rfl
end
end Z

namespace Z
open PySem PySem.Spec PyProof.Rows L2 Evl
mutual
theorem Tr.fresh {H : Hp} {p l : Addr} (hl : H l = none) : ∀ {v : V} {t : PT}, Tr H p v t → Tr H l v t
  | _, _, .sc h z => .sc h z
  | _, _, .tup h _ n r => .tup h (ne_of_none h hl) n (TrL.fresh hl r)
  | _, _, .lst h _ n r => .lst h (ne_of_none h hl) n (TrL.fresh hl r)
  | _, _, .dct h _ => .dct h (ne_of_none h hl)
theorem TrL.fresh {H : Hp} {p l : Addr} (hl : H l = none) : ∀ {vs : List V} {ts : List PT}, TrL H p vs ts → TrL H l vs ts
  | _, _, .nil => .nil
  | _, _, .cons h r => .cons (Tr.fresh hl h) (TrL.fresh hl r)
end
/-- the items of the list at l in the middle of the bending: while the way is not yet met they are the change's -/
structure Mid (H0 : Hp) (p l : Addr) (n : Nat) (us : List V) (ts : List PT) (odd : V) (u : PT) (way : Int) (kk : Int) (H : Hp) (ws : List V) (xs : List PT) : Prop where
  but : But p H0 H
  bx : Bx H p n
  at_ : H l = some (.lst ws)
  tr : TrL H p ws xs
  tl : TrL H l ws xs
  op : Tr H p odd u
  ol : Tr H l odd u
  len : ws.length ≤ us.length + 1
  nd : xs.all notD = true
  same : kk ≤ way → ws = us ∧ xs = ts
section
variable {H0 : Hp} {p l : Addr} {n : Nat} {us : List V} {ts : List PT} {odd : V} {u : PT} {way kk : Int} {H : Hp} {ws : List V} {xs : List PT}
theorem Mid.next (m : Mid H0 p l n us ts odd u way kk H ws xs) (h : way ≠ kk) : Mid H0 p l n us ts odd u way (kk + 1) H ws xs :=
  { m with same := fun z => m.same (by omega) }
theorem Mid.mut {ws' : List V} {xs' : List PT} (m : Mid H0 p l n us ts odd u way kk H ws xs) (h : way = kk) (hl : H0 l = none) (nl : l ≠ p) (t1 : TrL H p ws' xs') (t2 : TrL H l ws' xs') (le : ws'.length ≤ us.length + 1) (nd : xs'.all notD = true) :
    Mid H0 p l n us ts odd u way (kk + 1) (upd H l (.lst ws')) ws' xs' where
  but := m.but.newD hl
  bx := m.bx.upd nl
  at_ := upd_same
  tr := t1.mv2 (fun a o e _ n => by rw [upd_ne n]; exact e) t2
  tl := t2.mv fun a o e n => by rw [upd_ne n]; exact e
  op := m.op.mv2 (fun a o e _ n => by rw [upd_ne n]; exact e) m.ol
  ol := m.ol.mv fun a o e n => by rw [upd_ne n]; exact e
  len := le
  nd := nd
  same := fun z => absurd z (by omega)
end
section
variable (K : PySem.W.Frag) (vs : List V) (H : Hp) (Q : VK) (E : XK)
theorem len_law_bent : ∀ vs H Q E, sp_law_bent K vs H Q E → vs.length = (["box", "change"] : List Str).length := fun _ _ _ _ ⟨_, _, _, _, _, h, _⟩ => by rw [h]; rfl
theorem pure_law_bent (h : sp_law_bent K vs H Q E) : t_law_bent K { nx := fun _ H' => Q .non H', rt := Q } (start ["box", "change", "items", "at", "odd", "way"] vs) H := by
  obtain ⟨p, a, n, us, ts, rfl, B, hn, ha, na, r, hu, hul, nd, k⟩ := h
  show t_law_bent K _ [some (.ref p), some (.ref a), none, none, none, none] H
  unfold t_law_bent
  have hup : 0 < us.length := by
    cases us with
    | nil => exact absurd rfl hu
    | cons _ _ => simp
  walk_at "go"
  refine s_listA ha.symm fun l hl => ?_
  have nl : l ≠ p := B.ne hl
  walk_at "go"
  refine s_lenL upd_same ?_
  walk_at "go"
  refine u_take (B.ex (Ex.new hl)) (by omega) (by omega) (by
    have h1 : ((us.length : Int)).natAbs = us.length := by omega
    rw [h1]
    have h2 := Nat.log2_le_self us.length
    omega) fun at_ H1 b1 B1 a0 a1 => ?_
  have hl1 : H1 l = some (.lst us) := b1 _ _ upd_same nl
  have bb1 : But p H H1 := (But.refl.new hl).trans b1
  clear b1
  walk_at "go"
  walk_at "al"
  intro t1 f1
  walk_at "go"
  walk_at "al"
  intro t2 f2
  walk_at "go"
  walk_at "al"
  intro t3 f3
  walk_at "go"
  walk_at "al"
  intro m1 g1
  walk_at "go"
  have hl2 : upd (upd (upd H1 t1 (.tup [.int 5, .int 5])) t2 (.lst [.int 1, .int 2])) t3 (.tup [.str "a"]) l = some (.lst us) := Ex.new f3 _ _ (Ex.new f2 _ _ (Ex.new f1 _ _ hl1))
  have P1 : t1 ≠ l := (ne_of_none hl1 f1).symm
  have P2 : t2 ≠ l := (ne_of_none (Ex.new f1 _ _ hl1) f2).symm
  have P3 : t3 ≠ l := (ne_of_none (Ex.new f2 _ _ (Ex.new f1 _ _ hl1)) f3).symm
  have N1 : t1 ≠ p := B1.ne f1
  have N2 : t2 ≠ p := (B1.ex (Ex.new f1)).ne f2
  have N3 : t3 ≠ p := ((B1.ex (Ex.new f1)).ex (Ex.new f2)).ne f3
  have i1 : upd (upd (upd H1 t1 (.tup [.int 5, .int 5])) t2 (.lst [.int 1, .int 2])) t3 (.tup [.str "a"]) t1 = some (.tup [.int 5, .int 5]) := Ex.new f3 _ _ (Ex.new f2 _ _ upd_same)
  have i2 : upd (upd (upd H1 t1 (.tup [.int 5, .int 5])) t2 (.lst [.int 1, .int 2])) t3 (.tup [.str "a"]) t2 = some (.lst [.int 1, .int 2]) := Ex.new f3 _ _ upd_same
  have i3 : upd (upd (upd H1 t1 (.tup [.int 5, .int 5])) t2 (.lst [.int 1, .int 2])) t3 (.tup [.str "a"]) t3 = some (.tup [.str "a"]) := upd_same
  have bb2 : But p H (upd (upd (upd H1 t1 (.tup [.int 5, .int 5])) t2 (.lst [.int 1, .int 2])) t3 (.tup [.str "a"])) := ((bb1.new f1).new f2).new f3
  have B2 : Bx (upd (upd (upd H1 t1 (.tup [.int 5, .int 5])) t2 (.lst [.int 1, .int 2])) t3 (.tup [.str "a"])) p (n + 1) := ((B1.ex (Ex.new f1)).ex (Ex.new f2)).ex (Ex.new f3)
  refine menu_of (m := 11) bb2 B2 (by omega) rfl (by decide) (by decide +kernel) (fun odd H3 hodd b3 c3 B3 => ?_) m1 g1
  have j1 := c3 _ _ i1 N1
  have j2 := c3 _ _ i2 N2
  have j3 := c3 _ _ i3 N3
  have oT : ∃ u, (∀ q : Addr, t1 ≠ q → t2 ≠ q → t3 ≠ q → Tr H3 q odd u) ∧ notD u = true := by
    have int : ∀ (i : Int) (q : Addr), Tr H3 q (.int i) (.sc (.int i)) := fun i q => .sc rfl trivial
    have str : ∀ (s : Str) (q : Addr), s.length ≤ 1000 → Tr H3 q (.str s) (.sc (.str s)) := fun s q hs => .sc rfl hs
    simp only [List.mem_cons, List.mem_nil_iff, or_false] at hodd
    rcases hodd with rfl | rfl | rfl | rfl | rfl | rfl | rfl | rfl | rfl | rfl | rfl
    · exact ⟨_, fun q _ _ _ => .sc rfl trivial, rfl⟩
    · exact ⟨_, fun q _ _ _ => int _ q, rfl⟩
    · exact ⟨_, fun q _ _ _ => .sc rfl trivial, rfl⟩
    · exact ⟨_, fun q _ _ _ => str _ q (by decide), rfl⟩
    · exact ⟨_, fun q _ _ _ => str _ q (by decide), rfl⟩
    · exact ⟨_, fun q _ _ _ => str _ q (by decide), rfl⟩
    · exact ⟨_, fun q _ _ _ => str _ q (by decide), rfl⟩
    · exact ⟨_, fun q q1 q2 q3 => .tup j1 q1 (by show 2 ≤ 1000; decide) (.cons (int 5 q) (.cons (int 5 q) .nil)), rfl⟩
    · exact ⟨_, fun q q1 q2 q3 => .lst j2 q2 (by show 2 ≤ 1000; decide) (.cons (int 1 q) (.cons (int 2 q) .nil)), rfl⟩
    · exact ⟨_, fun q q1 q2 q3 => .tup j3 q3 (by show 1 ≤ 1000; decide) (.cons (str _ q (by decide)) .nil), rfl⟩
    · exact ⟨_, fun q _ _ _ => str _ q (by decide), rfl⟩
  obtain ⟨u, hu3, hud⟩ := oT
  have hl3 : H3 l = some (.lst us) := c3 _ _ hl2 nl
  clear c3
  walk_at "go"
  refine u_take B3 (by omega) (by decide) (by decide +kernel) fun way H4 b4 B4 w0 w1 => ?_
  have bb4 : But p H H4 := b3.trans b4
  have hl4 : H4 l = some (.lst us) := b4 _ _ hl3 nl
  have hu4p : Tr H4 p odd u := (hu3 p N1 N2 N3).but b4
  have hu4l : Tr H4 l odd u := (hu3 l P1 P2 P3).mv2 (fun a o e _ n => b4 _ _ e n) (hu3 p N1 N2 N3)
  have r4l : TrL H4 l us ts := (r.fresh hl).mv2 (fun a o e _ n => bb4 _ _ e n) r
  have m0 : Mid H p l (n + 3) us ts odd u way 0 H4 us ts := ⟨bb4, B4, hl4, r.but bb4, r4l, hu4p, hu4l, by omega, nd, fun _ => ⟨rfl, rfl⟩⟩
  have hat : at_.toNat < us.length := by omega
  walk_at "go"
  refine s_cut (fun σ' H' => ∃ ws xs, σ' = [some (.ref p), some (.ref a), some (.ref l), some (.int at_), some odd, some (.int way)] ∧ Mid H p l (n + 3) us ts odd u way 1 H' ws xs) ?_ ?_
  · walk_at "go"
    refine ite2 (fun c => ?_) (fun c => ?_)
    · have hw : way = 0 := by simpa using c
      walk_at "go"
      refine .inl ⟨l, us, at_, at_.toNat, rfl, rfl, hl4, ?_, ?_⟩
      · unfold ixN
        rw [if_pos a0, if_pos (by omega)]
      · refine ⟨_, _, rfl, m0.mut hw hl nl (TrL.set hu4p _ m0.tr) (TrL.set hu4l _ m0.tl) (by rw [List.length_set]; omega) (all_set hud _ nd)⟩
    · walk_at "go"
      exact ⟨_, _, rfl, m0.next (by simpa using c)⟩
  · rintro σ' H5 ⟨ws, xs, rfl, m1⟩
    refine s_cut (fun σ' H' => ∃ ws xs, σ' = [some (.ref p), some (.ref a), some (.ref l), some (.int at_), some odd, some (.int way)] ∧ Mid H p l (n + 3) us ts odd u way 2 H' ws xs) ?_ ?_
    · walk_at "go"
      refine ite2 (fun c => ?_) (fun c => ?_)
      · have hw : way = 1 := by simpa using c
        obtain ⟨rfl, rfl⟩ := m1.same (by omega)
        have hl5 := m1.at_
        walk_at "go"
        refine s_popAt hl5 a0 a1 (by omega) fun y hy hy2 => ?_
        exact ⟨_, _, rfl, m1.mut hw hl nl (TrL.erase _ m1.tr) (TrL.erase _ m1.tl) (by rw [List.length_eraseIdx]; split <;> omega) (all_erase _ nd)⟩
      · walk_at "go"
        exact ⟨_, _, rfl, m1.next (by simpa using c)⟩
    · rintro σ' H6 ⟨ws, xs, rfl, m2⟩
      refine s_cut (fun σ' H' => ∃ ws xs, σ' = [some (.ref p), some (.ref a), some (.ref l), some (.int at_), some odd, some (.int way)] ∧ Mid H p l (n + 3) us ts odd u way 3 H' ws xs) ?_ ?_
      · walk_at "go"
        refine ite2 (fun c => ?_) (fun c => ?_)
        · have hw : way = 2 := by simpa using c
          obtain ⟨rfl, rfl⟩ := m2.same (by omega)
          have hl6 := m2.at_
          walk_at "go"
          refine s_insert hl6 (by rw [sizeLine_eq]; omega) a0 (by omega) ?_
          refine ⟨_, _, rfl, m2.mut (xs' := xs.take at_.toNat ++ [u] ++ xs.drop at_.toNat) hw hl nl (((TrL.take _ m2.tr).app (.cons m2.op .nil)).app (TrL.drop _ m2.tr)) (((TrL.take _ m2.tl).app (.cons m2.ol .nil)).app (TrL.drop _ m2.tl)) ?_ (all_ins hud _ nd)⟩
          simp only [List.length_append, List.length_take, List.length_drop, List.length_singleton]
          omega
        · walk_at "go"
          exact ⟨_, _, rfl, m2.next (by simpa using c)⟩
      · rintro σ' H7 ⟨ws, xs, rfl, m3⟩
        refine s_cut (fun σ' H' => ∃ ws xs, σ' = [some (.ref p), some (.ref a), some (.ref l), some (.int at_), some odd, some (.int way)] ∧ Mid H p l (n + 3) us ts odd u way 4 H' ws xs) ?_ ?_
        · walk_at "go"
          refine ite2 (fun c => ?_) (fun c => ?_)
          · have hw : way = 3 := by simpa using c
            obtain ⟨rfl, rfl⟩ := m3.same (by omega)
            have hl7 := m3.at_
            walk_at "go"
            have hlast : xs.length - 1 < xs.length := by rw [← r.len]; omega
            obtain ⟨y, hy, ty⟩ := m3.tr.at_ (i := xs.length - 1) (t := xs[xs.length - 1]) (by simp [hlast])
            obtain ⟨y2, hy2, ty2⟩ := m3.tl.at_ (i := xs.length - 1) (t := xs[xs.length - 1]) (by simp [hlast])
            rw [hy] at hy2
            cases hy2
            refine s_ixB (s_ixL (v := y) hl7 ?_ ?_)
            · unfold atI ixN
              rw [if_neg (by decide), if_pos (by omega)]
              show ws[((-1 : Int) + ws.length).toNat]? = some y
              have : ((-1 : Int) + ws.length).toNat = xs.length - 1 := by
                rw [← r.len]
                omega
              rw [this]
              exact hy
            · walk_at "go"
              refine .inl ⟨l, ws, at_, at_.toNat, rfl, rfl, hl7, ?_, ?_⟩
              · unfold ixN
                rw [if_pos a0, if_pos (by omega)]
              · exact ⟨_, _, rfl, m3.mut hw hl nl (TrL.set ty _ m3.tr) (TrL.set ty2 _ m3.tl) (by rw [List.length_set]; omega) (all_set (List.all_eq_true.mp nd _ (List.getElem_mem hlast)) _ nd)⟩
          · walk_at "go"
            exact ⟨_, _, rfl, m3.next (by simpa using c)⟩
        · rintro σ' H8 ⟨ws, xs, rfl, m4⟩
          have hl8 := m4.at_
          walk_at "go"
          refine s_tupL hl8 fun q hq => ?_
          walk_at "go"
          walk_at "al"
          intro m5 f5
          walk_at "go"
          have nq : q ≠ p := m4.bx.ne hq
          have eq := Ex.new (o := HO.tup ws) hq
          have e2 := eq.trans (Ex.new (o := HO.lst [V.ref q, V.ref l]) f5)
          by_cases c : way = 4
          · have cd : decide (V.int way = V.int 4) = true := by rw [c]; rfl
            rw [cd]
            refine s_ixB (s_ixL (xs := [V.ref q, V.ref l]) (v := .ref l) upd_same rfl ?_)
            exact k l ws xs _ (m4.but.ex e2) (m4.bx.ex e2) (.inr (e2 _ _ hl8)) nl (m4.tr.ex e2) m4.len m4.nd
          · have cd : decide (V.int way = V.int 4) = false := by simpa using c
            rw [cd]
            refine s_ixB (s_ixL (xs := [V.ref q, V.ref l]) (v := .ref q) upd_same rfl ?_)
            exact k q ws xs _ (m4.but.ex e2) (m4.bx.ex e2) (.inl (Ex.new f5 _ _ upd_same)) nq (m4.tr.ex e2) m4.len m4.nd
end
end Z

namespace Z
open PySem PySem.Spec PyProof.Rows L2 Evl
section
variable (K : PySem.W.Frag) (vs : List V) (H : Hp) (Q : VK) (E : XK)
theorem len_law_told : ∀ vs H Q E, sp_law_told K vs H Q E → vs.length = (["value"] : List Str).length := fun _ _ _ _ ⟨_, _, _, h, _⟩ => by rw [h]; rfl
theorem pure_law_told (X : Exm K) (h : sp_law_told K vs H Q E) : t_law_told K { nx := fun _ H' => Q .non H', rt := Q } (start ["value", "e"] vs) H := by
  obtain ⟨p, v, t, rfl, tr, k1, k2⟩ := h
  show t_law_told K _ [some v, none] H
  unfold t_law_told
  walk_at "go"
  refine ⟨p, v, t, rfl, tr, fun c a us e ha r o w H1 e1 rol => ?_, fun c H' d e hd => ?_⟩
  · walk_at "go"
    walk_at "al"
    intro q hq
    obtain ⟨r1, r2, r3, r4, r5, r6⟩ := rol
    have e2 := Ex.new (o := HO.lst [V.str "told", V.ref r]) hq
    exact k1 c a us e ha q r o w _ (e1.trans e2) ⟨r1, r2, r3, e2 _ _ r4, e2 _ _ r5, e2 _ _ r6⟩ (fresh_back e1 hq) upd_same
  · refine mix_hit X.e_InvalidChange_InvalidChange fun a ha => ?_
    walk_at "go"
    refine xf_at hd ?_
    walk_at "go"
    walk_at "al"
    intro q hq
    exact k2 c q _ (e.trans (Ex.new hq)) upd_same
theorem len_law_roles : ∀ vs H Q E, sp_law_roles K vs H Q E → vs.length = (["change"] : List Str).length := fun _ _ _ _ ⟨_, _, _, _, h, _⟩ => by rw [h]; rfl
theorem pure_law_roles (h : sp_law_roles K vs H Q E) : t_law_roles K { nx := fun _ H' => Q .non H', rt := Q } (start ["change"] vs) H := by
  obtain ⟨p, a, us, ts, rfl, ha, r, c, k⟩ := h
  show t_law_roles K _ [some (.ref a)] H
  unfold t_law_roles
  -- two new lists and their pair
  rcases ch_cases r c with ⟨x, y, rfl⟩ | ⟨x, rfl⟩ | ⟨x, y, z, w, rfl⟩ | ⟨x, y, z, rfl⟩
  · walk_at "go"
    walk_at "al"
    intro m1 f1
    refine s_inF (.inl upd_same) rfl rfl ?_
    walk_at "go"
    walk_at "al"
    intro o ho
    walk_at "go"
    walk_at "al"
    intro w hw
    walk_at "go"
    walk_at "al"
    intro q hq
    walk_at "go"
    walk_at "al"
    intro o2 ho2
    walk_at "go"
    walk_at "al"
    intro w2 hw2
    walk_at "go"
    walk_at "al"
    intro q2 hq2
    walk_at "go"
    walk_at "al"
    intro m2 f2
    have e1 := Ex.new (o := HO.lst [V.str "hang", V.str "take"]) f1
    have e2 := e1.trans (Ex.new (o := HO.lst []) ho)
    have e3 := e2.trans (Ex.new (o := HO.lst [x]) hw)
    walk_at "go"
    refine k q o w _ (by walk_at "ex") ⟨fresh_back e3 hq, fresh_back e1 ho, fresh_back e2 hw, by walk_at "look", by walk_at "look", by walk_at "look"⟩
  · walk_at "go"
    walk_at "al"
    intro m1 f1
    refine s_inF (.inl upd_same) rfl rfl ?_
    walk_at "go"
    walk_at "al"
    intro o2 ho2
    walk_at "go"
    walk_at "al"
    intro w2 hw2
    walk_at "go"
    walk_at "al"
    intro q2 hq2
    walk_at "go"
    walk_at "al"
    intro o ho
    walk_at "go"
    walk_at "al"
    intro w hw
    walk_at "go"
    walk_at "al"
    intro q hq
    walk_at "go"
    walk_at "al"
    intro m2 f2
    have e1 := (((Ex.new (o := HO.lst [V.str "hang", V.str "take"]) f1).trans (Ex.new (o := HO.lst []) ho2)).trans (Ex.new (o := HO.lst [x]) hw2)).trans (Ex.new (o := HO.tup [.ref o2, .ref w2]) hq2)
    have e2 := e1.trans (Ex.new (o := HO.lst [x]) ho)
    have e3 := e2.trans (Ex.new (o := HO.lst []) hw)
    walk_at "go"
    refine k q o w _ (by walk_at "ex") ⟨fresh_back e3 hq, fresh_back e1 ho, fresh_back e2 hw, by walk_at "look", by walk_at "look", by walk_at "look"⟩
  · walk_at "go"
    walk_at "al"
    intro m1 f1
    refine s_inF (.inl upd_same) rfl rfl ?_
    walk_at "go"
    walk_at "al"
    intro o ho
    walk_at "go"
    walk_at "al"
    intro w' hw
    walk_at "go"
    walk_at "al"
    intro q hq
    have e1 := Ex.new (o := HO.lst [V.str "hang", V.str "take"]) f1
    have e2 := e1.trans (Ex.new (o := HO.lst [x]) ho)
    have e3 := e2.trans (Ex.new (o := HO.lst [z, w]) hw)
    refine k q o w' _ (by walk_at "ex") ⟨fresh_back e3 hq, fresh_back e1 ho, fresh_back e2 hw, by walk_at "look", by walk_at "look", by walk_at "look"⟩
  · walk_at "go"
    walk_at "al"
    intro m1 f1
    refine s_inF (.inl upd_same) rfl rfl ?_
    walk_at "go"
    walk_at "al"
    intro o ho
    walk_at "go"
    walk_at "al"
    intro w hw
    walk_at "go"
    walk_at "al"
    intro q hq
    have e1 := Ex.new (o := HO.lst [V.str "hang", V.str "take"]) f1
    have e2 := e1.trans (Ex.new (o := HO.lst [x, y]) ho)
    have e3 := e2.trans (Ex.new (o := HO.lst [z]) hw)
    refine k q o w _ (by walk_at "ex") ⟨fresh_back e3 hq, fresh_back e1 ho, fresh_back e2 hw, by walk_at "look", by walk_at "look", by walk_at "look"⟩
end
end Z

namespace Z
open PySem PySem.Spec PyProof.Rows L2 Evl
theorem oldV_mem {us : List V} {v : V} (h : v ∈ oldV us) : v ∈ us := by
  unfold oldV at h
  split at h <;> simp_all
  all_goals (rcases h with h | h <;> simp [h])
theorem newV_mem {us : List V} {v : V} (h : v ∈ newV us) : v ∈ us := by
  unfold newV at h
  split at h <;> simp_all
  all_goals (rcases h with h | h <;> simp [h])
theorem eqz_self {E : V → V → Bool → Prop} : ∀ {xs : List V}, (∀ v ∈ xs, E v v true) → EqZ E xs xs (xs.map fun _ => true)
  | [], _ => .nil
  | x :: xs, h => .cons (h x (List.mem_cons_self ..)) (eqz_self fun v hv => h v (List.mem_cons_of_mem _ hv))
theorem all_true : ∀ xs : List V, (xs.map fun _ => true).all id = true
  | [] => rfl
  | _ :: xs => by rw [List.map_cons, List.all_cons, all_true xs]; rfl
theorem lst_same {K : PySem.W.Frag} {H : Hp} {a b : Addr} {xs : List V} {n : Nat} (ha : H a = some (.lst xs)) (hb : H b = some (.lst xs)) (ne : a ≠ b) (se : ∀ v ∈ xs, EqI K H n v v true) : EqI K H (n + 1) (.ref a) (.ref b) true := by
  have h := EqR.lst (K := K) (SqL.of ha) (SqL.of hb) rfl (eqz_self se)
  rw [all_true] at h
  exact EqI.rc h ne
theorem rol_same {K : PySem.W.Frag} {H : Hp} {us : List V} {r o w r2 o2 w2 : Addr} {n : Nat} (h : H r = some (.tup [.ref o, .ref w])) (ho : H o = some (.lst (oldV us))) (hw : H w = some (.lst (newV us)))
    (h2 : H r2 = some (.tup [.ref o2, .ref w2])) (ho2 : H o2 = some (.lst (oldV us))) (hw2 : H w2 = some (.lst (newV us))) (n1 : o ≠ o2) (n2 : w ≠ w2) (se : ∀ v ∈ us, EqI K H n v v true) : EqR K H (EqI K H (n + 1)) (.ref r) (.ref r2) true := by
  have e := EqR.tup (K := K) (SqT.of h) (SqT.of h2) (.cons (lst_same ho ho2 n1 fun v hv => se v (oldV_mem hv)) (.cons (lst_same hw hw2 n2 fun v hv => se v (newV_mem hv)) .nil))
  simpa using e
def okT (t : PT) : Prop := ∀ ts, t = .tup ts → ts.all notD = true
theorem tr_of {H : Hp} {p r : Addr} {ws : List V} {xs : List PT} (h : H r = some (.tup ws) ∨ H r = some (.lst ws)) (n : r ≠ p) (l : ws.length ≤ 1000) (t : TrL H p ws xs) (nd : xs.all notD = true) : ∃ t, Tr H p (.ref r) t ∧ okT t := by
  rcases h with h | h
  · exact ⟨_, .tup h n l t, fun ts e => by cases e; exact nd⟩
  · exact ⟨_, .lst h n l t, fun ts e => by cases e⟩
theorem tru_of {K : PySem.W.Frag} {H : Hp} {r : Addr} {ws : List V} (h : H r = some (.tup ws) ∨ H r = some (.lst ws)) : TruV K (.ref r) H (!ws.isEmpty) := by
  rcases h with h | h
  · exact tru_tup h
  · exact tru_lst h
theorem TrL.self {K : PySem.W.Frag} {H : Hp} {p : Addr} {us : List V} {ts : List PT} (r : TrL H p us ts) (n : Nat) : ∀ v ∈ us, EqI K H (n + 1) v v true := fun v hv => by
  obtain ⟨t, _, q⟩ := r.mem v hv
  exact q.self
section
variable (K : PySem.W.Frag) (vs : List V) (H : Hp) (Q : VK) (E : XK)
/-- the turn of the inner loop -/
theorem turn_ok {p : Addr} {v : V} {t : PT} {D : Ends} {a b c d e : Option V} {v6 v7 v8 : Option V} (tr : Tr H p v t) (ok : okT t) (k : ∀ H' w6 w7 w8, Ex H H' → D.nx [a, b, c, d, e, some v, w6, w7, w8] H') :
    tSeq (tAsg (tCall (sp_law_is_change K) [] E0 (tCons (tVar 5) tNil)) (gName 6))
    (tSeq (tAsg (tCall (sp_is_change K) [] E0 (tCons (tVar 5) tNil)) (gName 7))
    (tSeq (tIfS ((tOr (tNot (tB (tCB (rIsi K) (tCons (tVar 7) (tCons (tC (.ty "bool")) tNil))))) (tTest (tOp (rNeA K) (tVar 7) (tVar 6))))) (tRet (tC (.bl false))) tNext)
    (tSeq (tAsg (tCall (sp_law_told K) [] E0 (tCons (tVar 5) tNil)) (gName 8))
    (tSeq (tIfS (tTest (tOp (rNeA K) (tVar 8) (tIf (tB (tVar 6)) (tLst (tCons (tC (.str "told")) (tCons (tCall (sp_law_roles K) [] E0 (tCons (tVar 5) tNil)) tNil))) (tLst (tCons (tC (.str "change")) (tCons (tVar 5) tNil)))))) (tRet (tC (.bl false))) tNext)
    (tIfS (tB (tVar 6)) (tSeq (tDrop (tBM K "list" rAppend (tOp (rIxB K) (tOp (rIxB K) (tVar 8) (tC (.int 1))) (tC (.int 0))) (tCons (tC (.str "late")) tNil)))
    (tIfS (tTest (tOp (rNeA K) (tCall (sp_roles K) [] E0 (tCons (tVar 5) tNil)) (tCall (sp_law_roles K) [] E0 (tCons (tVar 5) tNil)))) (tRet (tC (.bl false))) tNext)) tNext))))) D [a, b, c, d, e, some v, v6, v7, v8] H := by
  walk_at "go"
  refine ⟨p, v, t, rfl, tr, ok, fun H1 e1 => ?_⟩
  walk_at "go"
  refine ⟨p, v, t, rfl, tr.ex e1, fun H2 e2 => ?_⟩
  walk_at "go"
  refine s_isiT (d := .sc (.bl _)) kit_bool ⟨rfl, rfl⟩ ?_
  have e12 := e1.trans e2
  walk_at "go"
  refine s_itef (by simp) ?_
  walk_at "go"
  cases cc : chT t with
  | false =>
    refine ⟨p, v, t, rfl, tr.ex e12, (fun z => by rw [cc] at z; cases z), fun _ q H3 e3 hq => ?_⟩
    walk_at "go"
    walk_at "al"
    intro m hm
    have e13 := e12.trans e3
    have e14 := e13.trans (Ex.new (o := HO.lst [V.str "change", v]) hm)
    have e0 := EqR.lst (K := K) (SqL.of (Ex.new (o := HO.lst [V.str "change", v]) hm _ _ hq)) (SqL.of upd_same) rfl (.cons (EqI.sc (K := K) (n := 59) rfl) (.cons ((tr.ex e14).self (K := K) (n := 59)) .nil))
    refine s_neG e0 ?_
    walk_at "go"
    exact k _ _ _ _ e14
  | true =>
    have ct : tyB "tuple" (tyT t) = true := by
      cases q : tyB "tuple" (tyT t) with
      | true => rfl
      | false => rw [ch_notTup q] at cc; cases cc
    obtain ⟨x, us, ts, rfl, rfl, hx, nx, hl, r⟩ := tup_of tr ct
    refine ⟨p, _, _, rfl, tr.ex e12, fun _ a2 us2 ea ha2 q r1 o1 w1 H3 e3 rol fq hq => ?_, fun z => by rw [cc] at z; cases z⟩
    cases ea
    have hx2 := e12 _ _ hx
    rw [hx2] at ha2
    cases ha2
    obtain ⟨y1, y2, y3, y4, y5, y6⟩ := rol
    have e13 := e12.trans e3
    walk_at "go"
    refine ⟨p, x, us, ts, rfl, e13 _ _ hx, r.ex e13, cc, fun r2 o2 w2 H4 e4 rol2 => ?_⟩
    obtain ⟨z1, z2, z3, z4, z5, z6⟩ := rol2
    walk_at "go"
    walk_at "al"
    intro m hm
    have e34 := e4.trans (Ex.new (o := HO.lst [V.str "told", V.ref r2]) hm)
    have e15 := e13.trans e34
    have n1 : r1 ≠ r2 := ne_of_none y4 z1
    have n2 : o1 ≠ o2 := ne_of_none y5 z2
    have n3 : w1 ≠ w2 := ne_of_none y6 z3
    have em := Ex.new (o := HO.lst [V.str "told", V.ref r2]) hm
    have rs := rol_same (K := K) (n := 58) (e34 _ _ y4) (e34 _ _ y5) (e34 _ _ y6) (em _ _ z4) (em _ _ z5) (em _ _ z6) n2 n3 ((r.ex e15).self 57)
    have e0 := EqR.lst (K := K) (SqL.of (e34 _ _ hq)) (SqL.of upd_same) rfl (.cons (EqI.sc (K := K) (n := 59) rfl) (.cons (EqI.rc (n := 59) rs n1) .nil))
    refine s_neG e0 ?_
    walk_at "go"
    have q5 := e34 _ _ hq
    have r5 := e34 _ _ y4
    have o5 := e34 _ _ y5
    have fo : H o1 = none := fresh_back e12 y2
    generalize hH5 : upd H4 m (HO.lst [V.str "told", V.ref r2]) = H5 at e15 q5 r5 o5 ⊢
    refine s_append o5 (by
      rw [sizeLine_eq]
      have : (oldV us).length ≤ 3 := by unfold oldV; split <;> simp
      omega) ?_
    walk_at "go"
    have e16 : Ex H (upd H5 o1 (.lst (oldV us ++ [V.str "late"]))) := e15.mut fo
    refine ⟨p, _, _, rfl, tr.ex e16, fun _ a3 us3 ea ha3 r3 o3 w3 H7 e7 rol3 => ?_, fun z => by rw [cc] at z; cases z⟩
    cases ea
    rw [e16 _ _ hx] at ha3
    cases ha3
    obtain ⟨p1, p2, p3, p4, p5, p6⟩ := rol3
    have e17 := e16.trans e7
    walk_at "go"
    refine ⟨p, x, us, ts, rfl, e17 _ _ hx, r.ex e17, cc, fun r4 o4 w4 H8 e8 rol4 => ?_⟩
    obtain ⟨q1, q2, q3, q4, q5, q6⟩ := rol4
    have e18 := e17.trans e8
    have rs2 := rol_same (K := K) (n := 59) (e8 _ _ p4) (e8 _ _ p5) (e8 _ _ p6) q4 q5 q6 (ne_of_none p5 q2) (ne_of_none p6 q3) ((r.ex e18).self 58)
    refine s_neG rs2 ?_
    walk_at "go"
    exact k _ _ _ _ e18
end
end Z

namespace Z
open PySem PySem.Spec PyProof.Rows L2 Evl
section
variable (K : PySem.W.Frag) (vs : List V) (H : Hp) (Q : VK) (E : XK)
theorem len_law : ∀ vs H Q E, sp_law K vs H Q E → vs.length = (["script"] : List Str).length := fun _ _ _ _ ⟨_, _, h, _⟩ => by rw [h]; rfl
theorem pure_law (h : sp_law K vs H Q E) : t_law K { nx := fun _ H' => Q .non H', rt := Q } (start ["script", "k", "box", "change", "values", "value", "due", "known", "told"] vs) H := by
  obtain ⟨a, ns, rfl, hs, hn, k⟩ := h
  show t_law K _ [some (.ref a), none, none, none, none, none, none, none, none] H
  unfold t_law
  walk_at "go"
  refine iRng1_of ?_
  walk_at "go"
  refine s_lenLK hs ?_
  walk_at "go"
  have hl : (ns.map V.int).length ≤ 63 := by rw [List.length_map]; exact hn
  generalize hM : (if (if ((ns.map V.int).length : Int) < 16 then ((ns.map V.int).length : Int) else 16) > 2 then (if ((ns.map V.int).length : Int) < 16 then ((ns.map V.int).length : Int) else 16) else 2) = M
  have hM0 : 0 ≤ M ∧ M ≤ 16 := by
    rw [← hM]
    split <;> split <;> omega
  refine ⟨M, rfl, by omega, by omega, ?_⟩
  refine for_range (lo := 0) (n := M.toNat) (fun i σ H2 => Ex H H2 ∧ ∃ v1 v2 v3 v4 v5 v6 v7 v8, σ = [some (.ref a), v1, v2, v3, v4, v5, v6, v7, v8]) ⟨Ex.refl _, _, _, _, _, _, _, _, _, rfl⟩ ?_ ?_
  · rintro i σ H2 hi ⟨e2, v1, v2, v3, v4, v5, v6, v7, v8, rfl⟩
    walk_at "go"
    refine ⟨a, ns, _, rfl, ex_l e2 hs, by omega, by omega, fun c => ?_⟩
    walk_at "go"
    refine ⟨_, rfl, fun p H3 hp e3 B3 => ?_⟩
    have hp0 : H p = none := fresh_back e2 hp
    walk_at "go"
    refine ⟨p, 0, 3, rfl, B3, by omega, by decide, by decide, fun nl H4 ys _ b4 B4 nnl hys yl ynm _ => ?_⟩
    obtain ⟨n1, n2, n3, rfl⟩ : ∃ n1 n2 n3, ys = [n1, n2, n3] := by
      have h3 : ys.length = 3 := by omega
      match ys, h3 with
      | [x, y, z], _ => exact ⟨x, y, z, rfl⟩
    walk_at "go"
    refine ⟨p, nl, 20, n1, n2, n3, rfl, B4, by omega, hys, ynm _ (by simp), ynm _ (by simp), ynm _ (by simp), fun ch cu ct H5 b5 B5 hch nch rch une ul und => ?_⟩
    have b35 := b4.trans b5
    walk_at "go"
    refine ⟨p, ch, 22, cu, ct, rfl, B5, by omega, .inl hch, nch, rch, une, by omega, und, fun r1 w1 x1 H6 b6 B6 hr1 nr1 tr1 l1 nd1 => ?_⟩
    have b36 := b35.trans b6
    walk_at "go"
    refine via (fun v H' => ∃ a2 u2 t2, v = V.ref a2 ∧ But p H6 H' ∧ Bx H' p 28 ∧ (H' a2 = some (.tup u2) ∨ H' a2 = some (.lst u2)) ∧ a2 ≠ p ∧ TrL H' p u2 t2 ∧ u2 ≠ [] ∧ u2.length ≤ 100 ∧ t2.all notD = true) (fun F kF => ?_) ?_
    · refine s_orT ?_
      walk_at "go"
      have hch6 := b6 _ _ hch nch
      refine ⟨p, ch, 25, cu, ct, rfl, B6, by omega, .inl hch6, nch, rch.but b6, une, by omega, und, fun r2 w2 x2 H7 b7 B7 hr2 nr2 tr2 l2 nd2 => ?_⟩
      refine ⟨!w2.isEmpty, tru_of hr2, ?_⟩
      cases ce : w2.isEmpty with
      | false =>
        refine s_itet rfl (kF _ _ ⟨r2, w2, x2, rfl, b7, B7, hr2, nr2, tr2, ?_, by omega, nd2⟩)
        intro z
        rw [z] at ce
        cases ce
      | true =>
        refine s_itef rfl ?_
        walk_at "go"
        walk_at "al"
        intro t hT
        exact kF _ _ ⟨t, [.int 1], [.sc (.int 1)], rfl, b7.new hT, B7.ex (Ex.new hT), .inl upd_same, B7.ne hT, .cons (.sc rfl trivial) .nil, by simp, by simp, rfl⟩
    · rintro v H7 ⟨a2, u2, t2, rfl, b7, B7, h2, na2, tr2, ne2, l2, nd2⟩
      walk_at "go"
      refine ⟨p, a2, 28, u2, t2, rfl, B7, by omega, h2, na2, tr2, ne2, l2, nd2, fun r3 w3 x3 H8 b8 B8 hr3 nr3 tr3 l3 nd3 => ?_⟩
      walk_at "go"
      walk_at "al"
      intro em fem
      walk_at "go"
      walk_at "al"
      intro vl fvl
      have nem : em ≠ p := B8.ne fem
      have B9 : Bx (upd H8 em (.tup [])) p 31 := B8.ex (Ex.new fem)
      have nvl : vl ≠ p := B9.ne fvl
      have b68 := b7.trans b8
      have b38 := b36.trans b68
      have e89 : Ex H8 (upd (upd H8 em (.tup [])) vl (.lst [.ref ch, .ref r1, .ref r3, .ref em])) := (Ex.new fem).trans (Ex.new fvl)
      have B10 : Bx (upd (upd H8 em (.tup [])) vl (.lst [.ref ch, .ref r1, .ref r3, .ref em])) p 31 := B8.ex e89
      have b310 := b38.ex e89
      have hvl3 : H3 vl = none := (b38.new fem).back B9 fvl
      have lift : ∀ {v : V} {t : PT}, Tr H8 p v t → Tr (upd (upd H8 em (.tup [])) vl (.lst [.ref ch, .ref r1, .ref r3, .ref em])) p v t ∧ Tr (upd (upd H8 em (.tup [])) vl (.lst [.ref ch, .ref r1, .ref r3, .ref em])) vl v t := fun {v t} q => by
        have q2 := q.ex (Ex.new (o := HO.tup []) fem)
        exact ⟨q2.ex (Ex.new fvl), (Tr.fresh fvl q2).ex (Ex.new fvl)⟩
      have T1 : ∃ t, (Tr (upd (upd H8 em (.tup [])) vl (.lst [.ref ch, .ref r1, .ref r3, .ref em])) p (.ref ch) t ∧ Tr (upd (upd H8 em (.tup [])) vl (.lst [.ref ch, .ref r1, .ref r3, .ref em])) vl (.ref ch) t) ∧ okT t := by
        obtain ⟨t, q, o⟩ := tr_of (p := p) (.inl hch) nch (by omega) rch und
        exact ⟨t, lift ((q.but b6).but b68), o⟩
      have T2 : ∃ t, (Tr (upd (upd H8 em (.tup [])) vl (.lst [.ref ch, .ref r1, .ref r3, .ref em])) p (.ref r1) t ∧ Tr (upd (upd H8 em (.tup [])) vl (.lst [.ref ch, .ref r1, .ref r3, .ref em])) vl (.ref r1) t) ∧ okT t := by
        obtain ⟨t, q, o⟩ := tr_of (p := p) hr1 nr1 (by omega) tr1 nd1
        exact ⟨t, lift (q.but b68), o⟩
      have T3 : ∃ t, (Tr (upd (upd H8 em (.tup [])) vl (.lst [.ref ch, .ref r1, .ref r3, .ref em])) p (.ref r3) t ∧ Tr (upd (upd H8 em (.tup [])) vl (.lst [.ref ch, .ref r1, .ref r3, .ref em])) vl (.ref r3) t) ∧ okT t := by
        obtain ⟨t, q, o⟩ := tr_of (p := p) hr3 nr3 (by omega) tr3 nd3
        exact ⟨t, lift q, o⟩
      have T4 : ∃ t, (Tr (upd (upd H8 em (.tup [])) vl (.lst [.ref ch, .ref r1, .ref r3, .ref em])) p (.ref em) t ∧ Tr (upd (upd H8 em (.tup [])) vl (.lst [.ref ch, .ref r1, .ref r3, .ref em])) vl (.ref em) t) ∧ okT t :=
        ⟨_, ⟨.tup (Ex.new fvl _ _ upd_same) nem (by show 0 ≤ 1000; decide) .nil, .tup (Ex.new fvl _ _ upd_same) (ne_of_none upd_same fvl) (by show 0 ≤ 1000; decide) .nil⟩, fun ts e => by cases e; rfl⟩
      clear lift
      have hvl : upd (upd H8 em (.tup [])) vl (.lst [.ref ch, .ref r1, .ref r3, .ref em]) vl = some (.lst [.ref ch, .ref r1, .ref r3, .ref em]) := upd_same
      generalize upd (upd H8 em (.tup [])) vl (.lst [.ref ch, .ref r1, .ref r3, .ref em]) = H9 at T1 T2 T3 T4 hvl B10 b310 ⊢
      clear b68 b38 e89 B9 b7 b8 b6 b36 b35
      walk_at "go"
      walk_at "al"
      intro t1 f1
      walk_at "go"
      intro t2 f2
      walk_at "go"
      walk_at "al"
      intro t3 f3
      walk_at "go"
      walk_at "al"
      intro t4 f4
      walk_at "go"
      walk_at "al"
      intro t5 f5
      walk_at "go"
      walk_at "al"
      intro m1 g1
      walk_at "go"
      refine menu_of (m := 7) (H0 := H9) (n := 31) (by walk_at "but") (by walk_at "bx") (by omega) rfl (by decide) (by decide +kernel) (fun od H10 hod b10 c10 B11 => ?_) m1 g1
      have N1 : t1 ≠ p := by walk_at "ne"
      have N2 : t2 ≠ p := by walk_at "ne"
      have N3 : t3 ≠ p := by walk_at "ne"
      have N4 : t4 ≠ p := by walk_at "ne"
      have N5 : t5 ≠ p := by walk_at "ne"
      have i1 : H10 t1 = some (.lst [.str "take", .str "a"]) := c10 _ _ (by walk_at "look") N1
      have i2 : H10 t2 = some (.dK []) := c10 _ _ (by walk_at "look") N2
      have i3 : H10 t3 = some (.tup [.str "take"]) := c10 _ _ (by walk_at "look") N3
      have i4 : H10 t4 = some (.tup [.ref t3]) := c10 _ _ (by walk_at "look") N4
      have i5 : H10 t5 = some (.tup [.str "take"]) := c10 _ _ (by walk_at "look") N5
      have P1 : t1 ≠ vl := (ne_of_none hvl f1).symm
      have P2 : t2 ≠ vl := by
        intro z
        rw [z, Ex.new f1 _ _ hvl] at f2
        cases f2
      have P3 : t3 ≠ vl := by
        intro z
        rw [z, Ex.new f2 _ _ (Ex.new f1 _ _ hvl)] at f3
        cases f3
      have P4 : t4 ≠ vl := by
        intro z
        rw [z, Ex.new f3 _ _ (Ex.new f2 _ _ (Ex.new f1 _ _ hvl))] at f4
        cases f4
      have P5 : t5 ≠ vl := by
        intro z
        rw [z, Ex.new f4 _ _ (Ex.new f3 _ _ (Ex.new f2 _ _ (Ex.new f1 _ _ hvl)))] at f5
        cases f5
      have str : ∀ (s : Str) (q : Addr), s.length ≤ 1000 → Tr H10 q (.str s) (.sc (.str s)) := fun s q hs => .sc rfl hs
      have T5 : ∃ t, (∀ q, t1 ≠ q → t2 ≠ q → t3 ≠ q → t4 ≠ q → t5 ≠ q → Tr H10 q od t) ∧ okT t := by
        simp only [List.mem_cons, List.mem_nil_iff, or_false] at hod
        rcases hod with rfl | rfl | rfl | rfl | rfl | rfl | rfl
        · exact ⟨_, fun q _ _ _ _ _ => .sc rfl trivial, fun ts e => by cases e⟩
        · exact ⟨_, fun q _ _ _ _ _ => .sc rfl trivial, fun ts e => by cases e⟩
        · exact ⟨_, fun q _ _ _ _ _ => str _ q (by decide), fun ts e => by cases e⟩
        · exact ⟨_, fun q q1 q2 q3 q4 q5 => .lst i1 q1 (by show 2 ≤ 1000; decide) (.cons (str _ q (by decide)) (.cons (str _ q (by decide)) .nil)), fun ts e => by cases e⟩
        · exact ⟨_, fun q q1 q2 q3 q4 q5 => .dct i2 q2, fun ts e => by cases e⟩
        · exact ⟨_, fun q q1 q2 q3 q4 q5 => .tup i4 q4 (by show 1 ≤ 1000; decide) (.cons (.tup i3 q3 (by show 1 ≤ 1000; decide) (.cons (str _ q (by decide)) .nil)) .nil), fun ts e => by cases e; rfl⟩
        · exact ⟨_, fun q q1 q2 q3 q4 q5 => .tup i5 q5 (by show 1 ≤ 1000; decide) (.cons (str _ q (by decide)) .nil), fun ts e => by cases e; rfl⟩
      have hvl10 := b10 _ _ hvl nvl
      clear c10
      have b311 : But p H3 (upd H10 vl (.lst ([.ref ch, .ref r1, .ref r3, .ref em] ++ [od]))) := (b310.trans b10).newD hvl3
      have all : ∀ v ∈ [V.ref ch, V.ref r1, V.ref r3, V.ref em] ++ [od], ∃ t, Tr (upd H10 vl (.lst ([.ref ch, .ref r1, .ref r3, .ref em] ++ [od]))) p v t ∧ okT t := fun v hv => by
        have up : ∀ {t : PT}, Tr H10 p v t → Tr H10 vl v t → Tr (upd H10 vl (.lst ([.ref ch, .ref r1, .ref r3, .ref em] ++ [od]))) p v t := fun {t} x y => x.mv2 (fun a o e _ n => by rw [upd_ne n]; exact e) y
        have on : ∀ {t : PT}, (Tr H9 p v t ∧ Tr H9 vl v t) ∧ okT t → ∃ t, Tr (upd H10 vl (.lst ([.ref ch, .ref r1, .ref r3, .ref em] ++ [od]))) p v t ∧ okT t := fun {t} ⟨⟨x, y⟩, o⟩ =>
          ⟨t, up (x.but b10) (y.mv2 (q := p) (fun a o e _ n => b10 _ _ e n) x), o⟩
        simp only [List.mem_append, List.mem_cons, List.mem_nil_iff, or_false] at hv
        rcases hv with (rfl | rfl | rfl | rfl) | rfl
        · exact on T1.choose_spec
        · exact on T2.choose_spec
        · exact on T3.choose_spec
        · exact on T4.choose_spec
        · obtain ⟨t, q, o⟩ := T5
          exact ⟨t, up (q p N1 N2 N3 N4 N5) (q vl P1 P2 P3 P4 P5), o⟩
      walk_at "go"
      refine s_append hvl10 (by rw [sizeLine_eq]; simp) ?_
      walk_at "go"
      refine iAny_lst ?_
      walk_at "go"
      refine ⟨vl, rfl, ⟨_, SqL.of upd_same⟩, for_list (K := K) (a := vl) (xs := [V.ref ch, V.ref r1, V.ref r3, V.ref em] ++ [od])
        (fun j σ H12 => Ex (upd H10 vl (.lst ([.ref ch, .ref r1, .ref r3, .ref em] ++ [od]))) H12 ∧ ∃ w5 w6 w7 w8, σ = [some (.ref a), some (.int (0 + (i : Int))), some (.ref p), some (.ref ch), some (.ref vl), w5, w6, w7, w8])
        ⟨Ex.refl _, _, _, _, _, rfl⟩ (fun j σ H12 _ ⟨e, _⟩ => SqL.of (e _ _ upd_same)) ?_ ?_⟩
      · rintro j x σ H12 hj ⟨e12, w5, w6, w7, w8, rfl⟩
        obtain ⟨t, q, o⟩ := all x (List.mem_of_getElem? hj)
        refine s_gName ?_
        exact turn_ok K H12 (q.ex e12) o fun H' u6 u7 u8 e => ⟨e12.trans e, _, _, _, _, rfl⟩
      · rintro σ H12 ⟨e12, w5, w6, w7, w8, rfl⟩
        exact ⟨But.old hp0 (e2.trans e3) (b311.ex e12), _, _, _, _, _, _, _, _, rfl⟩
  · rintro σ H2 ⟨e2, v1, v2, v3, v4, v5, v6, v7, v8, rfl⟩
    walk_at "go"
    exact k _
end
end Z

namespace Z
open PySem PySem.Spec PyProof.Rows L2 Evl
/-! ### the text by places, derivations (gen.py) -/
def top (i : Nat) : Stmt := PySem.Challenge.pw_shiftparts_k11_changes_and_roles.main.body.getD i (.Pass ⟨0, 0, 0, 0⟩)
structure Txt (P : Program) (K : PySem.W.Frag) (mg : Str → Option Value) : Prop where
  b_all : mg "all" = none
  b_bool : mg "bool" = none
  b_int : mg "int" = none
  b_isinstance : mg "isinstance" = none
  b_len : mg "len" = none
  b_list : mg "list" = none
  b_max : mg "max" = none
  b_min : mg "min" = none
  b_range : mg "range" = none
  b_str : mg "str" = none
  b_super : mg "super" = none
  b_tuple : mg "tuple" = none
  c_HANG : ∃ t, mg "HANG" = some (.str "hang" t)
  g_InvalidChange : mg "InvalidChange" = some (.ref (He.ga K "InvalidChange"))
  c_JOIN : ∃ t, mg "JOIN" = some (.str "join" t)
  c_LETTERS : ∃ t, mg "LETTERS" = some (.str "abcdefghijklmnopqrstuvwxyz" t)
  c_MOST_LETTERS : ∃ t, mg "MOST_LETTERS" = some (.int 8 t)
  c_SPLIT : ∃ t, mg "SPLIT" = some (.str "split" t)
  c_TABLE : ∃ t, mg "TABLE" = some (.str "table" t)
  c_TAKE : ∃ t, mg "TAKE" = some (.str "take" t)
  x_InvalidChange : PySem.Sxvalue.Txt P K mg "InvalidChange" (He.ga K "InvalidChange") (He.ma K (He.ga K "InvalidChange") "__init__")
  xf_InvalidChange : XfC K (He.ga K "InvalidChange")
  na_InvalidChange_value : PySem.W.findIn K (.ref (He.ga K "InvalidChange")) "value" = some none
  exm : Exm K
section
variable {P : Program} {w : World} {K : PySem.W.Frag} {mg : Str → Option Value} {base : Heap}
abbrev s_is_integer : Stmt := top 7
theorem sc_is_integer : FnScope ["value"] ["value"] (defScope s_is_integer) := ⟨rfl, rfl, rfl, by decide +kernel, rfl, by decide +kernel, by decide +kernel⟩
theorem okf_is_integer {fd : FuncData} (T : Txt P K mg) (F : FunD K "is_integer" "is_integer" (defArgs s_is_integer) (defBody s_is_integer) (defScope s_is_integer) [] [] (He.ga K "is_integer") fd)   : FnOk P w K mg base CX0 1 (He.ga K "is_integer") fd ["value"] (sp_is_integer K) := by
  have nd := sc_is_integer.nd
  refine F.ok (k := 0) sc_is_integer (len_is_integer K) (fun cdv A outer s H vs Q E hr h => ⟨t_is_integer K, PSs.nox ?_, pure_is_integer K vs H Q E h⟩)
  have hu : (A.deeper (envOfC "is_integer" (defScope s_is_integer) s.heap.objs.size (He.ga K "is_integer") cdv)).units + 64 < cLine := by
    have h1 := hr.un
    omega
  exact (pss_one (ps_ret ((pe_and (pe_callB call_isi (by rfl) T.b_isinstance (by decide +kernel) (pa_cons (pv 0) (pa_cons (pe_bltn (by rfl) T.b_int (by decide +kernel) rfl) pa_nil))) (pe_one (pe_not (pe_callB call_isi (by rfl) T.b_isinstance (by decide +kernel) (pa_cons (pv 0) (pa_cons (pe_bltn (by rfl) T.b_bool (by decide +kernel) rfl) pa_nil)))))))))
theorem ok_is_integer (T : Txt P K mg) (FD : ∃ fd, FunD K "is_integer" "is_integer" (defArgs s_is_integer) (defBody s_is_integer) (defScope s_is_integer) [] [] (He.ga K "is_integer") fd) (hm : mg "is_integer" = some (.ref (He.ga K "is_integer")))   : Fok P w K mg base CX0 1 "is_integer" ["value"] (sp_is_integer K) := by
  obtain ⟨fd, F⟩ := FD
  exact ⟨⟨fd, okf_is_integer T F  , F.bindsN fun _ _ _ _ _ _ us hl => match us, hl with | [_], _ => rfl⟩, hm, F.kp⟩
abbrev s_is_name : Stmt := top 8
theorem sc_is_name : FnScope ["value", "sign"] ["value"] (defScope s_is_name) := ⟨rfl, rfl, rfl, by decide +kernel, rfl, by decide +kernel, by decide +kernel⟩
theorem okf_is_name {fd : FuncData} (T : Txt P K mg) (F : FunD K "is_name" "is_name" (defArgs s_is_name) (defBody s_is_name) (defScope s_is_name) [] [] (He.ga K "is_name") fd)   : FnOk P w K mg base CX0 1 (He.ga K "is_name") fd ["value"] (sp_is_name K) := by
  have nd := sc_is_name.nd
  refine F.ok (k := 0) sc_is_name (len_is_name K) (fun cdv A outer s H vs Q E hr h => ⟨t_is_name K, PSs.nox ?_, pure_is_name K vs H Q E h⟩)
  have hu : (A.deeper (envOfC "is_name" (defScope s_is_name) s.heap.objs.size (He.ga K "is_name") cdv)).units + 64 < cLine := by
    have h1 := hr.un
    omega
  exact (pss_cons (ps_if (PW.pt (pw_or (pt_not (pt_val (pe_callB call_isi (by rfl) T.b_isinstance (by decide +kernel) (pa_cons (pv 0) (pa_cons (pe_bltn (by rfl) T.b_str (by decide +kernel) rfl) pa_nil))))) (pw_or (pt_cmpR (op_eqA hu) (pv 0) (pe_gstr (by rfl) T.c_TABLE) (nomark _)) (pw_or1 (pt_not (pt_chain op_leA op_leA (pe_int) (pe_callB call_lenA (by rfl) T.b_len (by decide +kernel) (pa_cons (pv 0) pa_nil)) (pe_gint (by rfl) T.c_MOST_LETTERS))))))) (pss_one (ps_ret (pe_bl))) pss_nil)
    (pss_one (ps_ret (pe_callB (cr_all rfl) (by rfl) T.b_all (by decide +kernel) (pa_cons (pe_lc (own := [("sign", 1)]) rfl nd (pi_any (pv 0)) (blkOk_by (own := [("sign", 1)]) (N := ["value", "sign"]) (sc := defScope s_is_name) (by decide +kernel)) (fun _ _ _ _ _ => (pg_name (i := 1) nd (by rfl) (by first | exact Or.inl rfl | exact Or.inr rfl))) (fun _ _ _ _ _ => pts_nil) (fun _ _ _ _ _ => (pe_cmpR (op_inB hu) (pv 1) (pe_gstr (by rfl) T.c_LETTERS) (by rfl)))) pa_nil)))))
theorem ok_is_name (T : Txt P K mg) (FD : ∃ fd, FunD K "is_name" "is_name" (defArgs s_is_name) (defBody s_is_name) (defScope s_is_name) [] [] (He.ga K "is_name") fd) (hm : mg "is_name" = some (.ref (He.ga K "is_name")))   : Fok P w K mg base CX0 1 "is_name" ["value"] (sp_is_name K) := by
  obtain ⟨fd, F⟩ := FD
  exact ⟨⟨fd, okf_is_name T F  , F.bindsN fun _ _ _ _ _ _ us hl => match us, hl with | [_], _ => rfl⟩, hm, F.kp⟩
abbrev s_is_limit : Stmt := top 9
theorem sc_is_limit : FnScope ["value"] ["value"] (defScope s_is_limit) := ⟨rfl, rfl, rfl, by decide +kernel, rfl, by decide +kernel, by decide +kernel⟩
theorem okf_is_limit {fd : FuncData} (T : Txt P K mg) (F : FunD K "is_limit" "is_limit" (defArgs s_is_limit) (defBody s_is_limit) (defScope s_is_limit) [] [] (He.ga K "is_limit") fd) (F_is_integer : Fok P w K mg base CX0 1 "is_integer" ["value"] (sp_is_integer K))  : FnOk P w K mg base CX0 2 (He.ga K "is_limit") fd ["value"] (sp_is_limit K) := by
  have nd := sc_is_limit.nd
  refine F.ok (k := 1) sc_is_limit (len_is_limit K) (fun cdv A outer s H vs Q E hr h => ⟨t_is_limit K, PSs.nox ?_, pure_is_limit K vs H Q E h⟩)
  have hu : (A.deeper (envOfC "is_limit" (defScope s_is_limit) s.heap.objs.size (He.ga K "is_limit") cdv)).units + 64 < cLine := by
    have h1 := hr.un
    omega
  exact (pss_one (ps_ret ((pe_or (pe_cmpR op_isA (pv 0) (pe_non) (nomark _)) (pe_one (pe_callF F_is_integer (hr.mono (by decide)) (by rfl) pass0 (pa_cons (pv 0) pa_nil)))))))
theorem ok_is_limit (T : Txt P K mg) (FD : ∃ fd, FunD K "is_limit" "is_limit" (defArgs s_is_limit) (defBody s_is_limit) (defScope s_is_limit) [] [] (He.ga K "is_limit") fd) (hm : mg "is_limit" = some (.ref (He.ga K "is_limit"))) (F_is_integer : Fok P w K mg base CX0 1 "is_integer" ["value"] (sp_is_integer K))  : Fok P w K mg base CX0 2 "is_limit" ["value"] (sp_is_limit K) := by
  obtain ⟨fd, F⟩ := FD
  exact ⟨⟨fd, okf_is_limit T F F_is_integer , F.bindsN fun _ _ _ _ _ _ us hl => match us, hl with | [_], _ => rfl⟩, hm, F.kp⟩
abbrev s_is_span : Stmt := top 10
theorem sc_is_span : FnScope ["value", "low", "high"] ["value"] (defScope s_is_span) := ⟨rfl, rfl, rfl, by decide +kernel, rfl, by decide +kernel, by decide +kernel⟩
theorem okf_is_span {fd : FuncData} (T : Txt P K mg) (F : FunD K "is_span" "is_span" (defArgs s_is_span) (defBody s_is_span) (defScope s_is_span) [] [] (He.ga K "is_span") fd) (F_is_limit : Fok P w K mg base CX0 2 "is_limit" ["value"] (sp_is_limit K))  : FnOk P w K mg base CX0 3 (He.ga K "is_span") fd ["value"] (sp_is_span K) := by
  have nd := sc_is_span.nd
  refine F.ok (k := 2) sc_is_span (len_is_span K) (fun cdv A outer s H vs Q E hr h => ⟨t_is_span K, PSs.nox ?_, pure_is_span K vs H Q E h⟩)
  have hu : (A.deeper (envOfC "is_span" (defScope s_is_span) s.heap.objs.size (He.ga K "is_span") cdv)).units + 64 < cLine := by
    have h1 := hr.un
    omega
  exact (pss_cons (ps_if (PW.pt (pw_or (pt_not (pt_val (pe_callB call_isi (by rfl) T.b_isinstance (by decide +kernel) (pa_cons (pv 0) (pa_cons (pe_bltn (by rfl) T.b_tuple (by decide +kernel) rfl) pa_nil))))) (pw_or1 (pt_cmpR (op_neA hu) (pe_callB call_lenA (by rfl) T.b_len (by decide +kernel) (pa_cons (pv 0) pa_nil)) (pe_int) (nomark _))))) (pss_one (ps_ret (pe_bl))) pss_nil)
    (pss_cons (ps_asg (pv 0) (pg_tup (by rfl) (pgs_cons (pg_name (i := 1) nd (by rfl) (by first | exact Or.inl rfl | exact Or.inr rfl)) (pgs_cons (pg_name (i := 2) nd (by rfl) (by first | exact Or.inl rfl | exact Or.inr rfl)) pgs_nil))))
    (pss_cons (ps_if (PW.pt (pw_or (pt_not (pt_val (pe_callF F_is_limit (hr.mono (by decide)) (by rfl) pass0 (pa_cons (pv 1) pa_nil)))) (pw_or1 (pt_not (pt_val (pe_callF F_is_limit (hr.mono (by decide)) (by rfl) pass0 (pa_cons (pv 2) pa_nil))))))) (pss_one (ps_ret (pe_bl))) pss_nil)
    (pss_one (ps_ret ((pe_or (pe_cmpR op_isA (pv 1) (pe_non) (nomark _)) (pe_or (pe_cmpR op_isA (pv 2) (pe_non) (nomark _)) (pe_one (pe_cmpR op_ltA (pv 1) (pv 2) (nomark _)))))))))))
theorem ok_is_span (T : Txt P K mg) (FD : ∃ fd, FunD K "is_span" "is_span" (defArgs s_is_span) (defBody s_is_span) (defScope s_is_span) [] [] (He.ga K "is_span") fd) (hm : mg "is_span" = some (.ref (He.ga K "is_span"))) (F_is_limit : Fok P w K mg base CX0 2 "is_limit" ["value"] (sp_is_limit K))  : Fok P w K mg base CX0 3 "is_span" ["value"] (sp_is_span K) := by
  obtain ⟨fd, F⟩ := FD
  exact ⟨⟨fd, okf_is_span T F F_is_limit , F.bindsN fun _ _ _ _ _ _ us hl => match us, hl with | [_], _ => rfl⟩, hm, F.kp⟩
abbrev s_are_names : Stmt := top 16
theorem sc_are_names : FnScope ["names", "name", "at"] ["names"] (defScope s_are_names) := ⟨rfl, rfl, rfl, by decide +kernel, rfl, by decide +kernel, by decide +kernel⟩
theorem okf_are_names {fd : FuncData} (T : Txt P K mg) (F : FunD K "are_names" "are_names" (defArgs s_are_names) (defBody s_are_names) (defScope s_are_names) [] [] (He.ga K "are_names") fd) (F_is_name : Fok P w K mg base CX0 1 "is_name" ["value"] (sp_is_name K))  : FnOk P w K mg base CX0 2 (He.ga K "are_names") fd ["names"] (sp_are_names K) := by
  have nd := sc_are_names.nd
  refine F.ok (k := 1) sc_are_names (len_are_names K) (fun cdv A outer s H vs Q E hr h => ⟨t_are_names K, PSs.nox ?_, pure_are_names K vs H Q E h⟩)
  have hu : (A.deeper (envOfC "are_names" (defScope s_are_names) s.heap.objs.size (He.ga K "are_names") cdv)).units + 64 < cLine := by
    have h1 := hr.un
    omega
  exact (pss_cons (ps_if (pt_not (pt_val (pe_callB (cr_all rfl) (by rfl) T.b_all (by decide +kernel) (pa_cons (pe_lc (own := [("name", 1)]) rfl nd (pi_any (pv 0)) (blkOk_by (own := [("name", 1)]) (N := ["names", "name", "at"]) (sc := defScope s_are_names) (by decide +kernel)) (fun _ _ _ _ _ => (pg_name (i := 1) nd (by rfl) (by first | exact Or.inl rfl | exact Or.inr rfl))) (fun _ _ _ _ _ => pts_nil) (fun _ _ _ _ _ => (pe_callF F_is_name (hr.mono (by decide)) (by rfl) pass0 (pa_cons (pv 1) pa_nil)))) pa_nil)))) (pss_one (ps_ret (pe_bl))) pss_nil)
    (pss_one (ps_ret (pe_callB (cr_all rfl) (by rfl) T.b_all (by decide +kernel) (pa_cons (pe_lc (own := [("at", 2)]) rfl nd (pi_range1 (by rfl) T.b_range (pa_cons (pe_callB call_lenA (by rfl) T.b_len (by decide +kernel) (pa_cons (pv 0) pa_nil)) pa_nil)) (blkOk_by (own := [("at", 2)]) (N := ["names", "name", "at"]) (sc := defScope s_are_names) (by decide +kernel)) (fun _ _ _ _ _ => (pg_name (i := 2) nd (by rfl) (by first | exact Or.inl rfl | exact Or.inr rfl))) (fun _ _ _ _ _ => pts_nil) (fun _ _ _ _ _ => (pe_cmpR (op_ninB hu) (pe_ix (ix_B hu) (pv 0) (pv 2) (fun _ _ => rfl)) (pe_slice sl_A (pv 0) po_none (po_some (pv 2))) (by rfl)))) pa_nil)))))
theorem ok_are_names (T : Txt P K mg) (FD : ∃ fd, FunD K "are_names" "are_names" (defArgs s_are_names) (defBody s_are_names) (defScope s_are_names) [] [] (He.ga K "are_names") fd) (hm : mg "are_names" = some (.ref (He.ga K "are_names"))) (F_is_name : Fok P w K mg base CX0 1 "is_name" ["value"] (sp_is_name K))  : Fok P w K mg base CX0 2 "are_names" ["names"] (sp_are_names K) := by
  obtain ⟨fd, F⟩ := FD
  exact ⟨⟨fd, okf_are_names T F F_is_name , F.bindsN fun _ _ _ _ _ _ us hl => match us, hl with | [_], _ => rfl⟩, hm, F.kp⟩
abbrev s_is_change : Stmt := top 17
theorem sc_is_change : FnScope ["value", "kind", "given"] ["value"] (defScope s_is_change) := ⟨rfl, rfl, rfl, by decide +kernel, rfl, by decide +kernel, by decide +kernel⟩
theorem okf_is_change {fd : FuncData} (T : Txt P K mg) (F : FunD K "is_change" "is_change" (defArgs s_is_change) (defBody s_is_change) (defScope s_is_change) [] [] (He.ga K "is_change") fd) (F_is_name : Fok P w K mg base CX0 1 "is_name" ["value"] (sp_is_name K)) (F_is_span : Fok P w K mg base CX0 3 "is_span" ["value"] (sp_is_span K)) (F_is_integer : Fok P w K mg base CX0 1 "is_integer" ["value"] (sp_is_integer K)) (F_are_names : Fok P w K mg base CX0 2 "are_names" ["names"] (sp_are_names K))  : FnOk P w K mg base CX0 4 (He.ga K "is_change") fd ["value"] (sp_is_change K) := by
  have nd := sc_is_change.nd
  refine F.ok (k := 3) sc_is_change (len_is_change K) (fun cdv A outer s H vs Q E hr h => ⟨t_is_change K, PSs.nox ?_, pure_is_change K vs H Q E h⟩)
  have hu : (A.deeper (envOfC "is_change" (defScope s_is_change) s.heap.objs.size (He.ga K "is_change") cdv)).units + 64 < cLine := by
    have h1 := hr.un
    omega
  exact (pss_cons (ps_if (PW.pt (pw_or (pt_not (pt_val (pe_callB call_isi (by rfl) T.b_isinstance (by decide +kernel) (pa_cons (pv 0) (pa_cons (pe_bltn (by rfl) T.b_tuple (by decide +kernel) rfl) pa_nil))))) (pw_or (pt_cmpR (op_eqA hu) (pe_callB call_lenA (by rfl) T.b_len (by decide +kernel) (pa_cons (pv 0) pa_nil)) (pe_int) (nomark _)) (pw_or1 (pt_not (pt_val (pe_callB call_isi (by rfl) T.b_isinstance (by decide +kernel) (pa_cons (pe_ix (ix_B hu) (pv 0) (pe_int) (fun _ _ => rfl)) (pa_cons (pe_bltn (by rfl) T.b_str (by decide +kernel) rfl) pa_nil))))))))) (pss_one (ps_ret (pe_bl))) pss_nil)
    (pss_cons (ps_asg (pv 0) (pg_star (by rfl) (pgs_cons (pg_name (i := 1) nd (by rfl) (by first | exact Or.inl rfl | exact Or.inr rfl)) (pgs_cons (pg_name (i := 2) nd (by rfl) (by first | exact Or.inl rfl | exact Or.inr rfl)) pgs_nil))))
    (pss_cons (ps_if (pt_cmpR (op_eqA hu) (pv 1) (pe_gstr (by rfl) T.c_HANG) (nomark _)) (pss_one (ps_ret ((pe_and (pe_cmpR (op_eqA hu) (pe_callB call_lenA (by rfl) T.b_len (by decide +kernel) (pa_cons (pv 2) pa_nil)) (pe_int) (nomark _)) (pe_and (pe_callF F_is_name (hr.mono (by decide)) (by rfl) pass0 (pa_cons (pe_ix (ix_B hu) (pv 2) (pe_int) (fun _ _ => rfl)) pa_nil)) (pe_one (pe_callF F_is_span (hr.mono (by decide)) (by rfl) pass0 (pa_cons (pe_ix (ix_B hu) (pv 2) (pe_int) (fun _ _ => rfl)) pa_nil)))))))) pss_nil)
    (pss_cons (ps_if (pt_cmpR (op_eqA hu) (pv 1) (pe_gstr (by rfl) T.c_TAKE) (nomark _)) (pss_one (ps_ret ((pe_and (pe_cmpR (op_eqA hu) (pe_callB call_lenA (by rfl) T.b_len (by decide +kernel) (pa_cons (pv 2) pa_nil)) (pe_int) (nomark _)) (pe_one (pe_callF F_is_name (hr.mono (by decide)) (by rfl) pass0 (pa_cons (pe_ix (ix_B hu) (pv 2) (pe_int) (fun _ _ => rfl)) pa_nil))))))) pss_nil)
    (pss_cons (ps_if (pt_cmpR (op_eqA hu) (pv 1) (pe_gstr (by rfl) T.c_SPLIT) (nomark _)) (pss_one (ps_ret ((pe_and (pe_cmpR (op_eqA hu) (pe_callB call_lenA (by rfl) T.b_len (by decide +kernel) (pa_cons (pv 2) pa_nil)) (pe_int) (nomark _)) (pe_and (pe_callF F_is_integer (hr.mono (by decide)) (by rfl) pass0 (pa_cons (pe_ix (ix_B hu) (pv 2) (pe_int) (fun _ _ => rfl)) pa_nil)) (pe_one (pe_callF F_are_names (hr.mono (by decide)) (by rfl) pass0 (pa_cons (pe_lst (pa_cons (pe_ix (ix_B hu) (pv 2) (pe_int) (fun _ _ => rfl)) (pa_cons (pe_ix (ix_B hu) (pv 2) (pe_int) (fun _ _ => rfl)) (pa_cons (pe_ix (ix_B hu) (pv 2) (pe_int) (fun _ _ => rfl)) pa_nil)))) pa_nil)))))))) pss_nil)
    (pss_one (ps_ret ((pe_and (pe_cmpR (op_eqA hu) (pv 1) (pe_gstr (by rfl) T.c_JOIN) (nomark _)) (pe_and (pe_cmpR (op_eqA hu) (pe_callB call_lenA (by rfl) T.b_len (by decide +kernel) (pa_cons (pv 2) pa_nil)) (pe_int) (nomark _)) (pe_one (pe_callF F_are_names (hr.mono (by decide)) (by rfl) pass0 (pa_cons (pv 2) pa_nil)))))))))))))
theorem ok_is_change (T : Txt P K mg) (FD : ∃ fd, FunD K "is_change" "is_change" (defArgs s_is_change) (defBody s_is_change) (defScope s_is_change) [] [] (He.ga K "is_change") fd) (hm : mg "is_change" = some (.ref (He.ga K "is_change"))) (F_is_name : Fok P w K mg base CX0 1 "is_name" ["value"] (sp_is_name K)) (F_is_span : Fok P w K mg base CX0 3 "is_span" ["value"] (sp_is_span K)) (F_is_integer : Fok P w K mg base CX0 1 "is_integer" ["value"] (sp_is_integer K)) (F_are_names : Fok P w K mg base CX0 2 "are_names" ["names"] (sp_are_names K))  : Fok P w K mg base CX0 4 "is_change" ["value"] (sp_is_change K) := by
  obtain ⟨fd, F⟩ := FD
  exact ⟨⟨fd, okf_is_change T F F_is_name F_is_span F_is_integer F_are_names , F.bindsN fun _ _ _ _ _ _ us hl => match us, hl with | [_], _ => rfl⟩, hm, F.kp⟩
abbrev s_need_change : Stmt := top 18
theorem sc_need_change : FnScope ["change"] ["change"] (defScope s_need_change) := ⟨rfl, rfl, rfl, by decide +kernel, rfl, by decide +kernel, by decide +kernel⟩
theorem okf_need_change {fd : FuncData} (T : Txt P K mg) (F : FunD K "need_change" "need_change" (defArgs s_need_change) (defBody s_need_change) (defScope s_need_change) [] [] (He.ga K "need_change") fd) (F_is_change : Fok P w K mg base CX0 4 "is_change" ["value"] (sp_is_change K))  : FnOk P w K mg base (L2.CX P w) 5 (He.ga K "need_change") fd ["change"] (sp_need_change K) := by
  have nd := sc_need_change.nd
  refine F.ok (k := 4) sc_need_change (len_need_change K) (fun cdv A outer s H vs Q E hr h => ⟨t_need_change K E, ?_, pure_need_change K vs H Q E h⟩)
  have hu : (A.deeper (envOfC "need_change" (defScope s_need_change) s.heap.objs.size (He.ga K "need_change") cdv)).units + 64 < cLine := by
    have h1 := hr.un
    omega
  exact (pss_one (ps_if (pt_not (pt_val (pe_callF F_is_change (hr.mono (by decide)) (by rfl) pass0 (pa_cons (pv 0) pa_nil)))) (pss_one (ps_raisevalue (k := 1) rfl T.x_InvalidChange (hr.mono (by decide)) (takes_of rfl rfl rfl rfl) (pa_cons (pv 0) pa_nil) (by rfl))) pss_nil))
theorem ok_need_change (T : Txt P K mg) (FD : ∃ fd, FunD K "need_change" "need_change" (defArgs s_need_change) (defBody s_need_change) (defScope s_need_change) [] [] (He.ga K "need_change") fd) (hm : mg "need_change" = some (.ref (He.ga K "need_change"))) (F_is_change : Fok P w K mg base CX0 4 "is_change" ["value"] (sp_is_change K))  : Fok P w K mg base (L2.CX P w) 5 "need_change" ["change"] (sp_need_change K) := by
  obtain ⟨fd, F⟩ := FD
  exact ⟨⟨fd, okf_need_change T F F_is_change , F.bindsN fun _ _ _ _ _ _ us hl => match us, hl with | [_], _ => rfl⟩, hm, F.kp⟩
abbrev s_old_parts : Stmt := top 19
theorem sc_old_parts : FnScope ["change"] ["change"] (defScope s_old_parts) := ⟨rfl, rfl, rfl, by decide +kernel, rfl, by decide +kernel, by decide +kernel⟩
theorem okf_old_parts {fd : FuncData} (T : Txt P K mg) (F : FunD K "old_parts" "old_parts" (defArgs s_old_parts) (defBody s_old_parts) (defScope s_old_parts) [] [] (He.ga K "old_parts") fd)   : FnOk P w K mg base CX0 1 (He.ga K "old_parts") fd ["change"] (sp_old_parts K) := by
  have nd := sc_old_parts.nd
  refine F.ok (k := 0) sc_old_parts (len_old_parts K) (fun cdv A outer s H vs Q E hr h => ⟨t_old_parts K, PSs.nox ?_, pure_old_parts K vs H Q E h⟩)
  have hu : (A.deeper (envOfC "old_parts" (defScope s_old_parts) s.heap.objs.size (He.ga K "old_parts") cdv)).units + 64 < cLine := by
    have h1 := hr.un
    omega
  exact (pss_cons (ps_if (pt_cmpR (op_eqA hu) (pe_ix (ix_B hu) (pv 0) (pe_int) (fun _ _ => rfl)) (pe_gstr (by rfl) T.c_HANG) (nomark _)) (pss_one (ps_ret (pe_lst pa_nil))) pss_nil)
    (pss_one (ps_ret (pe_ifExp (pt_cmpR (op_eqA hu) (pe_ix (ix_B hu) (pv 0) (pe_int) (fun _ _ => rfl)) (pe_gstr (by rfl) T.c_JOIN) (nomark _)) (pe_lst (pa_cons (pe_ix (ix_B hu) (pv 0) (pe_int) (fun _ _ => rfl)) (pa_cons (pe_ix (ix_B hu) (pv 0) (pe_int) (fun _ _ => rfl)) pa_nil))) (pe_lst (pa_cons (pe_ix (ix_B hu) (pv 0) (pe_int) (fun _ _ => rfl)) pa_nil))))))
theorem ok_old_parts (T : Txt P K mg) (FD : ∃ fd, FunD K "old_parts" "old_parts" (defArgs s_old_parts) (defBody s_old_parts) (defScope s_old_parts) [] [] (He.ga K "old_parts") fd) (hm : mg "old_parts" = some (.ref (He.ga K "old_parts")))   : Fok P w K mg base CX0 1 "old_parts" ["change"] (sp_old_parts K) := by
  obtain ⟨fd, F⟩ := FD
  exact ⟨⟨fd, okf_old_parts T F  , F.bindsN fun _ _ _ _ _ _ us hl => match us, hl with | [_], _ => rfl⟩, hm, F.kp⟩
abbrev s_new_parts : Stmt := top 20
theorem sc_new_parts : FnScope ["change"] ["change"] (defScope s_new_parts) := ⟨rfl, rfl, rfl, by decide +kernel, rfl, by decide +kernel, by decide +kernel⟩
theorem okf_new_parts {fd : FuncData} (T : Txt P K mg) (F : FunD K "new_parts" "new_parts" (defArgs s_new_parts) (defBody s_new_parts) (defScope s_new_parts) [] [] (He.ga K "new_parts") fd)   : FnOk P w K mg base CX0 1 (He.ga K "new_parts") fd ["change"] (sp_new_parts K) := by
  have nd := sc_new_parts.nd
  refine F.ok (k := 0) sc_new_parts (len_new_parts K) (fun cdv A outer s H vs Q E hr h => ⟨t_new_parts K, PSs.nox ?_, pure_new_parts K vs H Q E h⟩)
  have hu : (A.deeper (envOfC "new_parts" (defScope s_new_parts) s.heap.objs.size (He.ga K "new_parts") cdv)).units + 64 < cLine := by
    have h1 := hr.un
    omega
  exact (pss_cons (ps_if (pt_cmpR (op_eqA hu) (pe_ix (ix_B hu) (pv 0) (pe_int) (fun _ _ => rfl)) (pe_gstr (by rfl) T.c_TAKE) (nomark _)) (pss_one (ps_ret (pe_lst pa_nil))) pss_nil)
    (pss_cons (ps_if (pt_cmpR (op_eqA hu) (pe_ix (ix_B hu) (pv 0) (pe_int) (fun _ _ => rfl)) (pe_gstr (by rfl) T.c_HANG) (nomark _)) (pss_one (ps_ret (pe_lst (pa_cons (pe_ix (ix_B hu) (pv 0) (pe_int) (fun _ _ => rfl)) pa_nil)))) pss_nil)
    (pss_one (ps_ret (pe_ifExp (pt_cmpR (op_eqA hu) (pe_ix (ix_B hu) (pv 0) (pe_int) (fun _ _ => rfl)) (pe_gstr (by rfl) T.c_SPLIT) (nomark _)) (pe_lst (pa_cons (pe_ix (ix_B hu) (pv 0) (pe_int) (fun _ _ => rfl)) (pa_cons (pe_ix (ix_B hu) (pv 0) (pe_int) (fun _ _ => rfl)) pa_nil))) (pe_lst (pa_cons (pe_ix (ix_B hu) (pv 0) (pe_int) (fun _ _ => rfl)) pa_nil)))))))
theorem ok_new_parts (T : Txt P K mg) (FD : ∃ fd, FunD K "new_parts" "new_parts" (defArgs s_new_parts) (defBody s_new_parts) (defScope s_new_parts) [] [] (He.ga K "new_parts") fd) (hm : mg "new_parts" = some (.ref (He.ga K "new_parts")))   : Fok P w K mg base CX0 1 "new_parts" ["change"] (sp_new_parts K) := by
  obtain ⟨fd, F⟩ := FD
  exact ⟨⟨fd, okf_new_parts T F  , F.bindsN fun _ _ _ _ _ _ us hl => match us, hl with | [_], _ => rfl⟩, hm, F.kp⟩
abbrev s_roles : Stmt := top 21
theorem sc_roles : FnScope ["change"] ["change"] (defScope s_roles) := ⟨rfl, rfl, rfl, by decide +kernel, rfl, by decide +kernel, by decide +kernel⟩
theorem okf_roles {fd : FuncData} (T : Txt P K mg) (F : FunD K "roles" "roles" (defArgs s_roles) (defBody s_roles) (defScope s_roles) [] [] (He.ga K "roles") fd) (F_need_change : Fok P w K mg base (L2.CX P w) 5 "need_change" ["change"] (sp_need_change K)) (F_new_parts : Fok P w K mg base CX0 1 "new_parts" ["change"] (sp_new_parts K)) (F_old_parts : Fok P w K mg base CX0 1 "old_parts" ["change"] (sp_old_parts K))  : FnOk P w K mg base (L2.CX P w) 6 (He.ga K "roles") fd ["change"] (sp_roles K) := by
  have nd := sc_roles.nd
  refine F.ok (k := 5) sc_roles (len_roles K) (fun cdv A outer s H vs Q E hr h => ⟨t_roles K E, ?_, pure_roles K vs H Q E h⟩)
  have hu : (A.deeper (envOfC "roles" (defScope s_roles) s.heap.objs.size (He.ga K "roles") cdv)).units + 64 < cLine := by
    have h1 := hr.un
    omega
  exact (pss_cons (ps_expr (pe_callG F_need_change (hr.mono (by decide)) (by rfl) (takes_of rfl rfl rfl rfl) (pa_cons (pv 0) pa_nil)))
    (pss_one (ps_ret (pe_tup (pa_cons (pe_callF F_old_parts (hr.mono (by decide)) (by rfl) pass0 (pa_cons (pv 0) pa_nil)) (pa_cons (pe_callF F_new_parts (hr.mono (by decide)) (by rfl) pass0 (pa_cons (pv 0) pa_nil)) pa_nil))))))
theorem ok_roles (T : Txt P K mg) (FD : ∃ fd, FunD K "roles" "roles" (defArgs s_roles) (defBody s_roles) (defScope s_roles) [] [] (He.ga K "roles") fd) (hm : mg "roles" = some (.ref (He.ga K "roles"))) (F_need_change : Fok P w K mg base (L2.CX P w) 5 "need_change" ["change"] (sp_need_change K)) (F_new_parts : Fok P w K mg base CX0 1 "new_parts" ["change"] (sp_new_parts K)) (F_old_parts : Fok P w K mg base CX0 1 "old_parts" ["change"] (sp_old_parts K))  : Fok P w K mg base (L2.CX P w) 6 "roles" ["change"] (sp_roles K) := by
  obtain ⟨fd, F⟩ := FD
  exact ⟨⟨fd, okf_roles T F F_need_change F_new_parts F_old_parts , F.bindsN fun _ _ _ _ _ _ us hl => match us, hl with | [_], _ => rfl⟩, hm, F.kp⟩
abbrev s_law_cell : Stmt := top 23
theorem sc_law_cell : FnScope ["script", "k"] ["script", "k"] (defScope s_law_cell) := ⟨rfl, rfl, rfl, by decide +kernel, rfl, by decide +kernel, by decide +kernel⟩
theorem okf_law_cell {fd : FuncData} (T : Txt P K mg) (F : FunD K "_law_cell" "_law_cell" (defArgs s_law_cell) (defBody s_law_cell) (defScope s_law_cell) [] [] (He.ga K "_law_cell") fd)   : FnOk P w K mg base CX0 1 (He.ga K "_law_cell") fd ["script", "k"] (sp_law_cell K) := by
  have nd := sc_law_cell.nd
  refine F.ok (k := 0) sc_law_cell (len_law_cell K) (fun cdv A outer s H vs Q E hr h => ⟨t_law_cell K, PSs.nox ?_, pure_law_cell K vs H Q E h⟩)
  have hu : (A.deeper (envOfC "_law_cell" (defScope s_law_cell) s.heap.objs.size (He.ga K "_law_cell") cdv)).units + 64 < cLine := by
    have h1 := hr.un
    omega
  exact (pss_cons (ps_if (pt_cmpR op_ltA (pv 1) (pe_callB call_lenA (by rfl) T.b_len (by decide +kernel) (pa_cons (pv 0) pa_nil)) (nomark _)) (pss_one (ps_ret (pe_ix (ix_B hu) (pv 0) (pv 1) (fun _ _ => rfl)))) pss_nil)
    (pss_one (ps_ret (pe_op op_addA (pe_op op_mulA (pe_int) (pv 1)) (pe_int)))))
theorem ok_law_cell (T : Txt P K mg) (FD : ∃ fd, FunD K "_law_cell" "_law_cell" (defArgs s_law_cell) (defBody s_law_cell) (defScope s_law_cell) [] [] (He.ga K "_law_cell") fd) (hm : mg "_law_cell" = some (.ref (He.ga K "_law_cell")))   : Fok P w K mg base CX0 1 "_law_cell" ["script", "k"] (sp_law_cell K) := by
  obtain ⟨fd, F⟩ := FD
  exact ⟨⟨fd, okf_law_cell T F  , F.bindsN fun _ _ _ _ _ _ us hl => match us, hl with | [_, _], _ => rfl⟩, hm, F.kp⟩
abbrev s_law_box : Stmt := top 24
theorem sc_law_box : FnScope ["cell"] ["cell"] (defScope s_law_box) := ⟨rfl, rfl, rfl, by decide +kernel, rfl, by decide +kernel, by decide +kernel⟩
theorem okf_law_box {fd : FuncData} (T : Txt P K mg) (F : FunD K "_law_box" "_law_box" (defArgs s_law_box) (defBody s_law_box) (defScope s_law_box) [] [] (He.ga K "_law_box") fd)   : FnOk P w K mg base CX0 1 (He.ga K "_law_box") fd ["cell"] (sp_law_box K) := by
  have nd := sc_law_box.nd
  refine F.ok (k := 0) sc_law_box (len_law_box K) (fun cdv A outer s H vs Q E hr h => ⟨t_law_box K, PSs.nox ?_, pure_law_box K vs H Q E h⟩)
  have hu : (A.deeper (envOfC "_law_box" (defScope s_law_box) s.heap.objs.size (He.ga K "_law_box") cdv)).units + 64 < cLine := by
    have h1 := hr.un
    omega
  exact (pss_one (ps_ret (pe_lst (pa_cons (pe_callB (call_maxA rfl) (by rfl) T.b_max (by decide +kernel) (pa_cons (pe_int) (pa_cons (pe_op op_subA (pv 0) (pe_op op_powA (pe_int) (pe_int))) pa_nil))) (pa_cons (pe_op op_modA (pv 0) (pe_int)) (pa_cons (pe_int) pa_nil))))))
theorem ok_law_box (T : Txt P K mg) (FD : ∃ fd, FunD K "_law_box" "_law_box" (defArgs s_law_box) (defBody s_law_box) (defScope s_law_box) [] [] (He.ga K "_law_box") fd) (hm : mg "_law_box" = some (.ref (He.ga K "_law_box")))   : Fok P w K mg base CX0 1 "_law_box" ["cell"] (sp_law_box K) := by
  obtain ⟨fd, F⟩ := FD
  exact ⟨⟨fd, okf_law_box T F  , F.bindsN fun _ _ _ _ _ _ us hl => match us, hl with | [_], _ => rfl⟩, hm, F.kp⟩
abbrev s_law_take : Stmt := top 25
theorem sc_law_take : FnScope ["box", "many", "digit", "number"] ["box", "many"] (defScope s_law_take) := ⟨rfl, rfl, rfl, by decide +kernel, rfl, by decide +kernel, by decide +kernel⟩
theorem okf_law_take {fd : FuncData} (T : Txt P K mg) (F : FunD K "_law_take" "_law_take" (defArgs s_law_take) (defBody s_law_take) (defScope s_law_take) [] [] (He.ga K "_law_take") fd)   : FnOk P w K mg base CX0 1 (He.ga K "_law_take") fd ["box", "many"] (sp_law_take K) := by
  have nd := sc_law_take.nd
  refine F.ok (k := 0) sc_law_take (len_law_take K) (fun cdv A outer s H vs Q E hr h => ⟨t_law_take K, PSs.nox ?_, pure_law_take K vs H Q E h⟩)
  have hu : (A.deeper (envOfC "_law_take" (defScope s_law_take) s.heap.objs.size (He.ga K "_law_take") cdv)).units + 64 < cLine := by
    have h1 := hr.un
    omega
  exact (pss_cons (ps_if (pt_cmpR op_gtA (pe_ix (ix_B hu) (pv 0) (pe_int) (fun _ _ => rfl)) (pe_int) (nomark _)) (pss_cons (ps_set (i := 2) nd (by rfl) (Or.inl rfl) (pe_op op_modA (pe_ix (ix_B hu) (pv 0) (pe_int) (fun _ _ => rfl)) (pv 1)))
    (pss_cons (ps_asg (pe_op op_divA (pe_ix (ix_B hu) (pv 0) (pe_int) (fun _ _ => rfl)) (pv 1)) (pg_sub (pv 0) (pe_int) (set_B hu)))
    (pss_one (ps_ret (pv 2))))) pss_nil)
    (pss_cons (ps_asg (pe_op op_addA (pe_ix (ix_B hu) (pv 0) (pe_int) (fun _ _ => rfl)) (pe_int)) (pg_sub (pv 0) (pe_int) (set_B hu)))
    (pss_cons (ps_set (i := 3) nd (by rfl) (Or.inl rfl) (pe_op op_modA (pe_op op_powA (pe_op op_addA (pe_op op_addA (pe_ix (ix_B hu) (pv 0) (pe_int) (fun _ _ => rfl)) (pe_op op_mulA (pe_int) (pe_ix (ix_B hu) (pv 0) (pe_int) (fun _ _ => rfl)))) (pe_int)) (pe_int)) (pe_int)))
    (pss_cons (ps_set (i := 3) nd (by rfl) (Or.inl rfl) (pe_op op_modA (pe_op op_powA (pe_op op_addA (pv 3) (pe_op op_mulA (pe_int) (pe_ix (ix_B hu) (pv 0) (pe_int) (fun _ _ => rfl)))) (pe_int)) (pe_int)))
    (pss_one (ps_ret (pe_op op_modA (pe_op op_divA (pv 3) (pe_int)) (pv 1))))))))
theorem ok_law_take (T : Txt P K mg) (FD : ∃ fd, FunD K "_law_take" "_law_take" (defArgs s_law_take) (defBody s_law_take) (defScope s_law_take) [] [] (He.ga K "_law_take") fd) (hm : mg "_law_take" = some (.ref (He.ga K "_law_take")))   : Fok P w K mg base CX0 1 "_law_take" ["box", "many"] (sp_law_take K) := by
  obtain ⟨fd, F⟩ := FD
  exact ⟨⟨fd, okf_law_take T F  , F.bindsN fun _ _ _ _ _ _ us hl => match us, hl with | [_, _], _ => rfl⟩, hm, F.kp⟩
abbrev s_law_mixed : Stmt := top 26
theorem sc_law_mixed : FnScope ["box", "some", "left", "k"] ["box", "some"] (defScope s_law_mixed) := ⟨rfl, rfl, rfl, by decide +kernel, rfl, by decide +kernel, by decide +kernel⟩
theorem okf_law_mixed {fd : FuncData} (T : Txt P K mg) (F : FunD K "_law_mixed" "_law_mixed" (defArgs s_law_mixed) (defBody s_law_mixed) (defScope s_law_mixed) [] [] (He.ga K "_law_mixed") fd) (F_law_take : Fok P w K mg base CX0 1 "_law_take" ["box", "many"] (sp_law_take K))  : FnOk P w K mg base CX0 2 (He.ga K "_law_mixed") fd ["box", "some"] (sp_law_mixed K) := by
  have nd := sc_law_mixed.nd
  refine F.ok (k := 1) sc_law_mixed (len_law_mixed K) (fun cdv A outer s H vs Q E hr h => ⟨t_law_mixed K, PSs.nox ?_, pure_law_mixed K vs H Q E h⟩)
  have hu : (A.deeper (envOfC "_law_mixed" (defScope s_law_mixed) s.heap.objs.size (He.ga K "_law_mixed") cdv)).units + 64 < cLine := by
    have h1 := hr.un
    omega
  exact (pss_cons (ps_set (i := 2) nd (by rfl) (Or.inr rfl) (pe_callTy call_listA (by rfl) T.b_list (by decide +kernel) (pa_cons (pv 1) pa_nil)))
    (pss_one (ps_ret (pe_lc (own := [("k", 3)]) rfl nd (pi_range1 (by rfl) T.b_range (pa_cons (pe_callB call_lenA (by rfl) T.b_len (by decide +kernel) (pa_cons (pv 1) pa_nil)) pa_nil)) (blkOk_by (own := [("k", 3)]) (N := ["box", "some", "left", "k"]) (sc := defScope s_law_mixed) (by decide +kernel)) (fun _ _ _ _ _ => (pg_name (i := 3) nd (by rfl) (by first | exact Or.inl rfl | exact Or.inr rfl))) (fun _ _ _ _ _ => pts_nil) (fun _ _ _ _ _ => (pe_bm PySem.F.plainAttrs_list PySem.F.slot_list_pop PySem.F.type_list_pop mt_popA (pv 2) (pa_cons (pe_callF F_law_take (hr.mono (by decide)) (by rfl) pass0 (pa_cons (pv 0) (pa_cons (pe_callB call_lenA (by rfl) T.b_len (by decide +kernel) (pa_cons (pv 2) pa_nil)) pa_nil))) pa_nil)))))))
theorem ok_law_mixed (T : Txt P K mg) (FD : ∃ fd, FunD K "_law_mixed" "_law_mixed" (defArgs s_law_mixed) (defBody s_law_mixed) (defScope s_law_mixed) [] [] (He.ga K "_law_mixed") fd) (hm : mg "_law_mixed" = some (.ref (He.ga K "_law_mixed"))) (F_law_take : Fok P w K mg base CX0 1 "_law_take" ["box", "many"] (sp_law_take K))  : Fok P w K mg base CX0 2 "_law_mixed" ["box", "some"] (sp_law_mixed K) := by
  obtain ⟨fd, F⟩ := FD
  exact ⟨⟨fd, okf_law_mixed T F F_law_take , F.bindsN fun _ _ _ _ _ _ us hl => match us, hl with | [_, _], _ => rfl⟩, hm, F.kp⟩
abbrev s_law_names : Stmt := top 27
theorem sc_law_names : FnScope ["box", "many", "letters", "words", "stem", "first", "step", "way", "found", "k", "sign", "name"] ["box", "many"] (defScope s_law_names) := ⟨rfl, rfl, rfl, by decide +kernel, rfl, by decide +kernel, by decide +kernel⟩
theorem okf_law_names {fd : FuncData} (T : Txt P K mg) (F : FunD K "_law_names" "_law_names" (defArgs s_law_names) (defBody s_law_names) (defScope s_law_names) [] [] (He.ga K "_law_names") fd) (F_law_take : Fok P w K mg base CX0 1 "_law_take" ["box", "many"] (sp_law_take K)) (F_law_mixed : Fok P w K mg base CX0 2 "_law_mixed" ["box", "some"] (sp_law_mixed K))  : FnOk P w K mg base CX0 3 (He.ga K "_law_names") fd ["box", "many"] (sp_law_names K) := by
  have nd := sc_law_names.nd
  refine F.ok (k := 2) sc_law_names (len_law_names K) (fun cdv A outer s H vs Q E hr h => ⟨t_law_names K, PSs.nox ?_, pure_law_names K vs H Q E h⟩)
  have hu : (A.deeper (envOfC "_law_names" (defScope s_law_names) s.heap.objs.size (He.ga K "_law_names") cdv)).units + 64 < cLine := by
    have h1 := hr.un
    omega
  exact (pss_cons (ps_set (i := 2) nd (by rfl) (Or.inl rfl) (pe_str))
    (pss_cons (ps_if (pt_cmpR (op_eqA hu) (pe_callF F_law_take (hr.mono (by decide)) (by rfl) pass0 (pa_cons (pv 0) (pa_cons (pe_int) pa_nil))) (pe_int) (nomark _)) (pss_cons (ps_set (i := 3) nd (by rfl) (Or.inl rfl) (pe_lst (pa_cons (pe_str) (pa_cons (pe_str) (pa_cons (pe_str) (pa_cons (pe_str) (pa_cons (pe_str) (pa_cons (pe_str) (pa_cons (pe_str) (pa_cons (pe_str) (pa_cons (pe_str) (pa_cons (pe_str) (pa_cons (pe_str) (pa_cons (pe_str) (pa_cons (pe_str) pa_nil)))))))))))))))
    (pss_one (ps_ret (pe_slice sl_A (pe_callF F_law_mixed (hr.mono (by decide)) (by rfl) pass0 (pa_cons (pv 0) (pa_cons (pv 3) pa_nil))) po_none (po_some (pv 1)))))) pss_nil)
    (pss_cons (ps_set (i := 4) nd (by rfl) (Or.inl rfl) (pe_ix (ix_B hu) (pe_lst (pa_cons (pe_str) (pa_cons (pe_str) (pa_cons (pe_str) (pa_cons (pe_str) (pa_cons (pe_str) (pa_cons (pe_str) pa_nil))))))) (pe_callF F_law_take (hr.mono (by decide)) (by rfl) pass0 (pa_cons (pv 0) (pa_cons (pe_int) pa_nil))) (fun _ _ => rfl)))
    (pss_cons (ps_par3 (by rfl) nd rfl rfl rfl (by decide) (by decide) (by decide) rfl rfl rfl (pa_cons (pe_callF F_law_take (hr.mono (by decide)) (by rfl) pass0 (pa_cons (pv 0) (pa_cons (pe_int) pa_nil))) (pa_cons (pe_ix (ix_B hu) (pe_lst (pa_cons (pe_int) (pa_cons (pe_int) (pa_cons (pe_int) (pa_cons (pe_int) (pa_cons (pe_int) (pa_cons (pe_int) pa_nil))))))) (pe_callF F_law_take (hr.mono (by decide)) (by rfl) pass0 (pa_cons (pv 0) (pa_cons (pe_int) pa_nil))) (fun _ _ => rfl)) (pa_cons (pe_callF F_law_take (hr.mono (by decide)) (by rfl) pass0 (pa_cons (pv 0) (pa_cons (pe_int) pa_nil))) pa_nil))) (by rfl))
    (pss_cons (ps_set (i := 8) nd (by rfl) (Or.inl rfl) (pe_lst pa_nil))
    (pss_cons (ps_for PassesOwn.never rfl (pi_range1 (by rfl) T.b_range (pa_cons (pv 1) pa_nil)) (pg_name (i := 9) nd (by rfl) (by first | exact Or.inl rfl | exact Or.inr rfl)) (pss_cons (ps_set (i := 10) nd (by rfl) (Or.inl rfl) (pe_ix (ix_B hu) (pv 2) (pe_op op_modA (pe_op op_addA (pv 5) (pe_op op_mulA (pv 6) (pv 9))) (pe_int)) (fun _ _ => rfl)))
    (pss_cons (ps_set (i := 11) nd (by rfl) (Or.inl rfl) (pe_ix (ix_B hu) (pe_lst (pa_cons (pe_op op_addA (pv 4) (pv 10)) (pa_cons (pe_op op_addA (pv 10) (pv 4)) (pa_cons (pv 10) pa_nil)))) (pe_ifExp (pt_cmpR op_gtA (pv 9) (pe_int) (nomark _)) (pv 7) (pe_int)) (fun _ _ => rfl)))
    (pss_one (ps_expr (pe_bm PySem.F.plainAttrs_list PySem.F.slot_list_append PySem.F.type_list_append mt_append (pv 8) (pa_cons (pe_ifExp (pt_cmpR (op_eqA hu) (pv 11) (pe_str) (nomark _)) (pe_str) (pv 11)) pa_nil)))))))
    (pss_one (ps_ret (pv 8)))))))))
theorem ok_law_names (T : Txt P K mg) (FD : ∃ fd, FunD K "_law_names" "_law_names" (defArgs s_law_names) (defBody s_law_names) (defScope s_law_names) [] [] (He.ga K "_law_names") fd) (hm : mg "_law_names" = some (.ref (He.ga K "_law_names"))) (F_law_take : Fok P w K mg base CX0 1 "_law_take" ["box", "many"] (sp_law_take K)) (F_law_mixed : Fok P w K mg base CX0 2 "_law_mixed" ["box", "some"] (sp_law_mixed K))  : Fok P w K mg base CX0 3 "_law_names" ["box", "many"] (sp_law_names K) := by
  obtain ⟨fd, F⟩ := FD
  exact ⟨⟨fd, okf_law_names T F F_law_take F_law_mixed , F.bindsN fun _ _ _ _ _ _ us hl => match us, hl with | [_, _], _ => rfl⟩, hm, F.kp⟩
abbrev s_law_is_name : Stmt := top 28
theorem sc_law_is_name : FnScope ["value", "sign"] ["value"] (defScope s_law_is_name) := ⟨rfl, rfl, rfl, by decide +kernel, rfl, by decide +kernel, by decide +kernel⟩
theorem okf_law_is_name {fd : FuncData} (T : Txt P K mg) (F : FunD K "_law_is_name" "_law_is_name" (defArgs s_law_is_name) (defBody s_law_is_name) (defScope s_law_is_name) [] [] (He.ga K "_law_is_name") fd)   : FnOk P w K mg base CX0 1 (He.ga K "_law_is_name") fd ["value"] (sp_law_is_name K) := by
  have nd := sc_law_is_name.nd
  refine F.ok (k := 0) sc_law_is_name (len_law_is_name K) (fun cdv A outer s H vs Q E hr h => ⟨t_law_is_name K, PSs.nox ?_, pure_law_is_name K vs H Q E h⟩)
  have hu : (A.deeper (envOfC "_law_is_name" (defScope s_law_is_name) s.heap.objs.size (He.ga K "_law_is_name") cdv)).units + 64 < cLine := by
    have h1 := hr.un
    omega
  exact (pss_cons (ps_if (PW.pt (pw_or (pt_not (pt_val (pe_callB call_isi (by rfl) T.b_isinstance (by decide +kernel) (pa_cons (pv 0) (pa_cons (pe_bltn (by rfl) T.b_str (by decide +kernel) rfl) pa_nil))))) (pw_or (pt_cmpR (op_eqA hu) (pv 0) (pe_str) (nomark _)) (pw_or (pt_cmpR op_ltA (pe_callB call_lenA (by rfl) T.b_len (by decide +kernel) (pa_cons (pv 0) pa_nil)) (pe_int) (nomark _)) (pw_or1 (pt_cmpR op_gtA (pe_callB call_lenA (by rfl) T.b_len (by decide +kernel) (pa_cons (pv 0) pa_nil)) (pe_int) (nomark _))))))) (pss_one (ps_ret (pe_bl))) pss_nil)
    (pss_one (ps_ret (pe_cmpR (op_eqA hu) (pe_lc (own := [("sign", 1)]) rfl nd (pi_any (pv 0)) (blkOk_by (own := [("sign", 1)]) (N := ["value", "sign"]) (sc := defScope s_law_is_name) (by decide +kernel)) (fun _ _ _ _ _ => (pg_name (i := 1) nd (by rfl) (by first | exact Or.inl rfl | exact Or.inr rfl))) (fun _ _ _ _ _ => (pts_one (pt_cmpR (op_ninB hu) (pv 1) (pe_str) (by rfl)))) (fun _ _ _ _ _ => (pv 1))) (pe_lst pa_nil) (nomark _)))))
theorem ok_law_is_name (T : Txt P K mg) (FD : ∃ fd, FunD K "_law_is_name" "_law_is_name" (defArgs s_law_is_name) (defBody s_law_is_name) (defScope s_law_is_name) [] [] (He.ga K "_law_is_name") fd) (hm : mg "_law_is_name" = some (.ref (He.ga K "_law_is_name")))   : Fok P w K mg base CX0 1 "_law_is_name" ["value"] (sp_law_is_name K) := by
  obtain ⟨fd, F⟩ := FD
  exact ⟨⟨fd, okf_law_is_name T F  , F.bindsN fun _ _ _ _ _ _ us hl => match us, hl with | [_], _ => rfl⟩, hm, F.kp⟩
abbrev s_law_is_limit : Stmt := top 29
theorem sc_law_is_limit : FnScope ["value"] ["value"] (defScope s_law_is_limit) := ⟨rfl, rfl, rfl, by decide +kernel, rfl, by decide +kernel, by decide +kernel⟩
theorem okf_law_is_limit {fd : FuncData} (T : Txt P K mg) (F : FunD K "_law_is_limit" "_law_is_limit" (defArgs s_law_is_limit) (defBody s_law_is_limit) (defScope s_law_is_limit) [] [] (He.ga K "_law_is_limit") fd)   : FnOk P w K mg base CX0 1 (He.ga K "_law_is_limit") fd ["value"] (sp_law_is_limit K) := by
  have nd := sc_law_is_limit.nd
  refine F.ok (k := 0) sc_law_is_limit (len_law_is_limit K) (fun cdv A outer s H vs Q E hr h => ⟨t_law_is_limit K, PSs.nox ?_, pure_law_is_limit K vs H Q E h⟩)
  have hu : (A.deeper (envOfC "_law_is_limit" (defScope s_law_is_limit) s.heap.objs.size (He.ga K "_law_is_limit") cdv)).units + 64 < cLine := by
    have h1 := hr.un
    omega
  exact (pss_one (ps_ret ((pe_or (pe_cmpR op_isA (pv 0) (pe_non) (nomark _)) (pe_one ((pe_and (pe_callB call_isi (by rfl) T.b_isinstance (by decide +kernel) (pa_cons (pv 0) (pa_cons (pe_bltn (by rfl) T.b_int (by decide +kernel) rfl) pa_nil))) (pe_one (pe_not (pe_callB call_isi (by rfl) T.b_isinstance (by decide +kernel) (pa_cons (pv 0) (pa_cons (pe_bltn (by rfl) T.b_bool (by decide +kernel) rfl) pa_nil))))))))))))
theorem ok_law_is_limit (T : Txt P K mg) (FD : ∃ fd, FunD K "_law_is_limit" "_law_is_limit" (defArgs s_law_is_limit) (defBody s_law_is_limit) (defScope s_law_is_limit) [] [] (He.ga K "_law_is_limit") fd) (hm : mg "_law_is_limit" = some (.ref (He.ga K "_law_is_limit")))   : Fok P w K mg base CX0 1 "_law_is_limit" ["value"] (sp_law_is_limit K) := by
  obtain ⟨fd, F⟩ := FD
  exact ⟨⟨fd, okf_law_is_limit T F  , F.bindsN fun _ _ _ _ _ _ us hl => match us, hl with | [_], _ => rfl⟩, hm, F.kp⟩
abbrev s_law_is_span : Stmt := top 30
theorem sc_law_is_span : FnScope ["value"] ["value"] (defScope s_law_is_span) := ⟨rfl, rfl, rfl, by decide +kernel, rfl, by decide +kernel, by decide +kernel⟩
theorem okf_law_is_span {fd : FuncData} (T : Txt P K mg) (F : FunD K "_law_is_span" "_law_is_span" (defArgs s_law_is_span) (defBody s_law_is_span) (defScope s_law_is_span) [] [] (He.ga K "_law_is_span") fd) (F_law_is_limit : Fok P w K mg base CX0 1 "_law_is_limit" ["value"] (sp_law_is_limit K))  : FnOk P w K mg base CX0 2 (He.ga K "_law_is_span") fd ["value"] (sp_law_is_span K) := by
  have nd := sc_law_is_span.nd
  refine F.ok (k := 1) sc_law_is_span (len_law_is_span K) (fun cdv A outer s H vs Q E hr h => ⟨t_law_is_span K, PSs.nox ?_, pure_law_is_span K vs H Q E h⟩)
  have hu : (A.deeper (envOfC "_law_is_span" (defScope s_law_is_span) s.heap.objs.size (He.ga K "_law_is_span") cdv)).units + 64 < cLine := by
    have h1 := hr.un
    omega
  exact (pss_cons (ps_if (PW.pt (pw_or (pt_not (pt_val (pe_callB call_isi (by rfl) T.b_isinstance (by decide +kernel) (pa_cons (pv 0) (pa_cons (pe_bltn (by rfl) T.b_tuple (by decide +kernel) rfl) pa_nil))))) (pw_or1 (pt_cmpR (op_neA hu) (pe_callB call_lenA (by rfl) T.b_len (by decide +kernel) (pa_cons (pv 0) pa_nil)) (pe_int) (nomark _))))) (pss_one (ps_ret (pe_bl))) pss_nil)
    (pss_cons (ps_if (PW.pt (pw_or (pt_not (pt_val (pe_callF F_law_is_limit (hr.mono (by decide)) (by rfl) pass0 (pa_cons (pe_ix (ix_B hu) (pv 0) (pe_int) (fun _ _ => rfl)) pa_nil)))) (pw_or1 (pt_not (pt_val (pe_callF F_law_is_limit (hr.mono (by decide)) (by rfl) pass0 (pa_cons (pe_ix (ix_B hu) (pv 0) (pe_int) (fun _ _ => rfl)) pa_nil))))))) (pss_one (ps_ret (pe_bl))) pss_nil)
    (pss_one (ps_ret ((pe_or (pe_cmpR op_isA (pe_ix (ix_B hu) (pv 0) (pe_int) (fun _ _ => rfl)) (pe_non) (nomark _)) (pe_or (pe_cmpR op_isA (pe_ix (ix_B hu) (pv 0) (pe_int) (fun _ _ => rfl)) (pe_non) (nomark _)) (pe_one (pe_cmpR op_ltA (pe_ix (ix_B hu) (pv 0) (pe_int) (fun _ _ => rfl)) (pe_ix (ix_B hu) (pv 0) (pe_int) (fun _ _ => rfl)) (nomark _))))))))))
theorem ok_law_is_span (T : Txt P K mg) (FD : ∃ fd, FunD K "_law_is_span" "_law_is_span" (defArgs s_law_is_span) (defBody s_law_is_span) (defScope s_law_is_span) [] [] (He.ga K "_law_is_span") fd) (hm : mg "_law_is_span" = some (.ref (He.ga K "_law_is_span"))) (F_law_is_limit : Fok P w K mg base CX0 1 "_law_is_limit" ["value"] (sp_law_is_limit K))  : Fok P w K mg base CX0 2 "_law_is_span" ["value"] (sp_law_is_span K) := by
  obtain ⟨fd, F⟩ := FD
  exact ⟨⟨fd, okf_law_is_span T F F_law_is_limit , F.bindsN fun _ _ _ _ _ _ us hl => match us, hl with | [_], _ => rfl⟩, hm, F.kp⟩
abbrev s_law_is_change : Stmt := top 31
theorem sc_law_is_change : FnScope ["value", "given", "names", "name", "k"] ["value"] (defScope s_law_is_change) := ⟨rfl, rfl, rfl, by decide +kernel, rfl, by decide +kernel, by decide +kernel⟩
theorem okf_law_is_change {fd : FuncData} (T : Txt P K mg) (F : FunD K "_law_is_change" "_law_is_change" (defArgs s_law_is_change) (defBody s_law_is_change) (defScope s_law_is_change) [] [] (He.ga K "_law_is_change") fd) (F_law_is_name : Fok P w K mg base CX0 1 "_law_is_name" ["value"] (sp_law_is_name K)) (F_law_is_span : Fok P w K mg base CX0 2 "_law_is_span" ["value"] (sp_law_is_span K)) (F_law_is_limit : Fok P w K mg base CX0 1 "_law_is_limit" ["value"] (sp_law_is_limit K))  : FnOk P w K mg base CX0 3 (He.ga K "_law_is_change") fd ["value"] (sp_law_is_change K) := by
  have nd := sc_law_is_change.nd
  refine F.ok (k := 2) sc_law_is_change (len_law_is_change K) (fun cdv A outer s H vs Q E hr h => ⟨t_law_is_change K, PSs.nox ?_, pure_law_is_change K vs H Q E h⟩)
  have hu : (A.deeper (envOfC "_law_is_change" (defScope s_law_is_change) s.heap.objs.size (He.ga K "_law_is_change") cdv)).units + 64 < cLine := by
    have h1 := hr.un
    omega
  exact (pss_cons (ps_if (PW.pt (pw_or (pt_not (pt_val (pe_callB call_isi (by rfl) T.b_isinstance (by decide +kernel) (pa_cons (pv 0) (pa_cons (pe_bltn (by rfl) T.b_tuple (by decide +kernel) rfl) pa_nil))))) (pw_or (pt_cmpR (op_eqA hu) (pv 0) (pe_tup pa_nil) (nomark _)) (pw_or1 (pt_cmpR (op_ninB hu) (pe_ix (ix_B hu) (pv 0) (pe_int) (fun _ _ => rfl)) (pe_lst (pa_cons (pe_str) (pa_cons (pe_str) (pa_cons (pe_str) (pa_cons (pe_str) pa_nil))))) (by rfl)))))) (pss_one (ps_ret (pe_bl))) pss_nil)
    (pss_cons (ps_set (i := 1) nd (by rfl) (Or.inl rfl) (pe_callTy call_listA (by rfl) T.b_list (by decide +kernel) (pa_cons (pe_slice sl_A (pv 0) (po_some (pe_int)) po_none) pa_nil)))
    (pss_cons (ps_if (pt_cmpR (op_neA hu) (pe_callB call_lenA (by rfl) T.b_len (by decide +kernel) (pa_cons (pv 1) pa_nil)) (pe_ix (ix_B hu) (pe_disp (pps_cons (pe_str) (pe_int) (pps_cons (pe_str) (pe_int) (pps_cons (pe_str) (pe_int) (pps_cons (pe_str) (pe_int) pps_nil)))) (by rfl) (by rfl) (fun z => by cases z) (by decide)) (pe_ix (ix_B hu) (pv 0) (pe_int) (fun _ _ => rfl)) (fun _ _ => rfl)) (nomark _)) (pss_one (ps_ret (pe_bl))) pss_nil)
    (pss_cons (ps_if (pt_cmpR (op_eqA hu) (pe_ix (ix_B hu) (pv 0) (pe_int) (fun _ _ => rfl)) (pe_str) (nomark _)) (pss_one (ps_ret ((pe_and (pe_callF F_law_is_name (hr.mono (by decide)) (by rfl) pass0 (pa_cons (pe_ix (ix_B hu) (pv 1) (pe_int) (fun _ _ => rfl)) pa_nil)) (pe_one (pe_callF F_law_is_span (hr.mono (by decide)) (by rfl) pass0 (pa_cons (pe_ix (ix_B hu) (pv 1) (pe_int) (fun _ _ => rfl)) pa_nil))))))) pss_nil)
    (pss_cons (ps_set (i := 2) nd (by rfl) (Or.inr rfl) (pv 1))
    (pss_cut (ps_if (pt_cmpR (op_eqA hu) (pe_ix (ix_B hu) (pv 0) (pe_int) (fun _ _ => rfl)) (pe_str) (nomark _)) (pss_cons (ps_if (PW.pt (pw_or (pt_cmpR op_isA (pe_ix (ix_B hu) (pv 1) (pe_int) (fun _ _ => rfl)) (pe_non) (nomark _)) (pw_or1 (pt_not (pt_val (pe_callF F_law_is_limit (hr.mono (by decide)) (by rfl) pass0 (pa_cons (pe_ix (ix_B hu) (pv 1) (pe_int) (fun _ _ => rfl)) pa_nil))))))) (pss_one (ps_ret (pe_bl))) pss_nil)
    (pss_one (ps_set (i := 2) nd (by rfl) (Or.inr rfl) (pe_op op_addA (pe_lst (pa_cons (pe_ix (ix_B hu) (pv 1) (pe_int) (fun _ _ => rfl)) pa_nil)) (pe_slice sl_A (pv 1) (po_some (pe_int)) po_none))))) pss_nil)
    (pss_cons (ps_if (pt_cmpR (op_neA hu) (pe_lc (own := [("name", 3)]) rfl nd (pi_any (pv 2)) (blkOk_by (own := [("name", 3)]) (N := ["value", "given", "names", "name", "k"]) (sc := defScope s_law_is_change) (by decide +kernel)) (fun _ _ _ _ _ => (pg_name (i := 3) nd (by rfl) (by first | exact Or.inl rfl | exact Or.inr rfl))) (fun _ _ _ _ _ => (pts_one (pt_not (pt_val (pe_callF F_law_is_name (hr.mono (by decide)) (by rfl) pass0 (pa_cons (pv 3) pa_nil)))))) (fun _ _ _ _ _ => (pv 3))) (pe_lst pa_nil) (nomark _)) (pss_one (ps_ret (pe_bl))) pss_nil)
    (pss_one (ps_ret (pe_cmpR (op_eqA hu) (pe_lc (own := [("k", 4)]) rfl nd (pi_range1 (by rfl) T.b_range (pa_cons (pe_callB call_lenA (by rfl) T.b_len (by decide +kernel) (pa_cons (pv 2) pa_nil)) pa_nil)) (blkOk_by (own := [("k", 4)]) (N := ["value", "given", "names", "name", "k"]) (sc := defScope s_law_is_change) (by decide +kernel)) (fun _ _ _ _ _ => (pg_name (i := 4) nd (by rfl) (by first | exact Or.inl rfl | exact Or.inr rfl))) (fun _ _ _ _ _ => (pts_one (pt_cmpR (op_inB hu) (pe_ix (ix_B hu) (pv 2) (pv 4) (fun _ _ => rfl)) (pe_slice sl_A (pv 2) po_none (po_some (pv 4))) (by rfl)))) (fun _ _ _ _ _ => (pv 4))) (pe_lst pa_nil) (nomark _)))))))))))
theorem ok_law_is_change (T : Txt P K mg) (FD : ∃ fd, FunD K "_law_is_change" "_law_is_change" (defArgs s_law_is_change) (defBody s_law_is_change) (defScope s_law_is_change) [] [] (He.ga K "_law_is_change") fd) (hm : mg "_law_is_change" = some (.ref (He.ga K "_law_is_change"))) (F_law_is_name : Fok P w K mg base CX0 1 "_law_is_name" ["value"] (sp_law_is_name K)) (F_law_is_span : Fok P w K mg base CX0 2 "_law_is_span" ["value"] (sp_law_is_span K)) (F_law_is_limit : Fok P w K mg base CX0 1 "_law_is_limit" ["value"] (sp_law_is_limit K))  : Fok P w K mg base CX0 3 "_law_is_change" ["value"] (sp_law_is_change K) := by
  obtain ⟨fd, F⟩ := FD
  exact ⟨⟨fd, okf_law_is_change T F F_law_is_name F_law_is_span F_law_is_limit , F.bindsN fun _ _ _ _ _ _ us hl => match us, hl with | [_], _ => rfl⟩, hm, F.kp⟩
abbrev s_law_right : Stmt := top 32
theorem sc_law_right : FnScope ["box", "names", "at", "changes"] ["box", "names"] (defScope s_law_right) := ⟨rfl, rfl, rfl, by decide +kernel, rfl, by decide +kernel, by decide +kernel⟩
theorem okf_law_right {fd : FuncData} (T : Txt P K mg) (F : FunD K "_law_right" "_law_right" (defArgs s_law_right) (defBody s_law_right) (defScope s_law_right) [] [] (He.ga K "_law_right") fd) (F_law_take : Fok P w K mg base CX0 1 "_law_take" ["box", "many"] (sp_law_take K))  : FnOk P w K mg base CX0 2 (He.ga K "_law_right") fd ["box", "names"] (sp_law_right K) := by
  have nd := sc_law_right.nd
  refine F.ok (k := 1) sc_law_right (len_law_right K) (fun cdv A outer s H vs Q E hr h => ⟨t_law_right K, PSs.nox ?_, pure_law_right K vs H Q E h⟩)
  have hu : (A.deeper (envOfC "_law_right" (defScope s_law_right) s.heap.objs.size (He.ga K "_law_right") cdv)).units + 64 < cLine := by
    have h1 := hr.un
    omega
  exact (pss_cons (ps_set (i := 2) nd (by rfl) (Or.inl rfl) (pe_op op_subA (pe_callF F_law_take (hr.mono (by decide)) (by rfl) pass0 (pa_cons (pv 0) (pa_cons (pe_int) pa_nil))) (pe_int)))
    (pss_cons (ps_set (i := 3) nd (by rfl) (Or.inl rfl) (pe_lst (pa_cons (pe_tup (pa_cons (pe_str) (pa_cons (pe_ix (ix_B hu) (pv 1) (pe_int) (fun _ _ => rfl)) (pa_cons (pe_tup (pa_cons (pv 2) (pa_cons (pe_op op_addA (pv 2) (pe_int)) pa_nil))) pa_nil)))) (pa_cons (pe_tup (pa_cons (pe_str) (pa_cons (pe_ix (ix_B hu) (pv 1) (pe_int) (fun _ _ => rfl)) (pa_cons (pe_tup (pa_cons (pe_non) (pa_cons (pv 2) pa_nil))) pa_nil)))) (pa_cons (pe_tup (pa_cons (pe_str) (pa_cons (pe_ix (ix_B hu) (pv 1) (pe_int) (fun _ _ => rfl)) pa_nil))) pa_nil)))))
    (pss_cons (ps_set (i := 3) nd (by rfl) (Or.inl rfl) (pe_op op_addA (pv 3) (pe_lst (pa_cons (pe_tup (pa_cons (pe_str) (pa_cons (pe_ix (ix_B hu) (pv 1) (pe_int) (fun _ _ => rfl)) (pa_cons (pv 2) (pa_cons (pe_ix (ix_B hu) (pv 1) (pe_int) (fun _ _ => rfl)) (pa_cons (pe_ix (ix_B hu) (pv 1) (pe_int) (fun _ _ => rfl)) pa_nil)))))) (pa_cons (pe_tup (pa_cons (pe_str) (pa_cons (pe_ix (ix_B hu) (pv 1) (pe_int) (fun _ _ => rfl)) (pa_cons (pe_ix (ix_B hu) (pv 1) (pe_int) (fun _ _ => rfl)) (pa_cons (pe_ix (ix_B hu) (pv 1) (pe_int) (fun _ _ => rfl)) pa_nil))))) pa_nil)))))
    (pss_one (ps_ret (pe_ix (ix_B hu) (pv 3) (pe_callF F_law_take (hr.mono (by decide)) (by rfl) pass0 (pa_cons (pv 0) (pa_cons (pe_int) pa_nil))) (fun _ _ => rfl)))))))
theorem ok_law_right (T : Txt P K mg) (FD : ∃ fd, FunD K "_law_right" "_law_right" (defArgs s_law_right) (defBody s_law_right) (defScope s_law_right) [] [] (He.ga K "_law_right") fd) (hm : mg "_law_right" = some (.ref (He.ga K "_law_right"))) (F_law_take : Fok P w K mg base CX0 1 "_law_take" ["box", "many"] (sp_law_take K))  : Fok P w K mg base CX0 2 "_law_right" ["box", "names"] (sp_law_right K) := by
  obtain ⟨fd, F⟩ := FD
  exact ⟨⟨fd, okf_law_right T F F_law_take , F.bindsN fun _ _ _ _ _ _ us hl => match us, hl with | [_, _], _ => rfl⟩, hm, F.kp⟩
abbrev s_law_bent : Stmt := top 33
theorem sc_law_bent : FnScope ["box", "change", "items", "at", "odd", "way"] ["box", "change"] (defScope s_law_bent) := ⟨rfl, rfl, rfl, by decide +kernel, rfl, by decide +kernel, by decide +kernel⟩
theorem okf_law_bent {fd : FuncData} (T : Txt P K mg) (F : FunD K "_law_bent" "_law_bent" (defArgs s_law_bent) (defBody s_law_bent) (defScope s_law_bent) [] [] (He.ga K "_law_bent") fd) (F_law_take : Fok P w K mg base CX0 1 "_law_take" ["box", "many"] (sp_law_take K))  : FnOk P w K mg base CX0 2 (He.ga K "_law_bent") fd ["box", "change"] (sp_law_bent K) := by
  have nd := sc_law_bent.nd
  refine F.ok (k := 1) sc_law_bent (len_law_bent K) (fun cdv A outer s H vs Q E hr h => ⟨t_law_bent K, PSs.nox ?_, pure_law_bent K vs H Q E h⟩)
  have hu : (A.deeper (envOfC "_law_bent" (defScope s_law_bent) s.heap.objs.size (He.ga K "_law_bent") cdv)).units + 64 < cLine := by
    have h1 := hr.un
    omega
  exact (pss_cons (ps_set (i := 2) nd (by rfl) (Or.inl rfl) (pe_callTy call_listA (by rfl) T.b_list (by decide +kernel) (pa_cons (pv 1) pa_nil)))
    (pss_cons (ps_set (i := 3) nd (by rfl) (Or.inl rfl) (pe_callF F_law_take (hr.mono (by decide)) (by rfl) pass0 (pa_cons (pv 0) (pa_cons (pe_callB call_lenA (by rfl) T.b_len (by decide +kernel) (pa_cons (pv 2) pa_nil)) pa_nil))))
    (pss_cons (ps_set (i := 4) nd (by rfl) (Or.inl rfl) (pe_ix (ix_B hu) (pe_lst (pa_cons (pe_non) (pa_cons (pe_int) (pa_cons (pe_bl) (pa_cons (pe_str) (pa_cons (pe_str) (pa_cons (pe_str) (pa_cons (pe_str) (pa_cons (pe_tup (pa_cons (pe_int) (pa_cons (pe_int) pa_nil))) (pa_cons (pe_lst (pa_cons (pe_int) (pa_cons (pe_int) pa_nil))) (pa_cons (pe_tup (pa_cons (pe_str) pa_nil)) (pa_cons (pe_str) pa_nil)))))))))))) (pe_callF F_law_take (hr.mono (by decide)) (by rfl) pass0 (pa_cons (pv 0) (pa_cons (pe_int) pa_nil))) (fun _ _ => rfl)))
    (pss_cons (ps_set (i := 5) nd (by rfl) (Or.inl rfl) (pe_callF F_law_take (hr.mono (by decide)) (by rfl) pass0 (pa_cons (pv 0) (pa_cons (pe_int) pa_nil))))
    (pss_cut (ps_if (pt_cmpR (op_eqA hu) (pv 5) (pe_int) (nomark _)) (pss_one (ps_asg (pv 4) (pg_sub (pv 2) (pv 3) (set_B hu)))) pss_nil)
    (pss_cut (ps_if (pt_cmpR (op_eqA hu) (pv 5) (pe_int) (nomark _)) (pss_one (ps_expr (pe_bm PySem.F.plainAttrs_list PySem.F.slot_list_pop PySem.F.type_list_pop mt_popA (pv 2) (pa_cons (pv 3) pa_nil)))) pss_nil)
    (pss_cut (ps_if (pt_cmpR (op_eqA hu) (pv 5) (pe_int) (nomark _)) (pss_one (ps_expr (pe_bm PySem.F.plainAttrs_list PySem.F.slot_list_insert PySem.F.type_list_insert mt_insertA (pv 2) (pa_cons (pv 3) (pa_cons (pv 4) pa_nil))))) pss_nil)
    (pss_cut (ps_if (pt_cmpR (op_eqA hu) (pv 5) (pe_int) (nomark _)) (pss_one (ps_asg (pe_ix (ix_B hu) (pv 2) (pe_un un_neg (pe_int)) (fun _ _ => rfl)) (pg_sub (pv 2) (pv 3) (set_B hu)))) pss_nil)
    (pss_one (ps_ret (pe_ix (ix_B hu) (pe_lst (pa_cons (pe_callTy call_tupA (by rfl) T.b_tuple (by decide +kernel) (pa_cons (pv 2) pa_nil)) (pa_cons (pv 2) pa_nil))) (pe_callTy call_intA (by rfl) T.b_int (by decide +kernel) (pa_cons (pe_cmpR (op_eqA hu) (pv 5) (pe_int) (nomark _)) pa_nil)) (fun _ _ => rfl))))))))))))
theorem ok_law_bent (T : Txt P K mg) (FD : ∃ fd, FunD K "_law_bent" "_law_bent" (defArgs s_law_bent) (defBody s_law_bent) (defScope s_law_bent) [] [] (He.ga K "_law_bent") fd) (hm : mg "_law_bent" = some (.ref (He.ga K "_law_bent"))) (F_law_take : Fok P w K mg base CX0 1 "_law_take" ["box", "many"] (sp_law_take K))  : Fok P w K mg base CX0 2 "_law_bent" ["box", "change"] (sp_law_bent K) := by
  obtain ⟨fd, F⟩ := FD
  exact ⟨⟨fd, okf_law_bent T F F_law_take , F.bindsN fun _ _ _ _ _ _ us hl => match us, hl with | [_, _], _ => rfl⟩, hm, F.kp⟩
abbrev s_law_told : Stmt := top 34
theorem sc_law_told : FnScope ["value", "e"] ["value"] (defScope s_law_told) := ⟨rfl, rfl, rfl, by decide +kernel, rfl, by decide +kernel, by decide +kernel⟩
theorem okf_law_told {fd : FuncData} (T : Txt P K mg) (F : FunD K "_law_told" "_law_told" (defArgs s_law_told) (defBody s_law_told) (defScope s_law_told) [] [] (He.ga K "_law_told") fd) (F_roles : Fok P w K mg base (L2.CX P w) 6 "roles" ["change"] (sp_roles K))  : FnOk P w K mg base CX0 7 (He.ga K "_law_told") fd ["value"] (sp_law_told K) := by
  have nd := sc_law_told.nd
  refine F.ok (k := 6) sc_law_told (len_law_told K) (fun cdv A outer s H vs Q E hr h => ⟨t_law_told K, PSs.nox ?_, pure_law_told K vs H Q E T.exm h⟩)
  have hu : (A.deeper (envOfC "_law_told" (defScope s_law_told) s.heap.objs.size (He.ga K "_law_told") cdv)).units + 64 < cLine := by
    have h1 := hr.un
    omega
  exact (pss_one (ps_try_mix (tb := fun W => (tRet (tLst (tCons (tC (.str "told")) (tCons (tCallS (sp_roles K) (WE W) (tCons (tVar 0) tNil)) tNil))))) (Wout := (fun _ _ _ _ => False)) (l := (.ref (He.ga K "InvalidChange"), some 1, fun a cls d => (tRet (tLst (tCons (tC (.str "change")) (tCons (tXf a cls d (He.ga K "InvalidChange") "value" (tVar 1)) tNil))))) :: ([])) rfl rfl takes_none5 (fun W pn xe tk po => (pss_one (ps_ret (pe_lst (pa_cons (pe_str) (pa_cons (pe_callG F_roles (hr.mono (by decide)) (by rfl) tk (pa_cons (pv 0) pa_nil)) pa_nil)))))) (HdZ.as_ nd (by rfl) rfl ⟨by rfl, by decide, Or.inl T.g_InvalidChange⟩ (fun a oe cls d pn hz hf => (pss_one (ps_ret (pe_lst (pa_cons (pe_str) (pa_cons (pe_xf T.xf_InvalidChange T.na_InvalidChange_value hz hf (pv 1)) pa_nil)))))) HdZ.nil)))
theorem ok_law_told (T : Txt P K mg) (FD : ∃ fd, FunD K "_law_told" "_law_told" (defArgs s_law_told) (defBody s_law_told) (defScope s_law_told) [] [] (He.ga K "_law_told") fd) (hm : mg "_law_told" = some (.ref (He.ga K "_law_told"))) (F_roles : Fok P w K mg base (L2.CX P w) 6 "roles" ["change"] (sp_roles K))  : Fok P w K mg base CX0 7 "_law_told" ["value"] (sp_law_told K) := by
  obtain ⟨fd, F⟩ := FD
  exact ⟨⟨fd, okf_law_told T F F_roles , F.bindsN fun _ _ _ _ _ _ us hl => match us, hl with | [_], _ => rfl⟩, hm, F.kp⟩
abbrev s_law_roles : Stmt := top 35
theorem sc_law_roles : FnScope ["change"] ["change"] (defScope s_law_roles) := ⟨rfl, rfl, rfl, by decide +kernel, rfl, by decide +kernel, by decide +kernel⟩
theorem okf_law_roles {fd : FuncData} (T : Txt P K mg) (F : FunD K "_law_roles" "_law_roles" (defArgs s_law_roles) (defBody s_law_roles) (defScope s_law_roles) [] [] (He.ga K "_law_roles") fd)   : FnOk P w K mg base CX0 1 (He.ga K "_law_roles") fd ["change"] (sp_law_roles K) := by
  have nd := sc_law_roles.nd
  refine F.ok (k := 0) sc_law_roles (len_law_roles K) (fun cdv A outer s H vs Q E hr h => ⟨t_law_roles K, PSs.nox ?_, pure_law_roles K vs H Q E h⟩)
  have hu : (A.deeper (envOfC "_law_roles" (defScope s_law_roles) s.heap.objs.size (He.ga K "_law_roles") cdv)).units + 64 < cLine := by
    have h1 := hr.un
    omega
  exact (pss_cons (ps_if (pt_cmpR (op_inB hu) (pe_ix (ix_B hu) (pv 0) (pe_int) (fun _ _ => rfl)) (pe_lst (pa_cons (pe_str) (pa_cons (pe_str) pa_nil))) (by rfl)) (pss_one (ps_ret (pe_ix (ix_B hu) (pe_lst (pa_cons (pe_tup (pa_cons (pe_lst pa_nil) (pa_cons (pe_lst (pa_cons (pe_ix (ix_B hu) (pv 0) (pe_int) (fun _ _ => rfl)) pa_nil)) pa_nil))) (pa_cons (pe_tup (pa_cons (pe_lst (pa_cons (pe_ix (ix_B hu) (pv 0) (pe_int) (fun _ _ => rfl)) pa_nil)) (pa_cons (pe_lst pa_nil) pa_nil))) pa_nil))) (pe_callTy call_intA (by rfl) T.b_int (by decide +kernel) (pa_cons (pe_cmpR (op_eqA hu) (pe_ix (ix_B hu) (pv 0) (pe_int) (fun _ _ => rfl)) (pe_str) (nomark _)) pa_nil)) (fun _ _ => rfl)))) pss_nil)
    (pss_cons (ps_if (pt_cmpR (op_eqA hu) (pe_ix (ix_B hu) (pv 0) (pe_int) (fun _ _ => rfl)) (pe_str) (nomark _)) (pss_one (ps_ret (pe_tup (pa_cons (pe_lst (pa_cons (pe_ix (ix_B hu) (pv 0) (pe_int) (fun _ _ => rfl)) pa_nil)) (pa_cons (pe_lst (pa_cons (pe_ix (ix_B hu) (pv 0) (pe_int) (fun _ _ => rfl)) (pa_cons (pe_ix (ix_B hu) (pv 0) (pe_int) (fun _ _ => rfl)) pa_nil))) pa_nil))))) pss_nil)
    (pss_one (ps_ret (pe_tup (pa_cons (pe_lst (pa_cons (pe_ix (ix_B hu) (pv 0) (pe_int) (fun _ _ => rfl)) (pa_cons (pe_ix (ix_B hu) (pv 0) (pe_int) (fun _ _ => rfl)) pa_nil))) (pa_cons (pe_lst (pa_cons (pe_ix (ix_B hu) (pv 0) (pe_int) (fun _ _ => rfl)) pa_nil)) pa_nil)))))))
theorem ok_law_roles (T : Txt P K mg) (FD : ∃ fd, FunD K "_law_roles" "_law_roles" (defArgs s_law_roles) (defBody s_law_roles) (defScope s_law_roles) [] [] (He.ga K "_law_roles") fd) (hm : mg "_law_roles" = some (.ref (He.ga K "_law_roles")))   : Fok P w K mg base CX0 1 "_law_roles" ["change"] (sp_law_roles K) := by
  obtain ⟨fd, F⟩ := FD
  exact ⟨⟨fd, okf_law_roles T F  , F.bindsN fun _ _ _ _ _ _ us hl => match us, hl with | [_], _ => rfl⟩, hm, F.kp⟩
abbrev s_law : Stmt := top 36
theorem sc_law : FnScope ["script", "k", "box", "change", "values", "value", "due", "known", "told"] ["script"] (defScope s_law) := ⟨rfl, rfl, rfl, by decide +kernel, rfl, by decide +kernel, by decide +kernel⟩
theorem okf_law {fd : FuncData} (T : Txt P K mg) (F : FunD K "law" "law" (defArgs s_law) (defBody s_law) (defScope s_law) [] [] (He.ga K "law") fd) (F_law_box : Fok P w K mg base CX0 1 "_law_box" ["cell"] (sp_law_box K)) (F_law_cell : Fok P w K mg base CX0 1 "_law_cell" ["script", "k"] (sp_law_cell K)) (F_law_right : Fok P w K mg base CX0 2 "_law_right" ["box", "names"] (sp_law_right K)) (F_law_names : Fok P w K mg base CX0 3 "_law_names" ["box", "many"] (sp_law_names K)) (F_law_bent : Fok P w K mg base CX0 2 "_law_bent" ["box", "change"] (sp_law_bent K)) (F_law_take : Fok P w K mg base CX0 1 "_law_take" ["box", "many"] (sp_law_take K)) (F_law_is_change : Fok P w K mg base CX0 3 "_law_is_change" ["value"] (sp_law_is_change K)) (F_is_change : Fok P w K mg base CX0 4 "is_change" ["value"] (sp_is_change K)) (F_law_told : Fok P w K mg base CX0 7 "_law_told" ["value"] (sp_law_told K)) (F_law_roles : Fok P w K mg base CX0 1 "_law_roles" ["change"] (sp_law_roles K)) (F_roles : Fok P w K mg base (L2.CX P w) 6 "roles" ["change"] (sp_roles K))  : FnOk P w K mg base CX0 8 (He.ga K "law") fd ["script"] (sp_law K) := by
  have nd := sc_law.nd
  refine F.ok (k := 7) sc_law (len_law K) (fun cdv A outer s H vs Q E hr h => ⟨t_law K, PSs.nox ?_, pure_law K vs H Q E h⟩)
  have hu : (A.deeper (envOfC "law" (defScope s_law) s.heap.objs.size (He.ga K "law") cdv)).units + 64 < cLine := by
    have h1 := hr.un
    omega
  exact (pss_cons (ps_for PassesOwn.never rfl (pi_range1 (by rfl) T.b_range (pa_cons (pe_callB (call_maxA rfl) (by rfl) T.b_max (by decide +kernel) (pa_cons (pe_int) (pa_cons (pe_callB (call_minA rfl) (by rfl) T.b_min (by decide +kernel) (pa_cons (pe_int) (pa_cons (pe_callB call_lenA (by rfl) T.b_len (by decide +kernel) (pa_cons (pv 0) pa_nil)) pa_nil))) pa_nil))) pa_nil)) (pg_name (i := 1) nd (by rfl) (by first | exact Or.inl rfl | exact Or.inr rfl)) (pss_cons (ps_set (i := 2) nd (by rfl) (Or.inl rfl) (pe_callF F_law_box (hr.mono (by decide)) (by rfl) pass0 (pa_cons (pe_callF F_law_cell (hr.mono (by decide)) (by rfl) pass0 (pa_cons (pv 0) (pa_cons (pv 1) pa_nil))) pa_nil)))
    (pss_cons (ps_set (i := 3) nd (by rfl) (Or.inl rfl) (pe_callF F_law_right (hr.mono (by decide)) (by rfl) pass0 (pa_cons (pv 2) (pa_cons (pe_callF F_law_names (hr.mono (by decide)) (by rfl) pass0 (pa_cons (pv 2) (pa_cons (pe_int) pa_nil))) pa_nil))))
    (pss_cons (ps_set (i := 4) nd (by rfl) (Or.inl rfl) (pe_lst (pa_cons (pv 3) (pa_cons (pe_callF F_law_bent (hr.mono (by decide)) (by rfl) pass0 (pa_cons (pv 2) (pa_cons (pv 3) pa_nil))) (pa_cons (pe_callF F_law_bent (hr.mono (by decide)) (by rfl) pass0 (pa_cons (pv 2) (pa_cons ((pe_orT (pe_callF F_law_bent (hr.mono (by decide)) (by rfl) pass0 (pa_cons (pv 2) (pa_cons (pv 3) pa_nil))) (pe_one (pe_tup (pa_cons (pe_int) pa_nil))))) pa_nil))) (pa_cons (pe_tup pa_nil) pa_nil))))))
    (pss_cons (ps_expr (pe_bm PySem.F.plainAttrs_list PySem.F.slot_list_append PySem.F.type_list_append mt_append (pv 4) (pa_cons (pe_ix (ix_B hu) (pe_lst (pa_cons (pe_non) (pa_cons (pe_int) (pa_cons (pe_str) (pa_cons (pe_lst (pa_cons (pe_str) (pa_cons (pe_str) pa_nil))) (pa_cons (pe_dnewK) (pa_cons (pe_tup (pa_cons (pe_tup (pa_cons (pe_str) pa_nil)) pa_nil)) (pa_cons (pe_tup (pa_cons (pe_str) pa_nil)) pa_nil)))))))) (pe_callF F_law_take (hr.mono (by decide)) (by rfl) pass0 (pa_cons (pv 2) (pa_cons (pe_int) pa_nil))) (fun _ _ => rfl)) pa_nil)))
    (pss_one (ps_for PassesOwn.never rfl (pi_any (pv 4)) (pg_name (i := 5) nd (by rfl) (by first | exact Or.inl rfl | exact Or.inr rfl)) (pss_cons (ps_set (i := 6) nd (by rfl) (Or.inl rfl) (pe_callF F_law_is_change (hr.mono (by decide)) (by rfl) pass0 (pa_cons (pv 5) pa_nil)))
    (pss_cons (ps_set (i := 7) nd (by rfl) (Or.inl rfl) (pe_callF F_is_change (hr.mono (by decide)) (by rfl) pass0 (pa_cons (pv 5) pa_nil)))
    (pss_cons (ps_if (PW.pt (pw_or (pt_not (pt_val (pe_callB call_isi (by rfl) T.b_isinstance (by decide +kernel) (pa_cons (pv 7) (pa_cons (pe_bltn (by rfl) T.b_bool (by decide +kernel) rfl) pa_nil))))) (pw_or1 (pt_cmpR (op_neA hu) (pv 7) (pv 6) (nomark _))))) (pss_one (ps_ret (pe_bl))) pss_nil)
    (pss_cons (ps_set (i := 8) nd (by rfl) (Or.inl rfl) (pe_callF F_law_told (hr.mono (by decide)) (by rfl) pass0 (pa_cons (pv 5) pa_nil)))
    (pss_cons (ps_if (pt_cmpR (op_neA hu) (pv 8) (pe_ifExp (pt_val (pv 6)) (pe_lst (pa_cons (pe_str) (pa_cons (pe_callF F_law_roles (hr.mono (by decide)) (by rfl) pass0 (pa_cons (pv 5) pa_nil)) pa_nil))) (pe_lst (pa_cons (pe_str) (pa_cons (pv 5) pa_nil)))) (nomark _)) (pss_one (ps_ret (pe_bl))) pss_nil)
    (pss_one (ps_if (pt_val (pv 6)) (pss_cons (ps_expr (pe_bm PySem.F.plainAttrs_list PySem.F.slot_list_append PySem.F.type_list_append mt_append (pe_ix (ix_B hu) (pe_ix (ix_B hu) (pv 8) (pe_int) (fun _ _ => rfl)) (pe_int) (fun _ _ => rfl)) (pa_cons (pe_str) pa_nil)))
    (pss_one (ps_if (pt_cmpR (op_neA hu) (pe_callF F_roles (hr.mono (by decide)) (by rfl) passL (pa_cons (pv 5) pa_nil)) (pe_callF F_law_roles (hr.mono (by decide)) (by rfl) pass0 (pa_cons (pv 5) pa_nil)) (nomark _)) (pss_one (ps_ret (pe_bl))) pss_nil))) pss_nil))))))))))))))
    (pss_one (ps_ret (pe_bl))))
theorem ok_law (T : Txt P K mg) (FD : ∃ fd, FunD K "law" "law" (defArgs s_law) (defBody s_law) (defScope s_law) [] [] (He.ga K "law") fd) (hm : mg "law" = some (.ref (He.ga K "law"))) (F_law_box : Fok P w K mg base CX0 1 "_law_box" ["cell"] (sp_law_box K)) (F_law_cell : Fok P w K mg base CX0 1 "_law_cell" ["script", "k"] (sp_law_cell K)) (F_law_right : Fok P w K mg base CX0 2 "_law_right" ["box", "names"] (sp_law_right K)) (F_law_names : Fok P w K mg base CX0 3 "_law_names" ["box", "many"] (sp_law_names K)) (F_law_bent : Fok P w K mg base CX0 2 "_law_bent" ["box", "change"] (sp_law_bent K)) (F_law_take : Fok P w K mg base CX0 1 "_law_take" ["box", "many"] (sp_law_take K)) (F_law_is_change : Fok P w K mg base CX0 3 "_law_is_change" ["value"] (sp_law_is_change K)) (F_is_change : Fok P w K mg base CX0 4 "is_change" ["value"] (sp_is_change K)) (F_law_told : Fok P w K mg base CX0 7 "_law_told" ["value"] (sp_law_told K)) (F_law_roles : Fok P w K mg base CX0 1 "_law_roles" ["change"] (sp_law_roles K)) (F_roles : Fok P w K mg base (L2.CX P w) 6 "roles" ["change"] (sp_roles K))  : Fok P w K mg base CX0 8 "law" ["script"] (sp_law K) := by
  obtain ⟨fd, F⟩ := FD
  exact ⟨⟨fd, okf_law T F F_law_box F_law_cell F_law_right F_law_names F_law_bent F_law_take F_law_is_change F_is_change F_law_told F_law_roles F_roles , F.bindsN fun _ _ _ _ _ _ us hl => match us, hl with | [_], _ => rfl⟩, hm, F.kp⟩
end
/-! ### the head's facts -/
def fa : List He.Fa := [.free "all", .free "bool", .free "int", .free "isinstance", .free "len", .free "list", .free "max", .free "min", .free "range", .free "str", .free "super", .free "tuple", .str "HANG" "hang", .glo "InvalidChange", .str "JOIN" "join", .str "LETTERS" "abcdefghijklmnopqrstuvwxyz", .int "MOST_LETTERS" 8, .str "SPLIT" "split", .str "TABLE" "table", .str "TAKE" "take", .exm "InvalidChange" "InvalidChange" true, .glo "is_integer", .glo "is_name", .glo "is_limit", .glo "is_span", .glo "are_names", .glo "is_change", .glo "need_change", .glo "old_parts", .glo "new_parts", .glo "roles", .glo "_law_cell", .glo "_law_box", .glo "_law_take", .glo "_law_mixed", .glo "_law_names", .glo "_law_is_name", .glo "_law_is_limit", .glo "_law_is_span", .glo "_law_is_change", .glo "_law_right", .glo "_law_bent", .glo "_law_told", .glo "_law_roles", .glo "law"]
def fn : List He.DefD := [⟨("is_integer", none), "is_integer", "is_integer", defArgs s_is_integer, defBody s_is_integer, defScope s_is_integer, [], []⟩, ⟨("is_name", none), "is_name", "is_name", defArgs s_is_name, defBody s_is_name, defScope s_is_name, [], []⟩, ⟨("is_limit", none), "is_limit", "is_limit", defArgs s_is_limit, defBody s_is_limit, defScope s_is_limit, [], []⟩, ⟨("is_span", none), "is_span", "is_span", defArgs s_is_span, defBody s_is_span, defScope s_is_span, [], []⟩, ⟨("are_names", none), "are_names", "are_names", defArgs s_are_names, defBody s_are_names, defScope s_are_names, [], []⟩, ⟨("is_change", none), "is_change", "is_change", defArgs s_is_change, defBody s_is_change, defScope s_is_change, [], []⟩, ⟨("need_change", none), "need_change", "need_change", defArgs s_need_change, defBody s_need_change, defScope s_need_change, [], []⟩, ⟨("old_parts", none), "old_parts", "old_parts", defArgs s_old_parts, defBody s_old_parts, defScope s_old_parts, [], []⟩, ⟨("new_parts", none), "new_parts", "new_parts", defArgs s_new_parts, defBody s_new_parts, defScope s_new_parts, [], []⟩, ⟨("roles", none), "roles", "roles", defArgs s_roles, defBody s_roles, defScope s_roles, [], []⟩, ⟨("_law_cell", none), "_law_cell", "_law_cell", defArgs s_law_cell, defBody s_law_cell, defScope s_law_cell, [], []⟩, ⟨("_law_box", none), "_law_box", "_law_box", defArgs s_law_box, defBody s_law_box, defScope s_law_box, [], []⟩, ⟨("_law_take", none), "_law_take", "_law_take", defArgs s_law_take, defBody s_law_take, defScope s_law_take, [], []⟩, ⟨("_law_mixed", none), "_law_mixed", "_law_mixed", defArgs s_law_mixed, defBody s_law_mixed, defScope s_law_mixed, [], []⟩, ⟨("_law_names", none), "_law_names", "_law_names", defArgs s_law_names, defBody s_law_names, defScope s_law_names, [], []⟩, ⟨("_law_is_name", none), "_law_is_name", "_law_is_name", defArgs s_law_is_name, defBody s_law_is_name, defScope s_law_is_name, [], []⟩, ⟨("_law_is_limit", none), "_law_is_limit", "_law_is_limit", defArgs s_law_is_limit, defBody s_law_is_limit, defScope s_law_is_limit, [], []⟩, ⟨("_law_is_span", none), "_law_is_span", "_law_is_span", defArgs s_law_is_span, defBody s_law_is_span, defScope s_law_is_span, [], []⟩, ⟨("_law_is_change", none), "_law_is_change", "_law_is_change", defArgs s_law_is_change, defBody s_law_is_change, defScope s_law_is_change, [], []⟩, ⟨("_law_right", none), "_law_right", "_law_right", defArgs s_law_right, defBody s_law_right, defScope s_law_right, [], []⟩, ⟨("_law_bent", none), "_law_bent", "_law_bent", defArgs s_law_bent, defBody s_law_bent, defScope s_law_bent, [], []⟩, ⟨("_law_told", none), "_law_told", "_law_told", defArgs s_law_told, defBody s_law_told, defScope s_law_told, [], []⟩, ⟨("_law_roles", none), "_law_roles", "_law_roles", defArgs s_law_roles, defBody s_law_roles, defScope s_law_roles, [], []⟩, ⟨("law", none), "law", "law", defArgs s_law, defBody s_law, defScope s_law, [], []⟩]
def fs : List ((Str × Option Str) × FnS) := [(("InvalidChange", some "__init__"), some ("__init__", "InvalidChange.__init__", (PySem.Sxvalue.iA ⟨6, 17, 6, 21⟩ ⟨6, 23, 6, 28⟩), FuncBody.stmts (PySem.Sxvalue.iB "the value is not a change" ⟨7, 8, 7, 13⟩ ⟨7, 8, 7, 15⟩ ⟨7, 8, 7, 24⟩ ⟨7, 25, 7, 52⟩ ⟨7, 8, 7, 53⟩ ⟨7, 8, 7, 53⟩ ⟨8, 8, 8, 12⟩ ⟨8, 8, 8, 18⟩ ⟨8, 21, 8, 26⟩ ⟨8, 8, 8, 26⟩), PySem.Sxvalue.iS, mainGlobals, [("__class__" : Str)], builtinsNs))]
def cu : List (PySem.W.Frag → Bool) := [fun K => Chkvalue PySem.Challenge.pw_shiftparts_k11_changes_and_roles K "InvalidChange", fun K => xfB K (He.ga K "InvalidChange"), fun K => eqB (PySem.W.findIn K (.ref (He.ga K "InvalidChange")) "value") (some none)]
theorem all_ok {P : Program} {w : World} {K : PySem.W.Frag} {h : Heap} {mg : Str → Option Value} {f : Addr} (hPf : P.main.file = PySem.Challenge.pw_shiftparts_k11_changes_and_roles.main.file) (hPs : (P.main.scope.names.lookup ("super" : Str)).isSome = false) (X : K.In h) (G : h.Ns mainGlobals mg) (hfa : mg ("law" : Str) = some (.ref f)) (c : SaysX fa fn fs cu K) :
    ∃ fd : FuncData, (∀ (s : Shared) (v : Value), BindsTo s fd ⟨[v], []⟩ [("script", v)]) ∧ ∀ base : Heap, K.In base → base.Ns mainGlobals mg → FnOk P w K mg base CX0 8 f fd ["script"] (sp_law K) := by
  have T : Txt P K mg := ⟨(He.free_ok X G (c.fact 0 (f := .free "all") rfl)),
    (He.free_ok X G (c.fact 1 (f := .free "bool") rfl)),
    (He.free_ok X G (c.fact 2 (f := .free "int") rfl)),
    (He.free_ok X G (c.fact 3 (f := .free "isinstance") rfl)),
    (He.free_ok X G (c.fact 4 (f := .free "len") rfl)),
    (He.free_ok X G (c.fact 5 (f := .free "list") rfl)),
    (He.free_ok X G (c.fact 6 (f := .free "max") rfl)),
    (He.free_ok X G (c.fact 7 (f := .free "min") rfl)),
    (He.free_ok X G (c.fact 8 (f := .free "range") rfl)),
    (He.free_ok X G (c.fact 9 (f := .free "str") rfl)),
    (He.free_ok X G (c.fact 10 (f := .free "super") rfl)),
    (He.free_ok X G (c.fact 11 (f := .free "tuple") rfl)),
    (He.str_ok X G (c.fact 12 (f := .str "HANG" "hang") rfl)),
    (He.glo_ok X G (c.fact 13 (f := .glo "InvalidChange") rfl)),
    (He.str_ok X G (c.fact 14 (f := .str "JOIN" "join") rfl)),
    (He.str_ok X G (c.fact 15 (f := .str "LETTERS" "abcdefghijklmnopqrstuvwxyz") rfl)),
    (He.int_ok X G (c.fact 16 (f := .int "MOST_LETTERS" 8) rfl)),
    (He.str_ok X G (c.fact 17 (f := .str "SPLIT" "split") rfl)),
    (He.str_ok X G (c.fact 18 (f := .str "TABLE" "table") rfl)),
    (He.str_ok X G (c.fact 19 (f := .str "TAKE" "take") rfl)),
    (chkvalue_ok (P0 := PySem.Challenge.pw_shiftparts_k11_changes_and_roles) (He.glo_ok X G (c.fact 13 (f := .glo "InvalidChange") rfl)) (He.free_ok X G (c.fact 10 (f := .free "super") rfl)) hPf hPs (c.init 0 (f := (("InvalidChange", some "__init__"), some ("__init__", "InvalidChange.__init__", (PySem.Sxvalue.iA ⟨6, 17, 6, 21⟩ ⟨6, 23, 6, 28⟩), FuncBody.stmts (PySem.Sxvalue.iB "the value is not a change" ⟨7, 8, 7, 13⟩ ⟨7, 8, 7, 15⟩ ⟨7, 8, 7, 24⟩ ⟨7, 25, 7, 52⟩ ⟨7, 8, 7, 53⟩ ⟨7, 8, 7, 53⟩ ⟨8, 8, 8, 12⟩ ⟨8, 8, 8, 18⟩ ⟨8, 21, 8, 26⟩ ⟨8, 8, 8, 26⟩), PySem.Sxvalue.iS, mainGlobals, [("__class__" : Str)], builtinsNs))) rfl) (by decide) (c.own 0 (f := fun K => Chkvalue PySem.Challenge.pw_shiftparts_k11_changes_and_roles K "InvalidChange") rfl)),
    (xfB_ok (c.own 1 (f := fun K => xfB K (He.ga K "InvalidChange")) rfl)),
    (eqB_ok (c.own 2 (f := fun K => eqB (PySem.W.findIn K (.ref (He.ga K "InvalidChange")) "value") (some none)) rfl)),
    ⟨He.exm_ok (c.fact 20 (f := .exm "InvalidChange" "InvalidChange" true) rfl)⟩⟩
  have hml := He.glo_ok X G (c.fact 44 (f := .glo "law") rfl)
  have e := hfa.symm.trans hml
  cases e
  obtain ⟨fdL, FL⟩ := c.def_ 23 (d := ⟨("law", none), "law", "law", defArgs s_law, defBody s_law, defScope s_law, [], []⟩) rfl
  have b := FunD.bindsA (ps := ["script"]) FL fun _ _ _ _ _ _ us hl => match us, hl with | [_], _ => rfl
  refine ⟨fdL, fun s v => b s [v] rfl, fun base _ _ => ?_⟩
  have O_is_integer := ok_is_integer (P := P) (w := w) (base := base) T (c.def_ 0 (d := ⟨("is_integer", none), "is_integer", "is_integer", defArgs s_is_integer, defBody s_is_integer, defScope s_is_integer, [], []⟩) rfl) (He.glo_ok X G (c.fact 21 (f := .glo "is_integer") rfl)) 
  have O_is_name := ok_is_name (P := P) (w := w) (base := base) T (c.def_ 1 (d := ⟨("is_name", none), "is_name", "is_name", defArgs s_is_name, defBody s_is_name, defScope s_is_name, [], []⟩) rfl) (He.glo_ok X G (c.fact 22 (f := .glo "is_name") rfl)) 
  have O_is_limit := ok_is_limit (P := P) (w := w) (base := base) T (c.def_ 2 (d := ⟨("is_limit", none), "is_limit", "is_limit", defArgs s_is_limit, defBody s_is_limit, defScope s_is_limit, [], []⟩) rfl) (He.glo_ok X G (c.fact 23 (f := .glo "is_limit") rfl)) O_is_integer
  have O_is_span := ok_is_span (P := P) (w := w) (base := base) T (c.def_ 3 (d := ⟨("is_span", none), "is_span", "is_span", defArgs s_is_span, defBody s_is_span, defScope s_is_span, [], []⟩) rfl) (He.glo_ok X G (c.fact 24 (f := .glo "is_span") rfl)) O_is_limit
  have O_are_names := ok_are_names (P := P) (w := w) (base := base) T (c.def_ 4 (d := ⟨("are_names", none), "are_names", "are_names", defArgs s_are_names, defBody s_are_names, defScope s_are_names, [], []⟩) rfl) (He.glo_ok X G (c.fact 25 (f := .glo "are_names") rfl)) O_is_name
  have O_is_change := ok_is_change (P := P) (w := w) (base := base) T (c.def_ 5 (d := ⟨("is_change", none), "is_change", "is_change", defArgs s_is_change, defBody s_is_change, defScope s_is_change, [], []⟩) rfl) (He.glo_ok X G (c.fact 26 (f := .glo "is_change") rfl)) O_is_name O_is_span O_is_integer O_are_names
  have O_need_change := ok_need_change (P := P) (w := w) (base := base) T (c.def_ 6 (d := ⟨("need_change", none), "need_change", "need_change", defArgs s_need_change, defBody s_need_change, defScope s_need_change, [], []⟩) rfl) (He.glo_ok X G (c.fact 27 (f := .glo "need_change") rfl)) O_is_change
  have O_old_parts := ok_old_parts (P := P) (w := w) (base := base) T (c.def_ 7 (d := ⟨("old_parts", none), "old_parts", "old_parts", defArgs s_old_parts, defBody s_old_parts, defScope s_old_parts, [], []⟩) rfl) (He.glo_ok X G (c.fact 28 (f := .glo "old_parts") rfl)) 
  have O_new_parts := ok_new_parts (P := P) (w := w) (base := base) T (c.def_ 8 (d := ⟨("new_parts", none), "new_parts", "new_parts", defArgs s_new_parts, defBody s_new_parts, defScope s_new_parts, [], []⟩) rfl) (He.glo_ok X G (c.fact 29 (f := .glo "new_parts") rfl)) 
  have O_roles := ok_roles (P := P) (w := w) (base := base) T (c.def_ 9 (d := ⟨("roles", none), "roles", "roles", defArgs s_roles, defBody s_roles, defScope s_roles, [], []⟩) rfl) (He.glo_ok X G (c.fact 30 (f := .glo "roles") rfl)) O_need_change O_new_parts O_old_parts
  have O_law_cell := ok_law_cell (P := P) (w := w) (base := base) T (c.def_ 10 (d := ⟨("_law_cell", none), "_law_cell", "_law_cell", defArgs s_law_cell, defBody s_law_cell, defScope s_law_cell, [], []⟩) rfl) (He.glo_ok X G (c.fact 31 (f := .glo "_law_cell") rfl)) 
  have O_law_box := ok_law_box (P := P) (w := w) (base := base) T (c.def_ 11 (d := ⟨("_law_box", none), "_law_box", "_law_box", defArgs s_law_box, defBody s_law_box, defScope s_law_box, [], []⟩) rfl) (He.glo_ok X G (c.fact 32 (f := .glo "_law_box") rfl)) 
  have O_law_take := ok_law_take (P := P) (w := w) (base := base) T (c.def_ 12 (d := ⟨("_law_take", none), "_law_take", "_law_take", defArgs s_law_take, defBody s_law_take, defScope s_law_take, [], []⟩) rfl) (He.glo_ok X G (c.fact 33 (f := .glo "_law_take") rfl)) 
  have O_law_mixed := ok_law_mixed (P := P) (w := w) (base := base) T (c.def_ 13 (d := ⟨("_law_mixed", none), "_law_mixed", "_law_mixed", defArgs s_law_mixed, defBody s_law_mixed, defScope s_law_mixed, [], []⟩) rfl) (He.glo_ok X G (c.fact 34 (f := .glo "_law_mixed") rfl)) O_law_take
  have O_law_names := ok_law_names (P := P) (w := w) (base := base) T (c.def_ 14 (d := ⟨("_law_names", none), "_law_names", "_law_names", defArgs s_law_names, defBody s_law_names, defScope s_law_names, [], []⟩) rfl) (He.glo_ok X G (c.fact 35 (f := .glo "_law_names") rfl)) O_law_take O_law_mixed
  have O_law_is_name := ok_law_is_name (P := P) (w := w) (base := base) T (c.def_ 15 (d := ⟨("_law_is_name", none), "_law_is_name", "_law_is_name", defArgs s_law_is_name, defBody s_law_is_name, defScope s_law_is_name, [], []⟩) rfl) (He.glo_ok X G (c.fact 36 (f := .glo "_law_is_name") rfl)) 
  have O_law_is_limit := ok_law_is_limit (P := P) (w := w) (base := base) T (c.def_ 16 (d := ⟨("_law_is_limit", none), "_law_is_limit", "_law_is_limit", defArgs s_law_is_limit, defBody s_law_is_limit, defScope s_law_is_limit, [], []⟩) rfl) (He.glo_ok X G (c.fact 37 (f := .glo "_law_is_limit") rfl)) 
  have O_law_is_span := ok_law_is_span (P := P) (w := w) (base := base) T (c.def_ 17 (d := ⟨("_law_is_span", none), "_law_is_span", "_law_is_span", defArgs s_law_is_span, defBody s_law_is_span, defScope s_law_is_span, [], []⟩) rfl) (He.glo_ok X G (c.fact 38 (f := .glo "_law_is_span") rfl)) O_law_is_limit
  have O_law_is_change := ok_law_is_change (P := P) (w := w) (base := base) T (c.def_ 18 (d := ⟨("_law_is_change", none), "_law_is_change", "_law_is_change", defArgs s_law_is_change, defBody s_law_is_change, defScope s_law_is_change, [], []⟩) rfl) (He.glo_ok X G (c.fact 39 (f := .glo "_law_is_change") rfl)) O_law_is_name O_law_is_span O_law_is_limit
  have O_law_right := ok_law_right (P := P) (w := w) (base := base) T (c.def_ 19 (d := ⟨("_law_right", none), "_law_right", "_law_right", defArgs s_law_right, defBody s_law_right, defScope s_law_right, [], []⟩) rfl) (He.glo_ok X G (c.fact 40 (f := .glo "_law_right") rfl)) O_law_take
  have O_law_bent := ok_law_bent (P := P) (w := w) (base := base) T (c.def_ 20 (d := ⟨("_law_bent", none), "_law_bent", "_law_bent", defArgs s_law_bent, defBody s_law_bent, defScope s_law_bent, [], []⟩) rfl) (He.glo_ok X G (c.fact 41 (f := .glo "_law_bent") rfl)) O_law_take
  have O_law_told := ok_law_told (P := P) (w := w) (base := base) T (c.def_ 21 (d := ⟨("_law_told", none), "_law_told", "_law_told", defArgs s_law_told, defBody s_law_told, defScope s_law_told, [], []⟩) rfl) (He.glo_ok X G (c.fact 42 (f := .glo "_law_told") rfl)) O_roles
  have O_law_roles := ok_law_roles (P := P) (w := w) (base := base) T (c.def_ 22 (d := ⟨("_law_roles", none), "_law_roles", "_law_roles", defArgs s_law_roles, defBody s_law_roles, defScope s_law_roles, [], []⟩) rfl) (He.glo_ok X G (c.fact 43 (f := .glo "_law_roles") rfl)) 
  exact okf_law (P := P) (w := w) (base := base) T FL O_law_box O_law_cell O_law_right O_law_names O_law_bent O_law_take O_law_is_change O_is_change O_law_told O_law_roles O_roles
def lawLevel : Nat := 8
def lawAt : Nat := 36

end Z

namespace Z
open PySem PySem.Spec PyProof.Rows L2
/-! ### the end -/
abbrev R : PySem.W.OpenRow := PySem.W.OpenLaw.row PySem.Challenge.rw_shiftparts_k11_changes_and_roles
abbrev hk : PySem.W.Hook := hookX 4 fa fn fs cu
def ob (s : PySem.W.SharedT) : AlX := obsXG 4 fa fn fs cu (HandSHeadRun.getT s)
theorem ob_eq (s : PySem.W.SharedT) : ob s = hk.obs s.abs := obsXG_eq (HandSHeadRun.getT_eq s)
def loose : List PySem.Str := (["PartsError", "InvalidChange", "LETTERS", "MOST_LETTERS", "TABLE", "is_integer", "is_name", "is_limit", "is_span", "HANG", "TAKE", "SPLIT", "JOIN", "are_names", "is_change", "need_change", "old_parts", "new_parts", "roles", "_law_cell", "_law_box", "_law_take", "_law_mixed", "_law_names", "_law_is_name", "_law_is_limit", "_law_is_span", "_law_is_change", "_law_right", "_law_bent"] : List PySem.Str) ++ (["_law_told", "_law_roles"] : List PySem.Str)
theorem run (w : World) : HandSHeadRun.RunEq R (PySem.W.view R.prog [36]) hk ob 4000 loose w := by
  intro os
  kernel_rfl
end Z
open PySem PySem.W PySem.Calls PyProof.Rows
theorem PySem.Challenge.cw_shiftparts_k11_changes_and_roles_holds : PySem.Challenge.rw_shiftparts_k11_changes_and_roles.Holds := by
  w_on; o_law
  refine HandSHeadRun.head_any (r := OpenLaw.row PySem.Challenge.rw_shiftparts_k11_changes_and_roles) (q := view (OpenLaw.row PySem.Challenge.rw_shiftparts_k11_changes_and_roles).prog [36]) (H := Z.hk) (ob := Z.ob) (M := 4000) (loose := Z.loose) (d := HandSHeadRun.topDef (OpenLaw.row PySem.Challenge.rw_shiftparts_k11_changes_and_roles).prog 36) (kwd := []) Z.ob_eq
    (by kernel_rfl) (fun s => by kernel_rfl) Z.run (by kernel_rfl) (by kernel_rfl) (by kernel_rfl) (by rfl) (by first | assumption | decide +kernel) (by decide +kernel) ⟨rfl, rfl, rfl, rfl, rfl, by decide +kernel⟩ ?hw ?hc
  case hw => w_witness2
  case hc =>
    refine L2.walk_ofE (l := PySem.Challenge.rw_shiftparts_k11_changes_and_roles) (n := 63) (k := 8) (x := "script") (CX := L2.CX0) rfl (by decide) (by kernel_rfl) ⟨rfl, by decide, by decide⟩ ?F (fun _ _ _ _ z => z)
    intro w mg fa h Y G hmg0
    obtain ⟨K, KX, c⟩ := Y
    have hmg : mg ("law" : PySem.Str) = some (.ref fa) := by
      have e : (HandSHeadRun.topDef (OpenLaw.row PySem.Challenge.rw_shiftparts_k11_changes_and_roles).prog 36).name = ("law" : PySem.Str) := by kernel_rfl
      rw [← e]
      exact hmg0
    obtain ⟨fd, hb, hF⟩ := Z.all_ok (P := (PySem.Challenge.rw_shiftparts_k11_changes_and_roles).prog) (w := w) (by rfl) (by decide +kernel) KX G hmg c
    exact ⟨K, fd, Z.sp_law K, KX, hb, fun H a ns hl _ hS => ⟨a, ns, rfl, hS, hl, fun _ => rfl⟩, hF⟩
#print axioms PySem.Challenge.cw_shiftparts_k11_changes_and_roles_holds

