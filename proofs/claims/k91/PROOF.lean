import PyProof.Rows.All
import Wide.All
import OpenK.AllK
import Wide.FinOn
import KE.KStateDown
import HandS.Base
import HandS.Call
import HandS.List
import HandS.Comp
import HandS.Dict
import HandS.DictComp
import HandS.Iter
import HandS.Text
import HandS.More
import HandS.Words
import HandS.Ends
import HandS.TupAny
import HandS.TupMul
import HandS.NoneIn
import HandS.Deep
import HandS.Style
import HandS.IsInst
import HandS.Conv
import HandS.Zip
import HandS.ClsMeth
import HandS.Property
import HandS.CallLocal
import HandS.RaiseMore
import HandS.SetKeys
import KE.GoesEnum
import KE.GoesMore
import KE.GoesZip
import HandS.Small
import KE.KFmtOwn
import PyProof.InstNe
import HandS.Defaults
import HandS.Head0
import HandS.Head1
import HandS.Head2
import HandS.HeadEnd
import HandS.HeadHook1
import HandS.HeadHook2
import HandS.HeadHook3
import HandS.WordsExc
import KE.KDictZip
import PySem.Challenge.RW_lentonce_k91_whole_known_runs
/-! ##### EvA.lean -/
set_option Elab.async false
set_option linter.all false
set_option maxRecDepth 100000
noncomputable section
namespace LV
open PySem

/-! ## values, objects, the heap -/
inductive EV where
  | non | bl (b : Bool) | int (i : Int) | str (s : Str) | tup (xs : List EV) | ref (n : Nat) | glo (k : Nat)
inductive EO where
  | lst (xs : List EV) | dic (kvs : List (EV × EV)) | ins (c : Nat) (fs : List (Str × EV))
inductive T where
  | nil | nd (o : EO) (l r : T)
structure EH where
  t : T
  n : Nat
inductive R where
  | no | ok (x : EV) (h : EH)
inductive RB where
  | no | ok (x : Bool) (h : EH)
inductive RA where
  | no | ok (x : List EV) (h : EH)
abbrev ES := List (Option EV)
inductive RS where
  | no | nx (s : ES) (h : EH) | rt (x : EV) (h : EH) | bk (s : ES) (h : EH) | ct (s : ES) (h : EH)
abbrev DE := ES → EH → R
abbrev DB := ES → EH → RB
abbrev DA := ES → EH → RA
abbrev DS := ES → EH → RS
abbrev CF := Nat → List EV → EH → R

/-! ## lists, numbers, texts, in words that the kernel reads fast -/
def cnd {α : Type} (c : Bool) (a b : α) : α := @Bool.rec (fun _ => α) b a c
def nth {α : Type} (xs : List α) : Nat → Option α := @List.rec α (fun _ => Nat → Option α) (fun _ => none) (fun x _ ih k => @Nat.rec (fun _ => Option α) (some x) (fun k _ => ih k) k) xs
def setN {α : Type} (xs : List α) : Nat → α → List α := @List.rec α (fun _ => Nat → α → List α) (fun _ _ => []) (fun x xs ih k v => @Nat.rec (fun _ => List α) (v :: xs) (fun k _ => x :: ih k v) k) xs
def lLen {α : Type} (xs : List α) : Nat := @List.rec α (fun _ => Nat) 0 (fun _ _ ih => Nat.succ ih) xs
def cat {α : Type} (xs ys : List α) : List α := @List.rec α (fun _ => List α) ys (fun x _ ih => x :: ih) xs
def lEq (xs : List Nat) : List Nat → Bool := @List.rec Nat (fun _ => List Nat → Bool) (fun ys => @List.rec Nat (fun _ => Bool) true (fun _ _ _ => false) ys) (fun x _ ih ys => @List.rec Nat (fun _ => Bool) false (fun y ys _ => @Bool.rec (fun _ => Bool) false (ih ys) (Nat.beq x y)) ys) xs
def frN {α : Type} (n : Nat) (k : Nat → α) : α := @Nat.rec (fun _ => α) (k 0) (fun m _ => k (Nat.succ m)) n
def frI {α : Type} (i : Int) (k : Int → α) : α := @Int.rec (fun _ => α) (fun n => frN n fun n => k (.ofNat n)) (fun n => frN n fun n => k (.negSucc n)) i
def iEq (i j : Int) : Bool := @Int.rec (fun _ => Bool) (fun m => @Int.rec (fun _ => Bool) (fun n => Nat.beq m n) (fun _ => false) j) (fun m => @Int.rec (fun _ => Bool) (fun _ => false) (fun n => Nat.beq m n) j) i
def iLe (i j : Int) : Bool := @Int.rec (fun _ => Bool) (fun m => @Int.rec (fun _ => Bool) (fun n => Nat.ble m n) (fun _ => false) j) (fun m => @Int.rec (fun _ => Bool) (fun _ => true) (fun n => Nat.ble n m) j) i
def iLt (i j : Int) : Bool := cnd (iLe j i) false true
def sEq (a b : Str) : Bool := lEq a.cps.toList b.cps.toList
def sMk (l : List Nat) : Str := ⟨⟨l⟩⟩
/-- the greatest length of lists and texts here -/
def LIM : Nat := 16000000
theorem nth_eq {α : Type} (xs : List α) : ∀ k, nth xs k = xs[k]? := by
  induction xs with
  | nil => intro k; rfl
  | cons x xs ih => intro k; cases k with
    | zero => rfl
    | succ k => exact (ih k).trans (by simp)
theorem setN_eq {α : Type} (xs : List α) : ∀ k v, setN xs k v = xs.set k v := by
  induction xs with
  | nil => intro k v; rfl
  | cons x xs ih => intro k v; cases k with
    | zero => rfl
    | succ k => show x :: setN xs k v = _; rw [ih]; rfl
theorem lLen_eq {α : Type} (xs : List α) : lLen xs = xs.length := by
  induction xs with
  | nil => rfl
  | cons x xs ih => show Nat.succ (lLen xs) = _; rw [ih]; rfl
theorem cat_eq {α : Type} (xs ys : List α) : cat xs ys = xs ++ ys := by
  induction xs with
  | nil => rfl
  | cons x xs ih => show x :: cat xs ys = _; rw [ih]; rfl
theorem lEq_iff (xs : List Nat) : ∀ ys, lEq xs ys = true ↔ xs = ys := by
  induction xs with
  | nil => intro ys; cases ys <;> simp [lEq]
  | cons x xs ih =>
    intro ys
    cases ys with
    | nil => simp [lEq]
    | cons y ys =>
      show (@Bool.rec (fun _ => Bool) false (lEq xs ys) (Nat.beq x y)) = true ↔ _
      cases e : Nat.beq x y with
      | false => simp; intro e2; subst e2; simp at e
      | true =>
        have e2 : x = y := Nat.eq_of_beq_eq_true e
        subst e2
        show lEq xs ys = true ↔ _
        rw [ih]; simp
theorem sEq_iff (a b : Str) : sEq a b = true ↔ a = b := by
  obtain ⟨⟨a⟩⟩ := a
  obtain ⟨⟨b⟩⟩ := b
  unfold sEq
  rw [lEq_iff]
  simp
theorem sEq_dec (a b : Str) : sEq a b = decide (a = b) := by
  cases h : sEq a b with
  | true => exact (decide_eq_true ((sEq_iff a b).mp h)).symm
  | false => exact (decide_eq_false fun e => by rw [(sEq_iff a b).mpr e] at h; cases h).symm
theorem frN_eq {α : Type} (n : Nat) (k : Nat → α) : frN n k = k n := by cases n <;> rfl
theorem frI_eq {α : Type} (i : Int) (k : Int → α) : frI i k = k i := by
  cases i with
  | ofNat n => exact frN_eq n fun n => k (.ofNat n)
  | negSucc n => exact frN_eq n fun n => k (.negSucc n)
theorem iEq_dec (i j : Int) : iEq i j = decide (i = j) := by
  cases i with
  | ofNat m =>
    cases j with
    | ofNat n =>
      show Nat.beq m n = _
      by_cases e : m = n
      · subst e; simp
      · have : Nat.beq m n = false := by cases q : Nat.beq m n with
          | false => rfl
          | true => exact absurd (Nat.eq_of_beq_eq_true q) e
        rw [this]; symm; exact decide_eq_false fun z => e (Int.ofNat.inj z)
    | negSucc n => rfl
  | negSucc m =>
    cases j with
    | ofNat n => rfl
    | negSucc n =>
      show Nat.beq m n = _
      by_cases e : m = n
      · subst e; simp
      · have : Nat.beq m n = false := by cases q : Nat.beq m n with
          | false => rfl
          | true => exact absurd (Nat.eq_of_beq_eq_true q) e
        rw [this]; symm; exact decide_eq_false fun z => e (Int.negSucc.inj z)
theorem iLe_dec (i j : Int) : iLe i j = decide (i ≤ j) := by
  have ble : ∀ a b : Nat, Nat.ble a b = decide (a ≤ b) := fun a b => by
    by_cases e : a ≤ b
    · rw [decide_eq_true e]; exact Nat.ble_eq_true_of_le e
    · rw [decide_eq_false e]; cases q : Nat.ble a b with
      | false => rfl
      | true => exact absurd (Nat.le_of_ble_eq_true q) e
  cases i with
  | ofNat m =>
    cases j with
    | ofNat n => show Nat.ble m n = _; rw [ble]; congr 1; simp
    | negSucc n => show false = _; symm; exact decide_eq_false (by have h1 := Int.negSucc_lt_zero n; have h2 : (0 : Int) ≤ Int.ofNat m := Int.natCast_nonneg m; omega)
  | negSucc m =>
    cases j with
    | ofNat n => show true = _; symm; exact decide_eq_true (by have h1 := Int.negSucc_lt_zero m; have h2 : (0 : Int) ≤ Int.ofNat n := Int.natCast_nonneg n; omega)
    | negSucc n => show Nat.ble n m = _; rw [ble]; congr 1; simp only [eq_iff_iff]; omega
theorem iLt_dec (i j : Int) : iLt i j = decide (i < j) := by
  unfold iLt
  rw [iLe_dec]
  by_cases e : j ≤ i
  · rw [decide_eq_true e]; symm; exact decide_eq_false (by omega)
  · rw [decide_eq_false e]; symm; exact decide_eq_true (by omega)

/-! ## the tree -/
def T.get (t : T) : Nat → Option EO := @T.rec (fun _ => Nat → Option EO) (fun _ => none) (fun o _ _ l r k => @Nat.rec (fun _ => Option EO) (some o) (fun k _ => @Bool.rec (fun _ => Option EO) (r (k / 2)) (l (k / 2)) (Nat.beq (k % 2) 0)) k) t
def T.set (t : T) : Nat → EO → T := @T.rec (fun _ => Nat → EO → T) (fun _ o => .nd o .nil .nil) (fun o' tl tr l r k o => @Nat.rec (fun _ => T) (.nd o tl tr) (fun k _ => @Bool.rec (fun _ => T) (.nd o' tl (r (k / 2) o)) (.nd o' (l (k / 2) o) tr) (Nat.beq (k % 2) 0)) k) t
/-- how many: the tree holds 0 .. n - 1 as a heap does -/
theorem T.get_nil (k : Nat) : T.nil.get k = none := rfl
theorem T.get_nd (o : EO) (l r : T) (k : Nat) : (T.nd o l r).get k = match k with
  | 0 => some o
  | k + 1 => @Bool.rec (fun _ => Option EO) (r.get (k / 2)) (l.get (k / 2)) (Nat.beq (k % 2) 0) := by cases k <;> rfl
theorem T.set_nd (o' : EO) (l r : T) (k : Nat) (o : EO) : (T.nd o' l r).set k o = match k with
  | 0 => .nd o l r
  | k + 1 => @Bool.rec (fun _ => T) (.nd o' l (r.set (k / 2) o)) (.nd o' (l.set (k / 2) o) r) (Nat.beq (k % 2) 0) := by cases k <;> rfl
/-- a place that can be set: one that is held, or the next one of its way -/
def T.fit (t : T) : Nat → Bool := @T.rec (fun _ => Nat → Bool) (fun k => Nat.beq k 0) (fun _ _ _ l r k => @Nat.rec (fun _ => Bool) true (fun k _ => @Bool.rec (fun _ => Bool) (r (k / 2)) (l (k / 2)) (Nat.beq (k % 2) 0)) k) t
theorem T.fit_nd (o' : EO) (l r : T) (k : Nat) : (T.nd o' l r).fit k = match k with
  | 0 => true
  | k + 1 => @Bool.rec (fun _ => Bool) (r.fit (k / 2)) (l.fit (k / 2)) (Nat.beq (k % 2) 0) := by cases k <;> rfl
theorem T.fit_of_get : ∀ (t : T) (k : Nat) (o : EO), t.get k = some o → t.fit k = true
  | .nil, k, o, h => by cases h
  | .nd o' l r, 0, o, h => rfl
  | .nd o' l r, k + 1, o, h => by
    rw [T.get_nd] at h; rw [T.fit_nd]
    dsimp only at h ⊢
    cases e : Nat.beq (k % 2) 0 with
    | true => rw [e] at h; exact T.fit_of_get l _ o h
    | false => rw [e] at h; exact T.fit_of_get r _ o h
theorem beq_ne {a b : Nat} (h : Nat.beq a b = false) : a ≠ b := fun e => by subst e; rw [Nat.beq_refl] at h; cases h
theorem T.get_set : ∀ (t : T) (k : Nat) (o : EO), t.fit k = true → ∀ j, (t.set k o).get j = if j = k then some o else t.get j
  | .nil, k, o, h, j => by
    have e : k = 0 := Nat.eq_of_beq_eq_true h
    subst e
    show (T.nd o .nil .nil).get j = _
    rw [T.get_nd]
    cases j with
    | zero => rfl
    | succ j => dsimp only; rw [T.get_nil, if_neg (by omega)]; cases Nat.beq (j % 2) 0 <;> rfl
  | .nd o' l r, 0, o, h, j => by
    rw [T.set_nd]
    dsimp only
    rw [T.get_nd, T.get_nd]
    cases j with
    | zero => rfl
    | succ j => dsimp only; rw [if_neg (by omega)]
  | .nd o' l r, k + 1, o, h, j => by
    rw [T.fit_nd] at h
    rw [T.set_nd]
    dsimp only at h ⊢
    cases e : Nat.beq (k % 2) 0 with
    | true =>
      rw [e] at h
      dsimp only at h ⊢
      rw [T.get_nd, T.get_nd]
      cases j with
      | zero => dsimp only; rw [if_neg (by omega)]
      | succ j =>
        dsimp only
        cases e2 : Nat.beq (j % 2) 0 with
        | true =>
          dsimp only
          rw [T.get_set l (k / 2) o h (j / 2)]
          have h1 := Nat.eq_of_beq_eq_true e
          have h2 := Nat.eq_of_beq_eq_true e2
          by_cases q : j = k
          · subst q; rw [if_pos rfl, if_pos rfl]
          · rw [if_neg (by omega), if_neg (by omega)]
        | false =>
          dsimp only
          have h1 := Nat.eq_of_beq_eq_true e
          have h2 := beq_ne e2
          rw [if_neg (by omega)]
    | false =>
      rw [e] at h
      dsimp only at h ⊢
      rw [T.get_nd, T.get_nd]
      cases j with
      | zero => dsimp only; rw [if_neg (by omega)]
      | succ j =>
        dsimp only
        cases e2 : Nat.beq (j % 2) 0 with
        | false =>
          dsimp only
          rw [T.get_set r (k / 2) o h (j / 2)]
          have h1 := beq_ne e
          have h2 := beq_ne e2
          by_cases q : j = k
          · subst q; rw [if_pos rfl, if_pos rfl]
          · rw [if_neg (by omega), if_neg (by omega)]
        | true =>
          dsimp only
          have h1 := beq_ne e
          have h2 := Nat.eq_of_beq_eq_true e2
          rw [if_neg (by omega)]
/-- the empty heap -/
def EH.nil : EH := ⟨.nil, 0⟩
def EH.get (h : EH) (k : Nat) : Option EO := @EH.rec (fun _ => Option EO) (fun t _ => t.get k) h
def EH.put (h : EH) (k : Nat) (o : EO) : EH := @EH.rec (fun _ => EH) (fun t n => ⟨t.set k o, n⟩) h
/-- a new object: only where it fits -/
def EH.new {α : Type} (h : EH) (o : EO) (no : α) (k : Nat → EH → α) : α := @EH.rec (fun _ => α) (fun t n => frN n fun n => @Bool.rec (fun _ => α) no (k n ⟨t.set n o, Nat.succ n⟩) (t.fit n)) h
theorem EH.get_put {h : EH} {k : Nat} {o o' : EO} (e : h.get k = some o') (j : Nat) : (h.put k o).get j = if j = k then some o else h.get j := by
  obtain ⟨t, n⟩ := h
  exact T.get_set t k o (T.fit_of_get t k o' e) j
theorem EH.put_n (h : EH) (k : Nat) (o : EO) : (h.put k o).n = h.n := by obtain ⟨t, n⟩ := h; rfl
theorem EH.new_ok {α : Type} {h : EH} {o : EO} {no : α} {k : Nat → EH → α} {P : α → Prop} (hn : ¬ P no) (e : P (h.new o no k)) :
    ∃ h', h'.n = h.n + 1 ∧ (∀ j, h'.get j = if j = h.n then some o else h.get j) ∧ P (k h.n h') := by
  obtain ⟨t, n⟩ := h
  have e1 : P (frN n fun n => @Bool.rec (fun _ => α) no (k n ⟨t.set n o, Nat.succ n⟩) (t.fit n)) := e
  rw [frN_eq] at e1
  cases q : t.fit n with
  | false => rw [q] at e1; exact absurd e1 hn
  | true => rw [q] at e1; exact ⟨⟨t.set n o, n + 1⟩, rfl, fun j => T.get_set t n o q j, e1⟩

end LV
end

/-! ##### EvB.lean -/
set_option Elab.async false
set_option linter.all false
set_option maxRecDepth 100000
set_option maxHeartbeats 4000000
set_option autoImplicit false
namespace LV
open PySem PySem.Spec PyProof.Rows L2

/-! ## what stands for what: st = where globals and classes stand -/
structure GA where
  K : PySem.W.Frag
  gl : Nat → Addr
  ca : Nat → Addr

mutual
inductive Rep (G : GA) (ρ : Nat → Addr) (m : Nat) (H : Hp) : EV → V → Prop
  | non : Rep G ρ m H .non .non
  | bl (b : Bool) : Rep G ρ m H (.bl b) (.bl b)
  | int (i : Int) : Rep G ρ m H (.int i) (.int i)
  | str (s : Str) : Rep G ρ m H (.str s) (.str s)
  | tup {xs : List EV} {a : Addr} {vs : List V} : SqT G.K H a vs → Reps G ρ m H xs vs → Rep G ρ m H (.tup xs) (.ref a)
  | ref {n : Nat} : n < m → Rep G ρ m H (.ref n) (.ref (ρ n))
  | glo (k : Nat) : Rep G ρ m H (.glo k) (.ref (G.gl k))
inductive Reps (G : GA) (ρ : Nat → Addr) (m : Nat) (H : Hp) : List EV → List V → Prop
  | nil : Reps G ρ m H [] []
  | cons {x : EV} {v : V} {xs : List EV} {vs : List V} : Rep G ρ m H x v → Reps G ρ m H xs vs → Reps G ρ m H (x :: xs) (v :: vs)
end
section
variable {G : GA} {ρ ρ' : Nat → Addr} {m m' : Nat} {H H' : Hp}
theorem Reps.length : ∀ {xs : List EV} {vs : List V}, Reps G ρ m H xs vs → xs.length = vs.length
  | _, _, .nil => rfl
  | _, _, .cons _ t => congrArg Nat.succ (Reps.length t)
mutual
theorem Rep.later (hρ : ∀ n, n < m → ρ' n = ρ n) (hm : m ≤ m') (ht : ∀ a xs, SqT G.K H a xs → SqT G.K H' a xs) : ∀ {x : EV} {v : V}, Rep G ρ m H x v → Rep G ρ' m' H' x v
  | _, _, .non => .non
  | _, _, .bl b => .bl b
  | _, _, .int i => .int i
  | _, _, .str s => .str s
  | _, _, .tup q r => .tup (ht _ _ q) (Reps.later hρ hm ht r)
  | _, _, .ref (n := n) h => by rw [← hρ n h]; exact .ref (Nat.lt_of_lt_of_le h hm)
  | _, _, .glo k => .glo k
theorem Reps.later (hρ : ∀ n, n < m → ρ' n = ρ n) (hm : m ≤ m') (ht : ∀ a xs, SqT G.K H a xs → SqT G.K H' a xs) : ∀ {xs : List EV} {vs : List V}, Reps G ρ m H xs vs → Reps G ρ' m' H' xs vs
  | _, _, .nil => .nil
  | _, _, .cons a r => .cons (Rep.later hρ hm ht a) (Reps.later hρ hm ht r)
end
theorem Reps.append : ∀ {xs ys : List EV} {vs us : List V}, Reps G ρ m H xs vs → Reps G ρ m H ys us → Reps G ρ m H (xs ++ ys) (vs ++ us)
  | _, _, _, _, .nil, r => r
  | _, _, _, _, .cons a t, r => .cons a (Reps.append t r)
theorem Reps.get : ∀ {xs : List EV} {vs : List V} {i : Nat} {x : EV}, Reps G ρ m H xs vs → xs[i]? = some x → ∃ v, vs[i]? = some v ∧ Rep G ρ m H x v
  | _, _, _, _, .nil, e => by simp at e
  | _, _, 0, _, .cons a _, e => by simp at e; subst e; exact ⟨_, rfl, a⟩
  | _, _, i + 1, x, .cons _ t, e => by
    obtain ⟨v, h1, h2⟩ := Reps.get (i := i) (x := x) t (by simpa using e)
    exact ⟨v, by simpa using h1, h2⟩
theorem Reps.none_of {xs : List EV} {vs : List V} {i : Nat} (r : Reps G ρ m H xs vs) (e : xs[i]? = none) : vs[i]? = none := by
  have h1 := r.length
  have h2 := List.getElem?_eq_none_iff.mp e
  exact List.getElem?_eq_none_iff.mpr (by omega)
theorem Reps.set {x : EV} {v : V} (r : Rep G ρ m H x v) : ∀ {xs : List EV} {vs : List V} (i : Nat), Reps G ρ m H xs vs → Reps G ρ m H (xs.set i x) (vs.set i v)
  | _, _, _, .nil => .nil
  | _, _, 0, .cons _ t => .cons r t
  | _, _, i + 1, .cons a t => .cons a (Reps.set r i t)
theorem Reps.take : ∀ {xs : List EV} {vs : List V} (n : Nat), Reps G ρ m H xs vs → Reps G ρ m H (xs.take n) (vs.take n)
  | _, _, 0, _ => by simpa using .nil
  | _, _, _ + 1, .nil => .nil
  | _, _, n + 1, .cons a t => .cons a (Reps.take n t)
theorem Reps.drop : ∀ {xs : List EV} {vs : List V} (n : Nat), Reps G ρ m H xs vs → Reps G ρ m H (xs.drop n) (vs.drop n)
  | _, _, 0, r => r
  | _, _, _ + 1, .nil => .nil
  | _, _, n + 1, .cons _ t => Reps.drop n t
theorem Reps.dropLast {xs : List EV} {vs : List V} (r : Reps G ρ m H xs vs) : Reps G ρ m H xs.dropLast vs.dropLast := by
  rw [List.dropLast_eq_take, List.dropLast_eq_take, r.length]; exact r.take _
theorem Reps.reverse : ∀ {xs : List EV} {vs : List V}, Reps G ρ m H xs vs → Reps G ρ m H xs.reverse vs.reverse
  | _, _, .nil => .nil
  | _, _, .cons a t => by rw [List.reverse_cons, List.reverse_cons]; exact Reps.append (Reps.reverse t) (.cons a .nil)
end

/-- keys of dicts: ints and texts -/
def keyE : Key → EV
  | .inl i => .int i
  | .inr s => .str s
theorem keyE_rep {G : GA} {ρ : Nat → Addr} {m : Nat} {H : Hp} {k : Key} {v : V} (r : Rep G ρ m H (keyE k) v) : v = kV k := by
  cases k <;> (cases r; rfl)
inductive KReps (G : GA) (ρ : Nat → Addr) (m : Nat) (H : Hp) : List (EV × EV) → List (Key × V) → Prop
  | nil : KReps G ρ m H [] []
  | cons {k : Key} {x : EV} {v : V} {kvs : List (EV × EV)} {ks : List (Key × V)} : Rep G ρ m H x v → KReps G ρ m H kvs ks → KReps G ρ m H ((keyE k, x) :: kvs) ((k, v) :: ks)
inductive FReps (G : GA) (ρ : Nat → Addr) (m : Nat) (H : Hp) : List (Str × EV) → List (Str × V) → Prop
  | nil : FReps G ρ m H [] []
  | cons {f : Str} {x : EV} {v : V} {fs : List (Str × EV)} {gs : List (Str × V)} : Rep G ρ m H x v → FReps G ρ m H fs gs → FReps G ρ m H ((f, x) :: fs) ((f, v) :: gs)
inductive ORep (G : GA) (ρ : Nat → Addr) (m : Nat) (H : Hp) : EO → HO → Prop
  | lst {xs : List EV} {vs : List V} : Reps G ρ m H xs vs → ORep G ρ m H (.lst xs) (.lst vs)
  | dic {kvs : List (EV × EV)} {ks : List (Key × V)} : KReps G ρ m H kvs ks → ORep G ρ m H (.dic kvs) (.dK ks)
  | ins {c : Nat} {fs : List (Str × EV)} {gs : List (Str × V)} {dx : Addr} : FReps G ρ m H fs gs → ORep G ρ m H (.ins c fs) (.ins (G.ca c) dx gs)
structure Emb (G : GA) (ρ : Nat → Addr) (h : EH) (H : Hp) : Prop where
  obj : ∀ n o, h.get n = some o → ∃ ho, H (ρ n) = some ho ∧ ORep G ρ h.n H o ho
  inj : ∀ i j p, i < h.n → h.get j = some p → ρ i = ρ j → i = j
  lt : ∀ n o, h.get n = some o → n < h.n
  full : ∀ n, n < h.n → ∃ ho, H (ρ n) = some ho
structure Lat (G : GA) (ρ : Nat → Addr) (h : EH) (H : Hp) (ρ' : Nat → Addr) (h' : EH) (H' : Hp) : Prop where
  sub : ∀ n, n < h.n → ρ' n = ρ n
  le : h.n ≤ h'.n
  tup : ∀ a xs, SqT G.K H a xs → SqT G.K H' a xs
  keep : ∀ a o, H a = some o → (∀ n ob, n < h.n → h.get n = some ob → ρ n ≠ a) → H' a = some o
  op : ∀ n ob, n < h.n → h'.get n = some ob → ∃ o, h.get n = some o
  new : ∀ n, h.n ≤ n → n < h'.n → H (ρ' n) = none
  dom : ∀ a o, H a = some o → ∃ o', H' a = some o'
section
variable {G : GA} {ρ ρ' ρ'' : Nat → Addr} {h h' h'' : EH} {m m' : Nat} {H H' H'' : Hp}
theorem KReps.later (hρ : ∀ n, n < m → ρ' n = ρ n) (hm : m ≤ m') (ht : ∀ a xs, SqT G.K H a xs → SqT G.K H' a xs) : ∀ {kvs : List (EV × EV)} {ks : List (Key × V)}, KReps G ρ m H kvs ks → KReps G ρ' m' H' kvs ks
  | _, _, .nil => .nil
  | _, _, .cons a r => .cons (a.later hρ hm ht) (KReps.later hρ hm ht r)
theorem FReps.later (hρ : ∀ n, n < m → ρ' n = ρ n) (hm : m ≤ m') (ht : ∀ a xs, SqT G.K H a xs → SqT G.K H' a xs) : ∀ {kvs : List (Str × EV)} {ks : List (Str × V)}, FReps G ρ m H kvs ks → FReps G ρ' m' H' kvs ks
  | _, _, .nil => .nil
  | _, _, .cons a r => .cons (a.later hρ hm ht) (FReps.later hρ hm ht r)
theorem ORep.later (hρ : ∀ n, n < m → ρ' n = ρ n) (hm : m ≤ m') (ht : ∀ a xs, SqT G.K H a xs → SqT G.K H' a xs) {o : EO} {ho : HO} (r : ORep G ρ m H o ho) : ORep G ρ' m' H' o ho := by
  cases r with
  | lst r => exact .lst (r.later hρ hm ht)
  | dic r => exact .dic (r.later hρ hm ht)
  | ins r => exact .ins (r.later hρ hm ht)
theorem Lat.refl : Lat G ρ h H ρ h H := ⟨fun _ _ => rfl, Nat.le_refl _, fun _ _ q => q, fun _ _ q _ => q, fun _ o _ q => ⟨o, q⟩, fun _ h1 h2 => absurd h2 (Nat.not_lt.mpr h1), fun _ o q => ⟨o, q⟩⟩
theorem Lat.trans (a : Lat G ρ h H ρ' h' H') (b : Lat G ρ' h' H' ρ'' h'' H'') : Lat G ρ h H ρ'' h'' H'' where
  sub := fun n hn => (b.sub n (Nat.lt_of_lt_of_le hn a.le)).trans (a.sub n hn)
  le := Nat.le_trans a.le b.le
  tup := fun x xs q => b.tup x xs (a.tup x xs q)
  keep := fun x o q hx => b.keep x o (a.keep x o q hx) fun n ob hn hg e => by
    by_cases h1 : n < h.n
    · obtain ⟨o2, hg2⟩ := a.op n ob h1 hg
      exact hx n o2 h1 hg2 ((a.sub n h1).symm.trans e)
    · have := a.new n (Nat.not_lt.mp h1) hn
      rw [e, q] at this; cases this
  op := fun n ob hn q => let ⟨o1, q1⟩ := b.op n ob (Nat.lt_of_lt_of_le hn a.le) q; a.op n o1 hn q1
  new := fun n h1 h2 => by
    by_cases h3 : n < h'.n
    · rw [b.sub n h3]; exact a.new n h1 h3
    · have e := b.new n (Nat.not_lt.mp h3) h2
      cases q : H (ρ'' n) with
      | none => rfl
      | some o =>
        obtain ⟨o', e'⟩ := a.dom _ o q
        rw [e] at e'; cases e'
  dom := fun x o q => let ⟨o', q'⟩ := a.dom x o q; b.dom x o' q'
theorem Rep.lat {x : EV} {v : V} (r : Rep G ρ h.n H x v) (l : Lat G ρ h H ρ' h' H') : Rep G ρ' h'.n H' x v := r.later l.sub l.le l.tup
theorem Reps.lat {x : List EV} {v : List V} (r : Reps G ρ h.n H x v) (l : Lat G ρ h H ρ' h' H') : Reps G ρ' h'.n H' x v := r.later l.sub l.le l.tup
/-- a new thing that the evaluator does not hold -/
theorem SqT.upd_new {K : PySem.W.Frag} {H : Hp} {p a : Addr} {o : HO} {xs : List V} (hp : H p = none) (q : SqT K H a xs) : SqT K (upd H p o) a xs := by
  rcases q with (q | ⟨ob, q⟩) | q
  · exact .inl (.inl (by rw [upd_ne (ne_of_none q hp)]; exact q))
  · exact .inl (.inr ⟨ob, by rw [upd_ne (ne_of_none q hp)]; exact q⟩)
  · exact .inr q
theorem SqL.upd_new {K : PySem.W.Frag} {H : Hp} {p a : Addr} {o : HO} {xs : List V} (hp : H p = none) (q : SqL K H a xs) : SqL K (upd H p o) a xs := by
  rcases q with (q | ⟨ob, q⟩) | q
  · exact .inl (.inl (by rw [upd_ne (ne_of_none q hp)]; exact q))
  · exact .inl (.inr ⟨ob, by rw [upd_ne (ne_of_none q hp)]; exact q⟩)
  · exact .inr q
theorem Lat.side {p : Addr} {o : HO} (hp : H p = none) : Lat G ρ h H ρ h (upd H p o) where
  sub := fun _ _ => rfl
  le := Nat.le_refl _
  tup := fun _ _ q => SqT.upd_new hp q
  keep := fun a u q _ => by rw [upd_ne (ne_of_none q hp)]; exact q
  op := fun n ob _ q => ⟨ob, q⟩
  new := fun _ h1 h2 => absurd h2 (Nat.not_lt.mpr h1)
  dom := fun a u q => ⟨u, by rw [upd_ne (ne_of_none q hp)]; exact q⟩
theorem Emb.side {p : Addr} {o : HO} (e : Emb G ρ h H) (hp : H p = none) : Emb G ρ h (upd H p o) where
  obj := fun n ob q => by
    obtain ⟨ho, h1, h2⟩ := e.obj n ob q
    exact ⟨ho, by rw [upd_ne (ne_of_none h1 hp)]; exact h1, h2.later (fun _ _ => rfl) (Nat.le_refl _) fun _ _ q => SqT.upd_new hp q⟩
  inj := e.inj
  lt := e.lt
  full := fun n hn => let ⟨ho, h1⟩ := e.full n hn; ⟨ho, by rw [upd_ne (ne_of_none h1 hp)]; exact h1⟩
/-- a new object that the evaluator holds, at the place h.n -/
def ext (ρ : Nat → Addr) (n : Nat) (p : Addr) : Nat → Addr := fun i => if i = n then p else ρ i
theorem ext_same {n : Nat} {p : Addr} : ext ρ n p n = p := if_pos rfl
theorem ext_ne {n i : Nat} {p : Addr} (hi : i ≠ n) : ext ρ n p i = ρ i := if_neg hi
theorem Lat.made {p : Addr} {o : HO} {o1 : EO} (hp : H p = none) (hn : h'.n = h.n + 1) (hg : ∀ j, h'.get j = if j = h.n then some o1 else h.get j) : Lat G ρ h H (ext ρ h.n p) h' (upd H p o) where
  sub := fun n hn => ext_ne (Nat.ne_of_lt hn)
  le := by omega
  tup := fun _ _ q => SqT.upd_new hp q
  keep := fun a u q _ => by rw [upd_ne (ne_of_none q hp)]; exact q
  op := fun n ob hn q => by
    rw [hg, if_neg (Nat.ne_of_lt hn)] at q; exact ⟨ob, q⟩
  new := fun n h1 h2 => by
    have e : n = h.n := by omega
    subst e; rw [ext_same]; exact hp
  dom := fun a u q => ⟨u, by rw [upd_ne (ne_of_none q hp)]; exact q⟩
theorem Emb.made {p : Addr} {o : EO} {ho : HO} (e : Emb G ρ h H) (hp : H p = none) (hn : h'.n = h.n + 1) (hg : ∀ j, h'.get j = if j = h.n then some o else h.get j) (r : ORep G ρ h.n H o ho) :
    Emb G (ext ρ h.n p) h' (upd H p ho) := by
  have lat : Lat G ρ h H (ext ρ h.n p) h' (upd H p ho) := Lat.made hp hn hg
  refine ⟨fun n ob q => ?_, fun i j oj qi qj z => ?_, fun n ob q => ?_, fun n hlt => ?_⟩
  · rw [hg] at q
    by_cases c : n = h.n
    · rw [if_pos c] at q; cases q
      subst c
      exact ⟨ho, by rw [ext_same, upd_same], r.later lat.sub lat.le lat.tup⟩
    · rw [if_neg c] at q
      obtain ⟨ho', h1, h2⟩ := e.obj n ob q
      exact ⟨ho', by rw [ext_ne c, upd_ne (ne_of_none h1 hp)]; exact h1, h2.later lat.sub lat.le lat.tup⟩
  · rw [hg] at qj
    by_cases ci : i = h.n
    · by_cases cj : j = h.n
      · omega
      · rw [if_neg cj] at qj
        obtain ⟨ho', h1, _⟩ := e.obj j oj qj
        rw [ci, ext_same, ext_ne cj] at z
        rw [← z, hp] at h1; cases h1
    · have qi' : i < h.n := by omega
      obtain ⟨ho', h1⟩ := e.full i qi'
      by_cases cj : j = h.n
      · rw [cj, ext_same, ext_ne ci] at z
        rw [z, hp] at h1; cases h1
      · rw [if_neg cj] at qj
        rw [ext_ne ci, ext_ne cj] at z
        exact e.inj i j oj qi' qj z
  · rw [hg] at q
    by_cases c : n = h.n
    · omega
    · rw [if_neg c] at q
      have := e.lt n ob q; omega
  · by_cases c : n = h.n
    · subst c; exact ⟨ho, by rw [ext_same, upd_same]⟩
    · obtain ⟨u, hu⟩ := e.full n (by omega)
      exact ⟨u, by rw [ext_ne c, upd_ne (ne_of_none hu hp)]; exact hu⟩
/-- a held object is changed -/
theorem ORep.notTup {o : EO} {ho : HO} {m : Nat} (r : ORep G ρ m H o ho) : (∀ xs, ho ≠ .tup xs) ∧ ∀ ob u, ho ≠ .frz ob u := by
  cases r <;> exact ⟨fun _ z => (nomatch z), fun _ _ z => (nomatch z)⟩
theorem SqT.upd_obj {K : PySem.W.Frag} {H : Hp} {p a : Addr} {o o' : HO} {xs : List V} (hp : H p = some o) (n1 : ∀ xs, o ≠ .tup xs) (n2 : ∀ ob u, o ≠ .frz ob u) (q : SqT K H a xs) : SqT K (upd H p o') a xs := by
  have ne : ∀ u, H a = some u → u ≠ o → a ≠ p := fun u hu hne z => by subst z; rw [hp] at hu; exact hne (Option.some.inj hu).symm
  rcases q with (q | ⟨ob, q⟩) | q
  · exact .inl (.inl (by rw [upd_ne (ne _ q fun z => n1 _ z.symm)]; exact q))
  · exact .inl (.inr ⟨ob, by rw [upd_ne (ne _ q fun z => n2 _ _ z.symm)]; exact q⟩)
  · exact .inr q
theorem Lat.put {n : Nat} {o o' : EO} {ho' : HO} (e : Emb G ρ h H) (hn : h.get n = some o) : Lat G ρ h H ρ (h.put n o') (upd H (ρ n) ho') := by
  obtain ⟨ho, h1, h2⟩ := e.obj n o hn
  obtain ⟨n1, n2⟩ := h2.notTup
  refine ⟨fun _ _ => rfl, by rw [EH.put_n]; exact Nat.le_refl _, fun a xs q => SqT.upd_obj h1 n1 n2 q, fun a u q hx => ?_, fun i ob hi q => ?_, fun i h1 h2 => ?_, fun a u q => ?_⟩
  · rw [upd_ne (fun z => hx n o (e.lt n o hn) hn z.symm)]; exact q
  · rw [EH.get_put hn] at q
    by_cases c : i = n
    · subst c; exact ⟨_, hn⟩
    · rw [if_neg c] at q; exact ⟨_, q⟩
  · rw [EH.put_n] at h2; exact absurd h2 (Nat.not_lt.mpr h1)
  · by_cases c : a = ρ n
    · subst c; exact ⟨ho', upd_same⟩
    · exact ⟨u, by rw [upd_ne c]; exact q⟩
theorem Emb.put {n : Nat} {o o' : EO} {ho' : HO} (e : Emb G ρ h H) (hn : h.get n = some o) (r : ORep G ρ h.n H o' ho') : Emb G ρ (h.put n o') (upd H (ρ n) ho') := by
  have lat : Lat G ρ h H ρ (h.put n o') (upd H (ρ n) ho') := Lat.put e hn
  refine ⟨fun i ob q => ?_, fun i j oj qi qj z => ?_, fun i ob q => ?_, fun i hlt => ?_⟩
  · rw [EH.get_put hn] at q
    by_cases c : i = n
    · rw [if_pos c] at q; cases q
      subst c
      exact ⟨ho', upd_same, r.later lat.sub lat.le lat.tup⟩
    · rw [if_neg c] at q
      obtain ⟨ho2, h1, h2⟩ := e.obj i ob q
      exact ⟨ho2, by rw [upd_ne (fun z => c (e.inj i n o (e.lt i ob q) hn z))]; exact h1, h2.later lat.sub lat.le lat.tup⟩
  · have get' : ∀ k u, (h.put n o').get k = some u → ∃ u', h.get k = some u' := fun k u q => by
      rw [EH.get_put hn] at q
      by_cases c : k = n
      · subst c; exact ⟨_, hn⟩
      · rw [if_neg c] at q; exact ⟨_, q⟩
    obtain ⟨_, q2⟩ := get' j oj qj
    rw [EH.put_n] at qi
    exact e.inj i j _ qi q2 z
  · rw [EH.put_n]
    rw [EH.get_put hn] at q
    by_cases c : i = n
    · subst c; exact e.lt i _ hn
    · rw [if_neg c] at q; exact e.lt i _ q
  · rw [EH.put_n] at hlt
    by_cases c : i = n
    · subst c; exact ⟨ho', upd_same⟩
    · obtain ⟨u, hu⟩ := e.full i hlt
      exact ⟨u, by rw [upd_ne (fun z => c (e.inj i n o hlt hn z))]; exact hu⟩
theorem Emb.nil : Emb G ρ EH.nil H := ⟨fun _ _ q => (by cases q), fun _ _ _ _ q => (by cases q), fun _ _ q => (by cases q), fun n hlt => absurd hlt (Nat.not_lt_zero n)⟩
/-- .. behind it -/
theorem Rep.put {n : Nat} {o' : EO} {ho' : HO} {o : EO} {x : EV} {v : V} (e : Emb G ρ h H) (hn : h.get n = some o) (r : Rep G ρ h.n H x v) : Rep G ρ (h.put n o').n (upd H (ρ n) ho') x v :=
  r.lat (Lat.put e hn)
end

/-! ## slots -/
structure Slots (G : GA) (ρ : Nat → Addr) (m : Nat) (H : Hp) (es : ES) (σ : L2.St) : Prop where
  len : es.length = σ.length
  at_ : ∀ (i : Nat) (x : EV), es[i]? = some (some x) → ∃ v, σ[i]? = some (some v) ∧ Rep G ρ m H x v
theorem Slots.lat {G : GA} {ρ ρ' : Nat → Addr} {h h' : EH} {H H' : Hp} {es : ES} {σ : L2.St} (s : Slots G ρ h.n H es σ) (l : Lat G ρ h H ρ' h' H') : Slots G ρ' h'.n H' es σ :=
  ⟨s.len, fun i x q => let ⟨v, h1, h2⟩ := s.at_ i x q; ⟨v, h1, h2.lat l⟩⟩
theorem Slots.set {G : GA} {ρ : Nat → Addr} {m : Nat} {H : Hp} {es : ES} {σ : L2.St} {x : EV} {v : V} (s : Slots G ρ m H es σ) (i : Nat) (r : Rep G ρ m H x v) : Slots G ρ m H (es.set i (some x)) (σ.set i (some v)) := by
  refine ⟨by rw [List.length_set, List.length_set]; exact s.len, fun j y q => ?_⟩
  by_cases c : i = j
  · subst c
    by_cases hi : i < es.length
    · rw [List.getElem?_set_self hi] at q; cases q
      exact ⟨v, List.getElem?_set_self (by rw [← s.len]; exact hi), r⟩
    · rw [List.getElem?_eq_none (by rw [List.length_set]; omega)] at q; cases q
  · rw [List.getElem?_set_ne c] at q
    rw [List.getElem?_set_ne c]
    exact s.at_ j y q

/-! ## readings of what the evaluator comes to -/
def KE (G : GA) (ρ : Nat → Addr) (h : EH) (H : Hp) (x : EV) (h' : EH) (Q : VK) : Prop :=
  ∀ ρ' v H', Lat G ρ h H ρ' h' H' → Emb G ρ' h' H' → Rep G ρ' h'.n H' x v → Q v H'
def rdE (G : GA) (d : DE) : TE := fun σ H Q => ∃ ρ es h x h', Emb G ρ h H ∧ Slots G ρ h.n H es σ ∧ d es h = .ok x h' ∧ KE G ρ h H x h' Q
def rdB (G : GA) (d : DB) : TT := fun σ H Q => ∃ ρ es h x h', Emb G ρ h H ∧ Slots G ρ h.n H es σ ∧ d es h = .ok x h' ∧
  ∀ ρ' H', Lat G ρ h H ρ' h' H' → Emb G ρ' h' H' → Q x H'
def rdA (G : GA) (d : DA) : TA := fun σ H Q => ∃ ρ es h xs h', Emb G ρ h H ∧ Slots G ρ h.n H es σ ∧ d es h = .ok xs h' ∧
  ∀ ρ' vs H', Lat G ρ h H ρ' h' H' → Emb G ρ' h' H' → Reps G ρ' h'.n H' xs vs → Q vs H'
/-- the end of a statement, as the evaluator says -/
def KS (G : GA) (ρ : Nat → Addr) (h : EH) (H : Hp) (D : Ends) : RS → Prop
  | .no => False
  | .nx es' h' => ∀ ρ' σ' H', Lat G ρ h H ρ' h' H' → Emb G ρ' h' H' → Slots G ρ' h'.n H' es' σ' → D.nx σ' H'
  | .rt x h' => ∀ ρ' v H', Lat G ρ h H ρ' h' H' → Emb G ρ' h' H' → Rep G ρ' h'.n H' x v → D.rt v H'
  | .bk es' h' => ∀ ρ' σ' H', Lat G ρ h H ρ' h' H' → Emb G ρ' h' H' → Slots G ρ' h'.n H' es' σ' → D.bk σ' H'
  | .ct es' h' => ∀ ρ' σ' H', Lat G ρ h H ρ' h' H' → Emb G ρ' h' H' → Slots G ρ' h'.n H' es' σ' → D.ct σ' H'
def rdS (G : GA) (d : DS) : TS := fun D σ H => ∃ ρ es h, Emb G ρ h H ∧ Slots G ρ h.n H es σ ∧ KS G ρ h H D (d es h)
end LV

/-! ##### EvC.lean -/
set_option Elab.async false
set_option linter.all false
set_option maxRecDepth 100000
set_option maxHeartbeats 4000000
set_option autoImplicit false
noncomputable section
namespace LV
open PySem PySem.Spec PyProof.Rows L2

/-! ## by cases of a value, in words that the kernel reads fast -/
def EV.cs {α : Type} (x : EV) (a : α) (b : Bool → α) (c : Int → α) (d : Str → α) (e : List EV → α) (f : Nat → α) (g : Nat → α) : α :=
  @EV.rec (fun _ => α) (fun _ => Unit) a b c d (fun xs _ => e xs) f g () (fun _ _ _ _ => ()) x
def onInt {α : Type} (x : EV) (no : α) (k : Int → α) : α := x.cs no (fun _ => no) k (fun _ => no) (fun _ => no) (fun _ => no) (fun _ => no)
def onBl {α : Type} (x : EV) (no : α) (k : Bool → α) : α := x.cs no k (fun _ => no) (fun _ => no) (fun _ => no) (fun _ => no) (fun _ => no)
def onStr {α : Type} (x : EV) (no : α) (k : Str → α) : α := x.cs no (fun _ => no) (fun _ => no) k (fun _ => no) (fun _ => no) (fun _ => no)
def onTup {α : Type} (x : EV) (no : α) (k : List EV → α) : α := x.cs no (fun _ => no) (fun _ => no) (fun _ => no) k (fun _ => no) (fun _ => no)
def onRef {α : Type} (x : EV) (no : α) (k : Nat → α) : α := x.cs no (fun _ => no) (fun _ => no) (fun _ => no) (fun _ => no) k (fun _ => no)
def onGlo {α : Type} (x : EV) (no : α) (k : Nat → α) : α := x.cs no (fun _ => no) (fun _ => no) (fun _ => no) (fun _ => no) (fun _ => no) k
def EO.cs {α : Type} (o : EO) (a : List EV → α) (b : List (EV × EV) → α) (c : Nat → List (Str × EV) → α) : α := @EO.rec (fun _ => α) a b c o
def onOpt {α β : Type} (o : Option β) (no : α) (k : β → α) : α := @Option.rec β (fun _ => α) no k o
def onLst {α : Type} (h : EH) (x : EV) (no : α) (k : Nat → List EV → α) : α := onRef x no fun n => onOpt (h.get n) no fun o => o.cs (fun xs => k n xs) (fun _ => no) (fun _ _ => no)
def onDic {α : Type} (h : EH) (x : EV) (no : α) (k : Nat → List (EV × EV) → α) : α := onRef x no fun n => onOpt (h.get n) no fun o => o.cs (fun _ => no) (fun xs => k n xs) (fun _ _ => no)
def onIns {α : Type} (h : EH) (x : EV) (no : α) (k : Nat → Nat → List (Str × EV) → α) : α := onRef x no fun n => onOpt (h.get n) no fun o => o.cs (fun _ => no) (fun _ => no) (fun c fs => k n c fs)
section
variable {α β : Type} {x : EV} {no : α} {P : α → Prop} (hn : ¬ P no)
include hn
theorem onInt_ok {k : Int → α} (e : P (onInt x no k)) : ∃ i, x = .int i ∧ P (k i) := by
  cases x with
  | int i => exact ⟨i, rfl, e⟩
  | _ => exact absurd e hn
theorem onBl_ok {k : Bool → α} (e : P (onBl x no k)) : ∃ i, x = .bl i ∧ P (k i) := by
  cases x with
  | bl i => exact ⟨i, rfl, e⟩
  | _ => exact absurd e hn
theorem onStr_ok {k : Str → α} (e : P (onStr x no k)) : ∃ i, x = .str i ∧ P (k i) := by
  cases x with
  | str i => exact ⟨i, rfl, e⟩
  | _ => exact absurd e hn
theorem onTup_ok {k : List EV → α} (e : P (onTup x no k)) : ∃ i, x = .tup i ∧ P (k i) := by
  cases x with
  | tup i => exact ⟨i, rfl, e⟩
  | _ => exact absurd e hn
theorem onRef_ok {k : Nat → α} (e : P (onRef x no k)) : ∃ i, x = .ref i ∧ P (k i) := by
  cases x with
  | ref i => exact ⟨i, rfl, e⟩
  | _ => exact absurd e hn
theorem onGlo_ok {k : Nat → α} (e : P (onGlo x no k)) : ∃ i, x = .glo i ∧ P (k i) := by
  cases x with
  | glo i => exact ⟨i, rfl, e⟩
  | _ => exact absurd e hn
theorem onOpt_ok {o : Option β} {k : β → α} (e : P (onOpt o no k)) : ∃ y, o = some y ∧ P (k y) := by
  cases o with
  | some y => exact ⟨y, rfl, e⟩
  | none => exact absurd e hn
theorem onLst_ok {h : EH} {k : Nat → List EV → α} (e : P (onLst h x no k)) : ∃ n xs, x = .ref n ∧ h.get n = some (.lst xs) ∧ P (k n xs) := by
  obtain ⟨n, e1, e⟩ := onRef_ok hn e
  obtain ⟨o, e2, e⟩ := onOpt_ok hn e
  cases o with
  | lst xs => exact ⟨n, xs, e1, e2, e⟩
  | _ => exact absurd e hn
theorem onDic_ok {h : EH} {k : Nat → List (EV × EV) → α} (e : P (onDic h x no k)) : ∃ n xs, x = .ref n ∧ h.get n = some (.dic xs) ∧ P (k n xs) := by
  obtain ⟨n, e1, e⟩ := onRef_ok hn e
  obtain ⟨o, e2, e⟩ := onOpt_ok hn e
  cases o with
  | dic xs => exact ⟨n, xs, e1, e2, e⟩
  | _ => exact absurd e hn
theorem onIns_ok {h : EH} {k : Nat → Nat → List (Str × EV) → α} (e : P (onIns h x no k)) : ∃ n c fs, x = .ref n ∧ h.get n = some (.ins c fs) ∧ P (k n c fs) := by
  obtain ⟨n, e1, e⟩ := onRef_ok hn e
  obtain ⟨o, e2, e⟩ := onOpt_ok hn e
  cases o with
  | ins c fs => exact ⟨n, c, fs, e1, e2, e⟩
  | _ => exact absurd e hn
theorem cnd_ok {c : Bool} {a : α} (e : P (cnd c a no)) : c = true ∧ P a := by
  cases c with
  | true => exact ⟨rfl, e⟩
  | false => exact absurd e hn
end
/-- which results are results -/
abbrev Is (z : EV) (h' : EH) : R → Prop := fun r => r = .ok z h'
theorem isNo {z : EV} {h' : EH} : ¬ Is z h' .no := fun e => nomatch e
abbrev IsB (z : Bool) (h' : EH) : RB → Prop := fun r => r = .ok z h'
theorem isNoB {z : Bool} {h' : EH} : ¬ IsB z h' .no := fun e => nomatch e
abbrev IsA (z : List EV) (h' : EH) : RA → Prop := fun r => r = .ok z h'
theorem isNoA {z : List EV} {h' : EH} : ¬ IsA z h' .no := fun e => nomatch e
def R.bd {α : Type} (r : R) (no : α) (k : EV → EH → α) : α := @R.rec (fun _ => α) no k r
def RB.bd {α : Type} (r : RB) (no : α) (k : Bool → EH → α) : α := @RB.rec (fun _ => α) no k r
def RA.bd {α : Type} (r : RA) (no : α) (k : List EV → EH → α) : α := @RA.rec (fun _ => α) no k r
theorem R.bd_ok {α : Type} {r : R} {no : α} {k : EV → EH → α} {P : α → Prop} (hn : ¬ P no) (e : P (r.bd no k)) : ∃ x h, r = .ok x h ∧ P (k x h) := by
  cases r with
  | no => exact absurd e hn
  | ok x h => exact ⟨x, h, rfl, e⟩
theorem RB.bd_ok {α : Type} {r : RB} {no : α} {k : Bool → EH → α} {P : α → Prop} (hn : ¬ P no) (e : P (r.bd no k)) : ∃ x h, r = .ok x h ∧ P (k x h) := by
  cases r with
  | no => exact absurd e hn
  | ok x h => exact ⟨x, h, rfl, e⟩
theorem RA.bd_ok {α : Type} {r : RA} {no : α} {k : List EV → EH → α} {P : α → Prop} (hn : ¬ P no) (e : P (r.bd no k)) : ∃ x h, r = .ok x h ∧ P (k x h) := by
  cases r with
  | no => exact absurd e hn
  | ok x h => exact ⟨x, h, rfl, e⟩

/-! ## judgements by the evaluator -/
section
variable {G : GA} {X : Cx}
theorem PE.weak {e : Expr} {t t' : TE} (h : PE X e t) (w : ∀ σ H Q, t' σ H Q → t σ H Q) : PE X e t' := ⟨fun pins s σ H Q I q => h.run pins s σ H Q I (w σ H Q q)⟩
theorem PT.weak {e : Expr} {t t' : TT} (h : PT X e t) (w : ∀ σ H Q, t' σ H Q → t σ H Q) : PT X e t' := ⟨fun pins s σ H Q I q => h.run pins s σ H Q I (w σ H Q q)⟩
theorem PA.weak {e : List Expr} {t t' : TA} (h : PA X e t) (w : ∀ σ H Q, t' σ H Q → t σ H Q) : PA X e t' := ⟨fun pos pins s σ H Q I q => h.run pos pins s σ H Q I (w σ H Q q)⟩
theorem PS.weak {e : Stmt} {t t' : TS} (h : PS X e t) (w : ∀ D σ H, t' D σ H → t D σ H) : PS X e t' := ⟨fun pins s σ H D I q => h.run pins s σ H D I (w D σ H q)⟩
theorem PSs.weak {e : List Stmt} {t t' : TS} (h : PSs X e t) (w : ∀ D σ H, t' D σ H → t D σ H) : PSs X e t' := ⟨fun pins s σ H D I q => h.run pins s σ H D I (w D σ H q)⟩
section
variable {ρ ρ' : Nat → Addr} {h h' h2 : EH} {H H' : Hp} {x : EV} {Q : VK}
theorem KE.after (k : KE G ρ h H x h2 Q) (l : Lat G ρ h H ρ' h' H') : KE G ρ' h' H' x h2 Q := fun ρ2 v H2 l2 e2 r2 => k ρ2 v H2 (l.trans l2) e2 r2
theorem KE.here {v : V} (k : KE G ρ h H x h Q) (e : Emb G ρ h H) (r : Rep G ρ h.n H x v) : Q v H := k ρ v H Lat.refl e r
end
/-- nothing is known of it -/
def eNo : DE := fun _ _ => .no
def bNo : DB := fun _ _ => .no
def aNo : DA := fun _ _ => .no
def sNo : DS := fun _ _ => .no
theorem q_no {e : Expr} : PE X e (rdE G eNo) := ⟨fun _ _ _ _ _ _ ⟨_, _, _, _, _, _, _, e, _⟩ => nomatch e⟩
theorem q_bno {e : Expr} : PT X e (rdB G bNo) := ⟨fun _ _ _ _ _ _ ⟨_, _, _, _, _, _, _, e, _⟩ => nomatch e⟩
theorem q_ano {e : List Expr} : PA X e (rdA G aNo) := ⟨fun _ _ _ _ _ _ _ ⟨_, _, _, _, _, _, _, e, _⟩ => nomatch e⟩
theorem q_sno {e : Stmt} : PS X e (rdS G sNo) := ⟨fun _ _ _ _ _ _ ⟨_, _, _, _, _, e⟩ => e.elim⟩
theorem q_ssno {e : List Stmt} : PSs X e (rdS G sNo) := ⟨fun _ _ _ _ _ _ ⟨_, _, _, _, _, e⟩ => e.elim⟩

/-- a slot -/
def eVar (i : Nat) : DE := fun s h => onOpt (nth s i) .no fun o => onOpt o .no fun x => .ok x h
theorem q_var {i : Nat} {x : Str} {pos : Pos} (hN : X.N[i]? = some x) (hv : Vis X.env.scope x) (hd : (x == ("__debug__" : Str)) = false) (hcd : (x == ("__classdict__" : Str)) = false) : PE X (.Name x pos) (rdE G (eVar i)) := by
  refine PE.weak (pe_var hN hv hd hcd) ?_
  rintro σ H Q ⟨ρ, es, h, z, h', em, sl, e, k⟩
  obtain ⟨o, e1, e⟩ := onOpt_ok isNo (P := Is z h') e
  obtain ⟨y, e2, e⟩ := onOpt_ok isNo (P := Is z h') e
  cases e
  rw [nth_eq] at e1
  subst e2
  obtain ⟨v, e3, r⟩ := sl.at_ i z e1
  exact ⟨v, e3, k.here em r⟩
/-- a constant -/
def eC (x : EV) : DE := fun _ h => .ok x h
theorem q_c {e : Expr} {x : EV} {v : V} (hp : PE X e (tC v)) (r : ∀ ρ m H, Rep G ρ m H x v) : PE X e (rdE G (eC x)) := by
  refine PE.weak hp ?_
  rintro σ H Q ⟨ρ, es, h, z, h', em, sl, e, k⟩
  cases e
  exact k.here em (r ρ h.n H)
/-- two-place operations -/
def eOp (f : EV → EV → EH → R) (a b : DE) : DE := fun s h => (a s h).bd .no fun x h => (b s h).bd .no fun y h => f x y h
def OpS (G : GA) (f : EV → EV → EH → R) (r : R2) : Prop := ∀ (ρ : Nat → Addr) (h : EH) (H : Hp) (x y : EV) (v w : V) (z : EV) (h' : EH) (Q : VK),
  Emb G ρ h H → Rep G ρ h.n H x v → Rep G ρ h.n H y w → f x y h = .ok z h' → KE G ρ h H z h' Q → r v w H Q
theorem rd_op {f : EV → EV → EH → R} {r : R2} (hf : OpS G f r) {da db : DE} (σ : L2.St) (H : Hp) (Q : VK) (q : rdE G (eOp f da db) σ H Q) : tOp r (rdE G da) (rdE G db) σ H Q := by
  obtain ⟨ρ, es, h, z, h', em, sl, e, k⟩ := q
  obtain ⟨x, h1, e1, e⟩ := R.bd_ok (P := Is z h') isNo e
  obtain ⟨y, h2, e2, e⟩ := R.bd_ok (P := Is z h') isNo e
  refine ⟨ρ, es, h, x, h1, em, sl, e1, fun ρ1 v H1 l1 em1 rx => ⟨ρ1, es, h1, y, h2, em1, sl.lat l1, e2, fun ρ2 w H2 l2 em2 ry => ?_⟩⟩
  exact hf ρ2 h2 H2 x y v w z h' Q em2 (rx.lat l2) ry e (k.after (l1.trans l2))
theorem q_op {a b : Expr} {pos : Pos} {op : Operator} {f : EV → EV → EH → R} {r : R2} {da db : DE} (ho : OpR X (binaryOp op) r) (hf : OpS G f r) (ha : PE X a (rdE G da)) (hb : PE X b (rdE G db)) : PE X (.BinOp a op b pos) (rdE G (eOp f da db)) :=
  PE.weak (pe_op ho ha hb) fun σ H Q q => rd_op hf σ H Q q
theorem q_cmp {a b : Expr} {pos : Pos} {op : CmpOp} {f : EV → EV → EH → R} {r : R2} {da db : DE} (ho : OpR X (compareOp op) r) (hf : OpS G f r) (ha : PE X a (rdE G da)) (hb : PE X b (rdE G db)) (hm : behindInMarks op b = false) : PE X (.Compare a [op] [b] pos) (rdE G (eOp f da db)) :=
  PE.weak (pe_cmpR ho ha hb hm) fun σ H Q q => rd_op hf σ H Q q
/-- a value as a test, where it is a truth -/
def bVal (d : DE) : DB := fun s h => (d s h).bd .no fun x h => onBl x .no fun c => .ok c h
theorem rd_val {d : DE} (σ : L2.St) (H : Hp) (Q : Bool → Hp → Prop) (q : rdB G (bVal d) σ H Q) : tTest (rdE G d) σ H Q := by
  obtain ⟨ρ, es, h, z, h', em, sl, e, k⟩ := q
  obtain ⟨x, h1, e1, e⟩ := R.bd_ok (P := IsB z h') isNoB e
  obtain ⟨c, e2, e⟩ := onBl_ok (P := IsB z h') isNoB e
  cases e
  subst e2
  refine ⟨ρ, es, h, _, _, em, sl, e1, fun ρ1 v H1 l1 em1 rx => ?_⟩
  cases rx
  exact ⟨z, rfl, k ρ1 H1 l1 em1⟩
theorem t_cmp {a b : Expr} {pos : Pos} {op : CmpOp} {f : EV → EV → EH → R} {r : R2} {da db : DE} (ho : OpR X (compareOp op) r) (hf : OpS G f r) (ha : PE X a (rdE G da)) (hb : PE X b (rdE G db)) (hm : behindInMarks op b = false) : PT X (.Compare a [op] [b] pos) (rdB G (bVal (eOp f da db))) := by
  refine PT.weak (pt_cmpR ho ha hb hm) fun σ H Q q => ?_
  obtain ⟨ρ, es, h, z, h', em, sl, e, k⟩ := rd_val σ H Q q
  exact rd_op hf σ H _ ⟨ρ, es, h, z, h', em, sl, e, k⟩
theorem t_val {e : Expr} {d : DE} (he : PE X e (rdE G d)) (hw : ∀ whole, isTrue e X.env whole = (do let v ← whole; standAt e.pos; holding [v] (truthy v))) : PT X e (rdB G (bVal d)) :=
  PT.weak (pt_val he hw) fun σ H Q q => rd_val σ H Q q
/-- and, or, not as tests -/
def bAnd (a b : DB) : DB := fun s h => (a s h).bd .no fun c h => @Bool.rec (fun _ => RB) (.ok false h) (b s h) c
def bOr (a b : DB) : DB := fun s h => (a s h).bd .no fun c h => @Bool.rec (fun _ => RB) (b s h) (.ok true h) c
def bNot (a : DB) : DB := fun s h => (a s h).bd .no fun c h => .ok (@Bool.rec (fun _ => Bool) true false c) h
theorem rd_and {a b : DB} (σ : L2.St) (H : Hp) (Q : Bool → Hp → Prop) (q : rdB G (bAnd a b) σ H Q) : tAnd (rdB G a) (rdB G b) σ H Q := by
  obtain ⟨ρ, es, h, z, h', em, sl, e, k⟩ := q
  obtain ⟨c, h1, e1, e⟩ := RB.bd_ok (P := IsB z h') isNoB e
  refine ⟨ρ, es, h, c, h1, em, sl, e1, fun ρ1 H1 l1 em1 => ?_⟩
  cases c with
  | false => cases e; exact k ρ1 H1 l1 em1
  | true => exact ⟨ρ1, es, h1, z, h', em1, sl.lat l1, e, fun ρ2 H2 l2 em2 => k ρ2 H2 (l1.trans l2) em2⟩
theorem rd_or {a b : DB} (σ : L2.St) (H : Hp) (Q : Bool → Hp → Prop) (q : rdB G (bOr a b) σ H Q) : tOr (rdB G a) (rdB G b) σ H Q := by
  obtain ⟨ρ, es, h, z, h', em, sl, e, k⟩ := q
  obtain ⟨c, h1, e1, e⟩ := RB.bd_ok (P := IsB z h') isNoB e
  refine ⟨ρ, es, h, c, h1, em, sl, e1, fun ρ1 H1 l1 em1 => ?_⟩
  cases c with
  | true => cases e; exact k ρ1 H1 l1 em1
  | false => exact ⟨ρ1, es, h1, z, h', em1, sl.lat l1, e, fun ρ2 H2 l2 em2 => k ρ2 H2 (l1.trans l2) em2⟩
theorem rd_not {a : DB} (σ : L2.St) (H : Hp) (Q : Bool → Hp → Prop) (q : rdB G (bNot a) σ H Q) : tNot (rdB G a) σ H Q := by
  obtain ⟨ρ, es, h, z, h', em, sl, e, k⟩ := q
  obtain ⟨c, h1, e1, e⟩ := RB.bd_ok (P := IsB z h') isNoB e
  cases e
  refine ⟨ρ, es, h, c, _, em, sl, e1, fun ρ1 H1 l1 em1 => ?_⟩
  cases c <;> exact k ρ1 H1 l1 em1
variable {a b : Expr} {rest : List Expr} {pos : Pos}
theorem w_and1 {d : DB} (ha : PT X a (rdB G d)) : PW X (.BoolOp .And [a] pos) (rdB G d) := pw_and1 ha
theorem w_or1 {d : DB} (ha : PT X a (rdB G d)) : PW X (.BoolOp .Or [a] pos) (rdB G d) := pw_or1 ha
theorem PW.weak {e : Expr} {t t' : TT} (h : PW X e t) (w : ∀ σ H Q, t' σ H Q → t σ H Q) : PW X e t' := ⟨fun wh pins s σ H Q I q => h.run wh pins s σ H Q I (w σ H Q q)⟩
theorem w_and {d d' : DB} (ha : PT X a (rdB G d)) (hb : PW X (.BoolOp .And (b :: rest) pos) (rdB G d')) : PW X (.BoolOp .And (a :: b :: rest) pos) (rdB G (bAnd d d')) :=
  PW.weak (pw_and ha hb) fun σ H Q q => rd_and σ H Q q
theorem w_or {d d' : DB} (ha : PT X a (rdB G d)) (hb : PW X (.BoolOp .Or (b :: rest) pos) (rdB G d')) : PW X (.BoolOp .Or (a :: b :: rest) pos) (rdB G (bOr d d')) :=
  PW.weak (pw_or ha hb) fun σ H Q q => rd_or σ H Q q
theorem t_not {d : DB} (ha : PT X a (rdB G d)) : PT X (.UnaryOp .Not a pos) (rdB G (bNot d)) :=
  PT.weak (pt_not ha) fun σ H Q q => rd_not σ H Q q
/-- the same as values -/
def eAnd (a b : DE) : DE := fun s h => (a s h).bd .no fun x h => onBl x .no fun c => @Bool.rec (fun _ => R) (.ok (.bl false) h) (b s h) c
def eOr (a b : DE) : DE := fun s h => (a s h).bd .no fun x h => onBl x .no fun c => @Bool.rec (fun _ => R) (b s h) (.ok (.bl true) h) c
def eNot (a : DE) : DE := fun s h => (a s h).bd .no fun x h => onBl x .no fun c => .ok (.bl (@Bool.rec (fun _ => Bool) true false c)) h
theorem q_and {d d' : DE} (ha : PE X a (rdE G d)) (hb : PE X (.BoolOp .And (b :: rest) pos) (rdE G d')) : PE X (.BoolOp .And (a :: b :: rest) pos) (rdE G (eAnd d d')) := by
  refine PE.weak (pe_and ha hb) ?_
  rintro σ H Q ⟨ρ, es, h, z, h', em, sl, e, k⟩
  obtain ⟨x, h1, e1, e⟩ := R.bd_ok (P := Is z h') isNo e
  obtain ⟨c, e2, e⟩ := onBl_ok (P := Is z h') isNo e
  subst e2
  refine ⟨ρ, es, h, _, h1, em, sl, e1, fun ρ1 v H1 l1 em1 rx => ?_⟩
  cases rx
  refine ⟨c, rfl, ?_⟩
  cases c with
  | false => cases e; exact (k.after l1).here em1 (.bl _)
  | true => exact ⟨ρ1, es, h1, z, h', em1, sl.lat l1, e, k.after l1⟩
theorem q_or {d d' : DE} (ha : PE X a (rdE G d)) (hb : PE X (.BoolOp .Or (b :: rest) pos) (rdE G d')) : PE X (.BoolOp .Or (a :: b :: rest) pos) (rdE G (eOr d d')) := by
  refine PE.weak (pe_or ha hb) ?_
  rintro σ H Q ⟨ρ, es, h, z, h', em, sl, e, k⟩
  obtain ⟨x, h1, e1, e⟩ := R.bd_ok (P := Is z h') isNo e
  obtain ⟨c, e2, e⟩ := onBl_ok (P := Is z h') isNo e
  subst e2
  refine ⟨ρ, es, h, _, h1, em, sl, e1, fun ρ1 v H1 l1 em1 rx => ?_⟩
  cases rx
  refine ⟨c, rfl, ?_⟩
  cases c with
  | true => cases e; exact (k.after l1).here em1 (.bl _)
  | false => exact ⟨ρ1, es, h1, z, h', em1, sl.lat l1, e, k.after l1⟩
theorem q_not {d : DE} (ha : PE X a (rdE G d)) : PE X (.UnaryOp .Not a pos) (rdE G (eNot d)) := by
  refine PE.weak (pe_not ha) ?_
  rintro σ H Q ⟨ρ, es, h, z, h', em, sl, e, k⟩
  obtain ⟨x, h1, e1, e⟩ := R.bd_ok (P := Is z h') isNo e
  obtain ⟨c, e2, e⟩ := onBl_ok (P := Is z h') isNo e
  subst e2
  cases e
  refine ⟨ρ, es, h, _, _, em, sl, e1, fun ρ1 v H1 l1 em1 rx => ?_⟩
  cases rx
  refine ⟨c, rfl, ?_⟩
  cases c <;> exact (k.after l1).here em1 (.bl _)
/-- a if c else b -/
def eIf (c : DB) (a b : DE) : DE := fun s h => (c s h).bd .no fun c h => @Bool.rec (fun _ => R) (b s h) (a s h) c
theorem q_if {c : Expr} {dc : DB} {d d' : DE} (hc : PT X c (rdB G dc)) (ha : PE X a (rdE G d)) (hb : PE X b (rdE G d')) : PE X (.IfExp c a b pos) (rdE G (eIf dc d d')) := by
  refine PE.weak (pe_ifExp hc ha hb) ?_
  rintro σ H Q ⟨ρ, es, h, z, h', em, sl, e, k⟩
  obtain ⟨x, h1, e1, e⟩ := RB.bd_ok (P := Is z h') isNo e
  refine ⟨ρ, es, h, x, h1, em, sl, e1, fun ρ1 H1 l1 em1 => ?_⟩
  cases x with
  | true => exact ⟨ρ1, es, h1, z, h', em1, sl.lat l1, e, k.after l1⟩
  | false => exact ⟨ρ1, es, h1, z, h', em1, sl.lat l1, e, k.after l1⟩
/-- argument lists, displays -/
def aNil : DA := fun _ h => .ok [] h
def aCons (a : DE) (r : DA) : DA := fun s h => (a s h).bd .no fun x h => (r s h).bd .no fun xs h => .ok (x :: xs) h
theorem a_nil : PA X [] (rdA G aNil) := by
  refine PA.weak pa_nil ?_
  rintro σ H Q ⟨ρ, es, h, z, h', em, sl, e, k⟩
  cases e
  exact k ρ [] H Lat.refl em .nil
theorem a_cons {d : DE} {d' : DA} (ha : PE X a (rdE G d)) (hr : PA X rest (rdA G d')) (hs : starEach (a :: rest) X.env = (false, eval a X.env) :: starEach rest X.env) : PA X (a :: rest) (rdA G (aCons d d')) := by
  refine PA.weak (pa_cons ha hr hs) ?_
  rintro σ H Q ⟨ρ, es, h, z, h', em, sl, e, k⟩
  obtain ⟨x, h1, e1, e⟩ := R.bd_ok (P := IsA z h') isNoA e
  obtain ⟨xs, h2, e2, e⟩ := RA.bd_ok (P := IsA z h') isNoA e
  cases e
  exact ⟨ρ, es, h, x, h1, em, sl, e1, fun ρ1 v H1 l1 em1 rx => ⟨ρ1, es, h1, xs, _, em1, sl.lat l1, e2, fun ρ2 vs H2 l2 em2 rs => k ρ2 _ H2 (l1.trans l2) em2 (.cons (rx.lat l2) rs)⟩⟩
/-- lengths within the line -/
theorem lim_line : LIM ≤ sizeLine := by rw [sizeLine_eq]; decide
def eTup (a : DA) : DE := fun s h => (a s h).bd .no fun xs h => cnd (Nat.ble (lLen xs) 1000) (.ok (.tup xs) h) .no
theorem KE.tup {ρ : Nat → Addr} {h : EH} {H : Hp} {xs : List EV} {vs : List V} {Q : VK} (k : KE G ρ h H (.tup xs) h Q) (em : Emb G ρ h H) (r : Reps G ρ h.n H xs vs) : ∀ p, H p = none → Q (.ref p) (upd H p (.tup vs)) := fun p hp =>
  k ρ _ _ (Lat.side hp) (em.side hp) (.tup (.inl (.inl upd_same)) (r.later (fun _ _ => rfl) (Nat.le_refl _) fun _ _ q => SqT.upd_new hp q))
theorem q_tup {es : List Expr} {kk : Nat} {d : DA} (h : PA X es (rdA G d)) : PE X (.Tuple es kk pos) (rdE G (eTup d)) := by
  refine PE.weak (pe_tup h) ?_
  rintro σ H Q ⟨ρ, es, h, z, h', em, sl, e, k⟩
  obtain ⟨xs, h1, e1, e⟩ := RA.bd_ok (P := Is z h') isNo e
  obtain ⟨hl, e⟩ := cnd_ok (P := Is z h') isNo e
  cases e
  have hl := Nat.le_of_ble_eq_true hl
  rw [lLen_eq] at hl
  refine ⟨ρ, es, h, xs, _, em, sl, e1, fun ρ1 vs H1 l1 em1 rs => ⟨?_, (k.after l1).tup em1 rs⟩⟩
  rw [← rs.length, sizeLine_eq]; omega
def mkL (xs : List EV) (h : EH) : R := h.new (.lst xs) .no fun n h => .ok (.ref n) h
theorem KE.mkL {ρ : Nat → Addr} {h h' : EH} {H : Hp} {xs : List EV} {z : EV} {vs : List V} {Q : VK} (e : LV.mkL xs h = .ok z h') (k : KE G ρ h H z h' Q) (em : Emb G ρ h H) (r : Reps G ρ h.n H xs vs) : ∀ p, H p = none → Q (.ref p) (upd H p (.lst vs)) := fun p hp => by
  obtain ⟨h2, hn, hg, e⟩ := EH.new_ok (P := Is z h') isNo e
  cases e
  refine k (ext ρ h.n p) _ _ (Lat.made hp hn hg) (em.made hp hn hg (.lst r)) ?_
  have e : p = ext ρ h.n p h.n := ext_same.symm
  conv => rhs; rw [e]
  exact .ref (by omega)
def eLst (a : DA) : DE := fun s h => (a s h).bd .no fun xs h => cnd (Nat.ble (lLen xs) 100000) (mkL xs h) .no
theorem q_lst {es : List Expr} {d : DA} (h : PA X es (rdA G d)) : PE X (.List es pos) (rdE G (eLst d)) := by
  refine PE.weak (pe_lst h) ?_
  rintro σ H Q ⟨ρ, es, h, z, h', em, sl, e, k⟩
  obtain ⟨xs, h1, e1, e⟩ := RA.bd_ok (P := Is z h') isNo e
  obtain ⟨hl, e⟩ := cnd_ok (P := Is z h') isNo e
  have hl := Nat.le_of_ble_eq_true hl
  rw [lLen_eq] at hl
  refine ⟨ρ, es, h, xs, _, em, sl, e1, fun ρ1 vs H1 l1 em1 rs => ⟨?_, (k.after l1).mkL e em1 rs⟩⟩
  rw [← rs.length, sizeLine_eq]; omega
end
end LV
end

/-! ##### EvD.lean -/
set_option Elab.async false
set_option linter.all false
set_option maxRecDepth 100000
set_option maxHeartbeats 4000000
set_option autoImplicit false
noncomputable section
namespace LV
open PySem PySem.Spec PyProof.Rows L2

/-! ## data: ==, != -/
def allB {α : Type} (p : α → Bool) (xs : List α) : Bool := @List.rec α (fun _ => Bool) true (fun x _ ih => @Bool.rec (fun _ => Bool) false ih (p x)) xs
theorem allB_eq {α : Type} (p : α → Bool) (xs : List α) : allB p xs = xs.all p := by
  induction xs with
  | nil => rfl
  | cons x xs ih =>
    show @Bool.rec (fun _ => Bool) false (allB p xs) (p x) = _
    rw [ih, List.all_cons]; cases p x <;> rfl
def sOk (s : Str) : Bool := allB (fun c => Nat.ble c 1114111) s.cps.toList
theorem sOk_ok {s : Str} (h : sOk s = true) : PyData.strOk s = true := by
  unfold sOk at h
  rw [allB_eq] at h
  unfold PyData.strOk
  rw [← Array.all_toList]
  refine List.all_eq_true.mpr fun c hc => ?_
  have := Nat.le_of_ble_eq_true (List.all_eq_true.mp h c hc)
  exact decide_eq_true (by omega)
def dOk (n : Nat) : EH → EV → Bool := @Nat.rec (fun _ => EH → EV → Bool) (fun _ _ => false)
  (fun _ ih h x => x.cs true (fun _ => true) (fun _ => true) (fun s => sOk s) (fun xs => allB (ih h) xs) (fun r => onOpt (h.get r) false fun o => o.cs (fun xs => allB (ih h) xs) (fun _ => false) (fun _ _ => false)) (fun _ => false)) n
def toD (n : Nat) (h : EH) (x : EV) : PyData := match n with
  | 0 => .none
  | n + 1 => match x with
    | .non => .none
    | .bl b => .bool b
    | .int i => .int i
    | .str s => .str s
    | .tup xs => .tuple (xs.map (toD n h))
    | .ref r => match h.get r with
      | some (.lst xs) => .list (xs.map (toD n h))
      | _ => .none
    | .glo _ => .none
theorem layAll {ds : List PyData} (h : ∀ d ∈ ds, d.canLay0 = true) : PyData.canLayAll0 ds = true := by
  induction ds with
  | nil => simp [PyData.canLayAll0]
  | cons d ds ih =>
    simp only [PyData.canLayAll0, Bool.and_eq_true]
    exact ⟨h d List.mem_cons_self, ih fun e he => h e (List.mem_cons_of_mem _ he)⟩
theorem depthAll_le {ds : List PyData} {n : Nat} (h : ∀ d ∈ ds, d.depth ≤ n) : PyData.depthAll ds ≤ n := by
  induction ds with
  | nil => simp [PyData.depthAll]
  | cons d ds ih =>
    simp only [PyData.depthAll]
    exact Nat.max_le.mpr ⟨h d List.mem_cons_self, ih fun e he => h e (List.mem_cons_of_mem _ he)⟩
section
variable {G : GA} {ρ : Nat → Addr} {h : EH} {H : Hp}
theorem toD_ok : ∀ (n : Nat) (x : EV) (v : V), dOk n h x = true → Emb G ρ h H → Rep G ρ h.n H x v → Dp G.K H v (toD n h x) ∧ (toD n h x).canLay0 = true ∧ (toD n h x).depth ≤ n
  | 0, _, _, e, _, _ => by cases e
  | n + 1, x, v, e, em, r => by
    have all : ∀ (xs : List EV) (vs : List V), allB (dOk n h) xs = true → Reps G ρ h.n H xs vs → DpAll G.K H vs (xs.map (toD n h)) ∧ PyData.canLayAll0 (xs.map (toD n h)) = true ∧ PyData.depthAll (xs.map (toD n h)) ≤ n := by
      intro xs
      induction xs with
      | nil => intro vs _ rs; cases rs; exact ⟨.nil, by simp [PyData.canLayAll0], by simp [PyData.depthAll]⟩
      | cons y ys ih =>
        intro vs e rs
        cases rs with
        | cons r1 r2 =>
          rw [allB_eq, List.all_cons, Bool.and_eq_true] at e
          obtain ⟨a1, a2, a3⟩ := toD_ok n y _ e.1 em r1
          obtain ⟨b1, b2, b3⟩ := ih _ (by rw [allB_eq]; exact e.2) r2
          rw [List.map_cons]
          refine ⟨.cons a1 b1, ?_, ?_⟩
          · simp only [PyData.canLayAll0, Bool.and_eq_true]; exact ⟨a2, b2⟩
          · simp only [PyData.depthAll]; exact Nat.max_le.mpr ⟨a3, b3⟩
    cases x with
    | non => cases r; exact ⟨.non, by simp [toD, PyData.canLay0], by simp [toD, PyData.depth]⟩
    | bl b => cases r; exact ⟨.bl b, by simp [toD, PyData.canLay0], by simp [toD, PyData.depth]⟩
    | int i => cases r; exact ⟨.int i, by simp [toD, PyData.canLay0], by simp [toD, PyData.depth]⟩
    | str s => cases r; exact ⟨.str s, by simp only [toD, PyData.canLay0]; exact sOk_ok e, by simp [toD, PyData.depth]⟩
    | tup xs =>
      cases r with
      | tup q rs =>
        obtain ⟨a1, a2, a3⟩ := all xs _ e rs
        exact ⟨.tup q a1, by simp only [toD, PyData.canLay0]; exact a2, by simp only [toD, PyData.depth]; omega⟩
    | ref i =>
      cases r
      have e1 : onOpt (h.get i) false (fun o => o.cs (fun xs => allB (dOk n h) xs) (fun _ => false) (fun _ _ => false)) = true := e
      obtain ⟨o, g, e2⟩ := onOpt_ok (P := fun b : Bool => b = true) (by simp) e1
      cases o with
      | lst xs =>
        obtain ⟨ho, h1, h2⟩ := em.obj i _ g
        cases h2 with
        | lst rs =>
          obtain ⟨a1, a2, a3⟩ := all xs _ e2 rs
          have ed : toD (n + 1) h (.ref i) = .list (xs.map (toD n h)) := by simp only [toD, g]
          rw [ed]
          exact ⟨.lst (.inl (.inl h1)) a1, by simp only [PyData.canLay0]; exact a2, by simp only [PyData.depth]; omega⟩
      | dic _ => cases e2
      | ins _ _ => cases e2
    | glo k => cases e
theorem shaped_ok {n : Nat} {x : EV} {v : V} (hn : n ≤ 64) (e : dOk n h x = true) (em : Emb G ρ h H) (r : Rep G ρ h.n H x v) : Dp G.K H v (toD n h x) ∧ SeqAt.shaped (toD n h x) = true := by
  obtain ⟨a, b, c⟩ := toD_ok n x v e em r
  refine ⟨a, ?_⟩
  unfold SeqAt.shaped
  rw [b, decide_eq_true (by omega)]; rfl
end
def b2n (b : Bool) : Int := @Bool.rec (fun _ => Int) (.ofNat 0) (.ofNat 1) b
def bEq (a b : Bool) : Bool := @Bool.rec (fun _ => Bool) (@Bool.rec (fun _ => Bool) true false b) b a
def all2 {α : Type} (p : α → α → Bool) (xs : List α) : List α → Bool := @List.rec α (fun _ => List α → Bool) (fun ys => @List.rec α (fun _ => Bool) true (fun _ _ _ => false) ys)
  (fun x _ ih ys => @List.rec α (fun _ => Bool) false (fun y ys _ => @Bool.rec (fun _ => Bool) false (ih ys) (p x y)) ys) xs
/-- == of data -/
def veq (n : Nat) : EH → EV → EV → Bool := @Nat.rec (fun _ => EH → EV → EV → Bool) (fun _ _ _ => true)
  (fun _ ih h x y => x.cs (y.cs true (fun _ => false) (fun _ => false) (fun _ => false) (fun _ => false) (fun _ => false) (fun _ => false))
    (fun a => y.cs false (fun b => bEq a b) (fun j => iEq (b2n a) j) (fun _ => false) (fun _ => false) (fun _ => false) (fun _ => false))
    (fun i => y.cs false (fun b => iEq i (b2n b)) (fun j => iEq i j) (fun _ => false) (fun _ => false) (fun _ => false) (fun _ => false))
    (fun s => onStr y false fun t => sEq s t)
    (fun xs => onTup y false fun ys => all2 (ih h) xs ys)
    (fun r => onRef y false fun q => onOpt (h.get r) false fun o => o.cs (fun xs => onOpt (h.get q) false fun u => u.cs (fun ys => all2 (ih h) xs ys) (fun _ => false) (fun _ _ => false)) (fun _ => false) (fun _ _ => false))
    (fun _ => false)) n
theorem bEq_eq (a b : Bool) : bEq a b = (a == b) := by cases a <;> cases b <;> rfl
theorem b2n_eq (b : Bool) : b2n b = if b then 1 else 0 := by cases b <;> rfl
theorem iEq_beq (i j : Int) : iEq i j = (i == j) := by rw [iEq_dec]; rw [Bool.eq_iff_iff]; simp
theorem sEq_beq (i j : Str) : sEq i j = (i == j) := by rw [sEq_dec]; rw [Bool.eq_iff_iff]; simp
theorem veq_ok {h : EH} : ∀ (n : Nat) (x y : EV), dOk n h x = true → dOk n h y = true → veq n h x y = PyData.eqv (toD n h x) (toD n h y)
  | 0, _, _, e, _ => by cases e
  | n + 1, x, y, e1, e2 => by
    have all : ∀ (xs ys : List EV), allB (dOk n h) xs = true → allB (dOk n h) ys = true → all2 (veq n h) xs ys = PyData.eqvAll (xs.map (toD n h)) (ys.map (toD n h)) := by
      intro xs
      induction xs with
      | nil => intro ys _ _; cases ys with
        | nil => simp [PyData.eqvAll]; rfl
        | cons y ys => simp [PyData.eqvAll]; rfl
      | cons x xs ih =>
        intro ys a b
        cases ys with
        | nil => simp [PyData.eqvAll]; rfl
        | cons y ys =>
          rw [allB_eq, List.all_cons, Bool.and_eq_true] at a b
          show @Bool.rec (fun _ => Bool) false (all2 (veq n h) xs ys) (veq n h x y) = _
          rw [veq_ok n x y a.1 b.1, ih ys (by rw [allB_eq]; exact a.2) (by rw [allB_eq]; exact b.2)]
          simp only [List.map_cons, PyData.eqvAll]
          cases PyData.eqv (toD n h x) (toD n h y) <;> rfl
    have ref : ∀ i, dOk (n + 1) h (.ref i) = true → ∃ xs, h.get i = some (.lst xs) ∧ allB (dOk n h) xs = true ∧ toD (n + 1) h (.ref i) = .list (xs.map (toD n h)) := by
      intro i e
      have e1 : onOpt (h.get i) false (fun o => o.cs (fun xs => allB (dOk n h) xs) (fun _ => false) (fun _ _ => false)) = true := e
      obtain ⟨o, g, e2⟩ := onOpt_ok (P := fun b : Bool => b = true) (by simp) e1
      cases o with
      | lst xs => exact ⟨xs, g, e2, by simp only [toD, g]⟩
      | dic _ => cases e2
      | ins _ _ => cases e2
    cases x with
    | glo k => cases e1
    | non =>
      cases y with
      | glo k => cases e2
      | ref j => obtain ⟨ys, g2, a2, t2⟩ := ref j e2; rw [t2]; simp [toD, PyData.eqv]; rfl
      | _ => simp [toD, PyData.eqv]; rfl
    | bl a =>
      cases y with
      | glo k => cases e2
      | ref j => obtain ⟨ys, g2, a2, t2⟩ := ref j e2; rw [t2]; simp [toD, PyData.eqv]; rfl
      | bl b => simp only [toD, PyData.eqv]; rw [← bEq_eq]; rfl
      | int j => simp only [toD, PyData.eqv]; rw [← b2n_eq, ← iEq_beq]; rfl
      | _ => simp [toD, PyData.eqv]; rfl
    | int i =>
      cases y with
      | glo k => cases e2
      | ref j => obtain ⟨ys, g2, a2, t2⟩ := ref j e2; rw [t2]; simp [toD, PyData.eqv]; rfl
      | bl b => simp only [toD, PyData.eqv]; rw [← b2n_eq, ← iEq_beq]; rfl
      | int j => simp only [toD, PyData.eqv]; rw [← iEq_beq]; rfl
      | _ => simp [toD, PyData.eqv]; rfl
    | str s =>
      cases y with
      | glo k => cases e2
      | ref j => obtain ⟨ys, g2, a2, t2⟩ := ref j e2; rw [t2]; simp [toD, PyData.eqv]; rfl
      | str t => simp only [toD, PyData.eqv]; rw [← sEq_beq]; rfl
      | _ => simp [toD, PyData.eqv]; rfl
    | tup xs =>
      cases y with
      | glo k => cases e2
      | ref j => obtain ⟨ys, g2, a2, t2⟩ := ref j e2; rw [t2]; simp [toD, PyData.eqv]; rfl
      | tup ys =>
        simp only [toD, PyData.eqv]
        exact all xs ys e1 e2
      | _ => simp [toD, PyData.eqv]; rfl
    | ref i =>
      obtain ⟨xs, g1, a1, t1⟩ := ref i e1
      rw [t1]
      cases y with
      | glo k => cases e2
      | ref j =>
        obtain ⟨ys, g2, a2, t2⟩ := ref j e2
        rw [t2]
        simp only [PyData.eqv]
        rw [← all xs ys a1 a2]
        show onOpt (h.get i) false _ = _
        rw [g1]
        show onOpt (h.get j) false _ = _
        rw [g2]
        rfl
      | _ => simp [toD, PyData.eqv]; rfl
/-- how deep data may be here -/
def DEP : Nat := 40
def fEq (x y : EV) (h : EH) : R := cnd (dOk DEP h x) (cnd (dOk DEP h y) (.ok (.bl (veq DEP h x y)) h) .no) .no
def fNe (x y : EV) (h : EH) : R := cnd (dOk DEP h x) (cnd (dOk DEP h y) (.ok (.bl (@Bool.rec (fun _ => Bool) true false (veq DEP h x y))) h) .no) .no
section
variable {G : GA}
theorem s_eq : OpS G fEq (rEqD G.K) := fun ρ h H x y v w z h' Q em rx ry e k => by
  obtain ⟨e1, e⟩ := cnd_ok (P := Is z h') isNo e
  obtain ⟨e2, e⟩ := cnd_ok (P := Is z h') isNo e
  cases e
  obtain ⟨a1, a2⟩ := shaped_ok (by decide) e1 em rx
  obtain ⟨b1, b2⟩ := shaped_ok (by decide) e2 em ry
  exact ⟨_, _, a1, b1, a2, b2, by rw [← veq_ok DEP x y e1 e2]; exact k.here em (.bl _)⟩
theorem s_ne : OpS G fNe (rNeD G.K) := fun ρ h H x y v w z h' Q em rx ry e k => by
  obtain ⟨e1, e⟩ := cnd_ok (P := Is z h') isNo e
  obtain ⟨e2, e⟩ := cnd_ok (P := Is z h') isNo e
  cases e
  obtain ⟨a1, a2⟩ := shaped_ok (by decide) e1 em rx
  obtain ⟨b1, b2⟩ := shaped_ok (by decide) e2 em ry
  refine ⟨_, _, a1, b1, a2, b2, ?_⟩
  rw [← veq_ok DEP x y e1 e2]
  have := k.here em (v := .bl (!veq DEP h x y)) (by cases veq DEP h x y <;> exact .bl _)
  exact this
end
end LV
end

/-! ##### _ren.lean -/
set_option Elab.async false
set_option linter.all false
set_option maxRecDepth 100000
set_option maxHeartbeats 4000000
set_option autoImplicit false
noncomputable section
namespace LV
open PySem PySem.Spec PyProof.Rows L2

theorem OpS.or1 {G : GA} {f : EV → EV → EH → R} {r r' : R2} (h : OpS G f r) : OpS G f (fun x y H Q => r x y H Q ∨ r' x y H Q) := fun ρ hh H x y v w z h' Q a b c d e => .inl (h ρ hh H x y v w z h' Q a b c d e)
theorem sMk_l (s : Str) : sMk s.cps.toList = s := by obtain ⟨⟨l⟩⟩ := s; rfl
theorem sMk_cat (a b : Str) : sMk (cat a.cps.toList b.cps.toList) = a ++ b := by
  rw [cat_eq]
  obtain ⟨⟨l⟩⟩ := a
  obtain ⟨⟨m⟩⟩ := b
  show sMk (l ++ m) = Str.append ⟨⟨l⟩⟩ ⟨⟨m⟩⟩
  unfold sMk Str.append
  simp
theorem sLen (s : Str) : lLen s.cps.toList = s.length := by rw [lLen_eq]; simp [Str.length]

/-! ## + - * and order -/
def fAdd (x y : EV) (h : EH) : R := x.cs .no (fun _ => .no)
  (fun i => onInt y .no fun j => frI (Int.add i j) fun k => .ok (.int k) h)
  (fun a => onStr y .no fun b => cnd (Nat.ble (Nat.add (lLen a.cps.toList) (lLen b.cps.toList)) LIM) (.ok (.str (sMk (cat a.cps.toList b.cps.toList))) h) .no)
  (fun a => onTup y .no fun b => cnd (Nat.ble (Nat.add (lLen a) (lLen b)) LIM) (.ok (.tup (cat a b)) h) .no)
  (fun _ => onLst h x .no fun _ a => onLst h y .no fun _ b => cnd (Nat.ble (Nat.add (lLen a) (lLen b)) LIM) (mkL (cat a b) h) .no)
  (fun _ => .no)
def rAddA (K : PySem.W.Frag) : R2 := fun x y H Q => rI0 (fun i j => .int (i + j)) x y H Q ∨ (fun x y H Q => (fun x y H Q => ∃ i j, x = .str i ∧ y = .str j ∧ i.length + j.length ≤ sizeLine ∧ Q (.str (i ++ j)) H : R2) x y H Q ∨ (fun x y H Q => rCatA K x y H Q ∨ rCat x y H Q : R2) x y H Q : R2) x y H Q
theorem o_add {X : Cx} : OpR X (binaryOp .Add) (rAddA X.K) := OpR.or op_add (OpR.or op_add_str (OpR.or op_catA op_cat))
section
variable {G : GA}
theorem s_add : OpS G fAdd (rAddA G.K) := fun ρ h H x y v w z h' Q em rx ry e k => by
  cases x with
  | non => cases e
  | bl _ => cases e
  | glo _ => cases e
  | int i =>
    obtain ⟨j, rfl, eb⟩ := onInt_ok (P := Is z h') isNo e
    rw [frI_eq] at eb
    cases eb
    cases rx; cases ry
    exact .inl ⟨i, j, rfl, rfl, k.here em (.int _)⟩
  | str a =>
    obtain ⟨b, rfl, ec⟩ := onStr_ok (P := Is z h') isNo e
    obtain ⟨hl, ed⟩ := cnd_ok (P := Is z h') isNo ec
    cases ed
    cases rx; cases ry
    have hl := Nat.le_of_ble_eq_true hl
    rw [sLen, sLen] at hl
    refine .inr (.inl ⟨a, b, rfl, rfl, Nat.le_trans hl lim_line, ?_⟩)
    rw [← sMk_cat]
    exact k.here em (.str _)
  | tup a =>
    obtain ⟨b, rfl, ee⟩ := onTup_ok (P := Is z h') isNo e
    obtain ⟨hl, ef⟩ := cnd_ok (P := Is z h') isNo ee
    cases ef
    have hl := Nat.le_of_ble_eq_true hl
    rw [lLen_eq, lLen_eq] at hl
    rw [cat_eq] at k
    cases rx with
    | tup q1 r1 =>
      cases ry with
      | tup q2 r2 =>
        rename_i p vs p2 us
        have hl1 := r1.length
        have hl2 := r2.length
        refine .inr (.inr (.inl ⟨p, p2, vs, us, rfl, rfl, q1, q2, ?_, fun z => ?_, fun _ z => ?_, fun _ _ => ?_⟩))
        · refine Nat.le_trans ?_ lim_line
          rw [← hl1, ← hl2]; exact hl
        · subst z
          cases r1
          exact k.here em (.tup q2 r2)
        · subst z
          cases r2
          rw [List.append_nil] at k
          exact k.here em (.tup q1 r1)
        · exact k.tup em (r1.append r2)
  | ref n =>
    obtain ⟨i, a, e1, g1, eg⟩ := onLst_ok (x := .ref n) (h := h) (k := fun _ a => onLst h y .no fun _ b => cnd (Nat.ble (Nat.add (lLen a) (lLen b)) LIM) (mkL (cat a b) h) .no) (P := Is z h') isNo e
    cases e1
    obtain ⟨j, b, rfl, g2, eh⟩ := onLst_ok (P := Is z h') isNo eg
    obtain ⟨hl, ei⟩ := cnd_ok (P := Is z h') isNo eh
    have hl := Nat.le_of_ble_eq_true hl
    rw [lLen_eq, lLen_eq] at hl
    rw [cat_eq] at ei
    cases rx; cases ry
    obtain ⟨ho, h1, h2⟩ := em.obj _ _ g1
    obtain ⟨hp, h3, h4⟩ := em.obj _ _ g2
    cases h2 with
    | lst r1 =>
      cases h4 with
      | lst r2 =>
        have hl1 := r1.length
        have hl2 := r2.length
        refine .inr (.inr (.inr ⟨_, _, _, _, rfl, rfl, h1, h3, ?_, k.mkL ei em (r1.append r2)⟩))
        refine Nat.le_trans ?_ lim_line
        rw [← hl1, ← hl2]; exact hl
def fI2 (g : Int → Int → Int) (x y : EV) (h : EH) : R := onInt x .no fun i => onInt y .no fun j => frI (g i j) fun k => .ok (.int k) h
def fIB (g : Int → Int → Bool) (x y : EV) (h : EH) : R := onInt x .no fun i => onInt y .no fun j => .ok (.bl (g i j)) h
theorem s_i2 {g : Int → Int → Int} : OpS G (fI2 g) (rI0 fun i j => .int (g i j)) := fun ρ h H x y v w z h' Q em rx ry e k => by
  obtain ⟨i, rfl, eb⟩ := onInt_ok (P := Is z h') isNo e
  obtain ⟨j, rfl, ec⟩ := onInt_ok (P := Is z h') isNo eb
  rw [frI_eq] at ec
  cases ec
  cases rx; cases ry
  exact ⟨i, j, rfl, rfl, k.here em (.int _)⟩
theorem s_ib {g g' : Int → Int → Bool} (hg : ∀ i j, g i j = g' i j) : OpS G (fIB g) (rI0 fun i j => .bl (g' i j)) := fun ρ h H x y v w z h' Q em rx ry e k => by
  obtain ⟨i, rfl, eb⟩ := onInt_ok (P := Is z h') isNo e
  obtain ⟨j, rfl, ec⟩ := onInt_ok (P := Is z h') isNo eb
  cases ec
  cases rx; cases ry
  rw [hg] at k
  exact ⟨i, j, rfl, rfl, k.here em (.bl _)⟩
def fSub := fI2 Int.sub
def fLt := fIB iLt
def fLe := fIB iLe
def fGt := fIB fun i j => iLt j i
def fGe := fIB fun i j => iLe j i
theorem s_sub : OpS G fSub (rI0 fun i j => .int (i - j)) := s_i2
theorem s_lt : OpS G fLt (rI0 fun i j => .bl (decide (i < j))) := s_ib iLt_dec
theorem s_le : OpS G fLe (rI0 fun i j => .bl (decide (i ≤ j))) := s_ib iLe_dec
theorem s_gt : OpS G fGt (rI0 fun i j => .bl (decide (j < i))) := s_ib fun i j => iLt_dec j i
theorem s_ge : OpS G fGe (rI0 fun i j => .bl (decide (j ≤ i))) := s_ib fun i j => iLe_dec j i
/-- * : ints, a list or a tuple some times -/
def rep {α : Type} (xs : List α) (n : Nat) : List α := @Nat.rec (fun _ => List α) [] (fun _ ih => cat xs ih) n
theorem rep_eq {α : Type} (xs : List α) (n : Nat) : rep xs n = (List.replicate n xs).flatten := by
  induction n with
  | zero => rfl
  | succ n ih => show cat xs (rep xs n) = _; rw [cat_eq, ih, List.replicate_succ, List.flatten_cons]
def fMul (x y : EV) (h : EH) : R := onInt y .no fun j => x.cs .no (fun _ => .no)
  (fun i => cnd (iLt (-18446744073709551616) i) (cnd (iLt i 18446744073709551616) (frI (Int.mul i j) fun k => .ok (.int k) h) .no) .no)
  (fun _ => .no)
  (fun a => cnd (iLe 2 j) (cnd (iLe j 1000) (cnd (Nat.ble (lLen a) 1000) (cnd (Nat.ble 1 (lLen a)) (.ok (.tup (rep a j.toNat)) h) .no) .no) .no) .no)
  (fun _ => onLst h x .no fun _ a => cnd (iLe 0 j) (cnd (iLe j 1000) (cnd (Nat.ble (lLen a) 1000) (mkL (rep a j.toNat) h) .no) .no) .no)
  (fun _ => .no)
def rMulA (K : PySem.W.Frag) : R2 := fun x y H Q => rI CMul (fun i j => .int (i * j)) x y H Q ∨ (fun x y H Q => rRep x y H Q ∨ rRepT K x y H Q : R2) x y H Q
theorem o_mul {X : Cx} : OpR X (binaryOp .Mult) (rMulA X.K) := OpR.or op_mul (OpR.or op_rep op_repT)
theorem Reps.flat {ρ : Nat → Addr} {m : Nat} {H : Hp} {xs : List EV} {vs : List V} (r : Reps G ρ m H xs vs) : ∀ n : Nat, Reps G ρ m H (List.replicate n xs).flatten (List.replicate n vs).flatten
  | 0 => .nil
  | n + 1 => by rw [List.replicate_succ, List.replicate_succ, List.flatten_cons, List.flatten_cons]; exact r.append (Reps.flat r n)
theorem s_mul : OpS G fMul (rMulA G.K) := fun ρ h H x y v w z h' Q em rx ry e k => by
  obtain ⟨j, rfl, eb⟩ := onInt_ok (P := Is z h') isNo e
  cases ry
  cases x with
  | non => cases eb
  | bl _ => cases eb
  | str _ => cases eb
  | glo _ => cases eb
  | int i =>
    obtain ⟨c1, ec⟩ := cnd_ok (P := Is z h') isNo eb
    obtain ⟨c2, ed⟩ := cnd_ok (P := Is z h') isNo ec
    rw [frI_eq] at ed
    cases ed
    cases rx
    rw [iLt_dec] at c1 c2
    exact .inl ⟨i, j, rfl, rfl, .inl ⟨by have := of_decide_eq_true c1; omega, by have := of_decide_eq_true c2; omega⟩, k.here em (.int _)⟩
  | tup a =>
    obtain ⟨c1, ee⟩ := cnd_ok (P := Is z h') isNo eb
    obtain ⟨c2, ef⟩ := cnd_ok (P := Is z h') isNo ee
    obtain ⟨c3, eg⟩ := cnd_ok (P := Is z h') isNo ef
    obtain ⟨c4, eh⟩ := cnd_ok (P := Is z h') isNo eg
    cases eh
    rw [iLe_dec] at c1 c2
    have c1 := of_decide_eq_true c1
    have c2 := of_decide_eq_true c2
    have c3 := Nat.le_of_ble_eq_true c3
    have c4 := Nat.le_of_ble_eq_true c4
    rw [lLen_eq] at c3 c4
    rw [rep_eq] at k
    cases rx with
    | tup q1 r1 =>
      have hl := r1.length
      refine .inr (.inr ⟨_, j, _, rfl, rfl, q1, ?_, c1, c2, by omega, k.tup em (r1.flat _)⟩)
      intro z; subst z; rw [List.length_nil] at hl; omega
  | ref n =>
    obtain ⟨i, a, e1, g1, ei⟩ := onLst_ok (x := .ref n) (h := h) (k := fun _ a => cnd (iLe 0 j) (cnd (iLe j 1000) (cnd (Nat.ble (lLen a) 1000) (mkL (rep a j.toNat) h) .no) .no) .no) (P := Is z h') isNo eb
    cases e1
    obtain ⟨c1, ej⟩ := cnd_ok (P := Is z h') isNo ei
    obtain ⟨c2, ek⟩ := cnd_ok (P := Is z h') isNo ej
    obtain ⟨c3, el⟩ := cnd_ok (P := Is z h') isNo ek
    rw [iLe_dec] at c1 c2
    have c1 := of_decide_eq_true c1
    have c2 := of_decide_eq_true c2
    have c3 := Nat.le_of_ble_eq_true c3
    rw [lLen_eq] at c3
    rw [rep_eq] at el
    cases rx
    obtain ⟨ho, h1, h2⟩ := em.obj _ _ g1
    cases h2 with
    | lst r1 =>
      have hl := r1.length
      refine .inr (.inl ⟨_, j, _, rfl, rfl, h1, by omega, by omega, ?_, k.mkL el em (r1.flat _)⟩)
      rw [← hl, sizeLine_eq]
      have : j.toNat ≤ 1000 := by omega
      exact Nat.le_trans (Nat.mul_le_mul c3 this) (by decide)
/-- % and // by a positive number -/
def fMod (x y : EV) (h : EH) : R := onInt x .no fun i => onInt y .no fun j => cnd (iLt 0 j) (frI (Int.emod i j) fun k => .ok (.int k) h) .no
def fFdiv (x y : EV) (h : EH) : R := onInt x .no fun i => onInt y .no fun j => cnd (iLt 0 j) (cnd (iLt j 1073741824) (frI (Int.ediv i j) fun k => .ok (.int k) h) .no) .no
theorem s_mod : OpS G fMod (rI (fun _ j => 0 < j) fun i j => .int (i % j)) := fun ρ h H x y v w z h' Q em rx ry e k => by
  obtain ⟨i, rfl, eb⟩ := onInt_ok (P := Is z h') isNo e
  obtain ⟨j, rfl, ec⟩ := onInt_ok (P := Is z h') isNo eb
  obtain ⟨c1, ed⟩ := cnd_ok (P := Is z h') isNo ec
  rw [frI_eq] at ed
  cases ed
  cases rx; cases ry
  rw [iLt_dec] at c1
  exact ⟨i, j, rfl, rfl, of_decide_eq_true c1, k.here em (.int _)⟩
theorem s_fdiv : OpS G fFdiv (rI CDiv fun i j => .int (i / j)) := fun ρ h H x y v w z h' Q em rx ry e k => by
  obtain ⟨i, rfl, eb⟩ := onInt_ok (P := Is z h') isNo e
  obtain ⟨j, rfl, ec⟩ := onInt_ok (P := Is z h') isNo eb
  obtain ⟨c1, ed⟩ := cnd_ok (P := Is z h') isNo ec
  obtain ⟨c2, ee⟩ := cnd_ok (P := Is z h') isNo ed
  rw [frI_eq] at ee
  cases ee
  cases rx; cases ry
  rw [iLt_dec] at c1 c2
  exact ⟨i, j, rfl, rfl, ⟨of_decide_eq_true c1, of_decide_eq_true c2⟩, k.here em (.int _)⟩
/-- is None, is not None; of truths -/
def isNon (x : EV) : Bool := x.cs true (fun _ => false) (fun _ => false) (fun _ => false) (fun _ => false) (fun _ => false) (fun _ => false)
def fIs (x y : EV) (h : EH) : R := y.cs (.ok (.bl (isNon x)) h) (fun b => onBl x .no fun a => .ok (.bl (bEq a b)) h) (fun _ => .no) (fun _ => .no) (fun _ => .no) (fun _ => .no) (fun _ => .no)
def fIsN (x y : EV) (h : EH) : R := y.cs (.ok (.bl (@Bool.rec (fun _ => Bool) true false (isNon x))) h) (fun b => onBl x .no fun a => .ok (.bl (@Bool.rec (fun _ => Bool) true false (bEq a b))) h) (fun _ => .no) (fun _ => .no) (fun _ => .no) (fun _ => .no) (fun _ => .no)
def rIsA : R2 := fun x y H Q => (y = .non ∧ Q (.bl (decide (x = .non))) H) ∨ rIsB x y H Q
def rIsNA : R2 := fun x y H Q => (y = .non ∧ Q (.bl (!decide (x = .non))) H) ∨ rNotB x y H Q
theorem o_is {X : Cx} : OpR X (compareOp .Is) rIsA := OpR.or op_isN op_isBl
theorem o_isn {X : Cx} : OpR X (compareOp .IsNot) rIsNA := OpR.or op_notN op_notBl
theorem isNon_ok {ρ : Nat → Addr} {m : Nat} {H : Hp} {x : EV} {v : V} (r : Rep G ρ m H x v) : isNon x = decide (v = .non) := by
  cases r <;> (first | rfl | (symm; exact decide_eq_false (fun z => nomatch z)))
theorem bEq_dec (a b : Bool) : bEq a b = decide (a = b) := by cases a <;> cases b <;> rfl
theorem s_is : OpS G fIs rIsA := fun ρ h H x y v w z h' Q em rx ry e k => by
  cases y with
  | non =>
    cases e; cases ry
    rw [isNon_ok rx] at k
    exact .inl ⟨rfl, k.here em (.bl _)⟩
  | bl b =>
    obtain ⟨a, rfl, eb⟩ := onBl_ok (P := Is z h') isNo e
    cases eb; cases rx; cases ry
    rw [bEq_dec] at k
    exact .inr ⟨a, b, rfl, rfl, k.here em (.bl _)⟩
  | _ => cases e
theorem s_isn : OpS G fIsN rIsNA := fun ρ h H x y v w z h' Q em rx ry e k => by
  have nb : ∀ b : Bool, @Bool.rec (fun _ => Bool) true false b = !b := fun b => by cases b <;> rfl
  cases y with
  | non =>
    cases e; cases ry
    rw [nb, isNon_ok rx] at k
    exact .inl ⟨rfl, k.here em (.bl _)⟩
  | bl b =>
    obtain ⟨a, rfl, eb⟩ := onBl_ok (P := Is z h') isNo e
    cases eb; cases rx; cases ry
    rw [nb, bEq_dec] at k
    exact .inr ⟨a, b, rfl, rfl, k.here em (.bl _)⟩
  | _ => cases e
end
end LV
end

/-! ##### _ren.lean -/
set_option Elab.async false
set_option linter.all false
set_option maxRecDepth 100000
set_option maxHeartbeats 4000000
set_option autoImplicit false
noncomputable section
namespace LV
open PySem PySem.Spec PyProof.Rows L2

/-! ## keys of dicts -/
def kEq (a b : EV) : Bool := a.cs false (fun _ => false) (fun i => onInt b false fun j => iEq i j) (fun s => onStr b false fun t => sEq s t) (fun _ => false) (fun _ => false) (fun _ => false)
def isKey (a : EV) : Bool := a.cs false (fun _ => false) (fun _ => true) (fun _ => true) (fun _ => false) (fun _ => false) (fun _ => false)
def dGet (kvs : List (EV × EV)) (x : EV) : Option EV := @List.rec (EV × EV) (fun _ => Option EV) none (fun p _ ih => @Bool.rec (fun _ => Option EV) ih (some p.2) (kEq p.1 x)) kvs
def dHas (kvs : List (EV × EV)) (x : EV) : Bool := @List.rec (EV × EV) (fun _ => Bool) false (fun p _ ih => @Bool.rec (fun _ => Bool) ih true (kEq p.1 x)) kvs
def dRep (kvs : List (EV × EV)) (x v : EV) : List (EV × EV) := @List.rec (EV × EV) (fun _ => List (EV × EV)) [] (fun p _ ih => (@Bool.rec (fun _ => EV × EV) p (p.1, v) (kEq p.1 x)) :: ih) kvs
def dPut (kvs : List (EV × EV)) (x v : EV) : List (EV × EV) := @Bool.rec (fun _ => List (EV × EV)) (cat kvs [(x, v)]) (dRep kvs x v) (dHas kvs x)
theorem isKey_ok {x : EV} (h : isKey x = true) : ∃ k, x = keyE k := by
  cases x with
  | int i => exact ⟨.inl i, rfl⟩
  | str s => exact ⟨.inr s, rfl⟩
  | _ => cases h
theorem kEq_key (k j : Key) : kEq (keyE k) (keyE j) = decide (k = j) := by
  cases k with
  | inl a =>
    cases j with
    | inl b => show iEq a b = _; rw [iEq_dec]; by_cases e : a = b <;> simp [e]
    | inr b => rfl
  | inr a =>
    cases j with
    | inl b => rfl
    | inr b => show sEq a b = _; rw [sEq_dec]; by_cases e : a = b <;> simp [e]
section
variable {G : GA} {ρ : Nat → Addr} {m : Nat} {H : Hp}
theorem KReps.length : ∀ {kvs : List (EV × EV)} {ks : List (Key × V)}, KReps G ρ m H kvs ks → kvs.length = ks.length
  | _, _, .nil => rfl
  | _, _, .cons _ t => congrArg Nat.succ (KReps.length t)
theorem KReps.get : ∀ {kvs : List (EV × EV)} {ks : List (Key × V)}, KReps G ρ m H kvs ks → ∀ k, (dGet kvs (keyE k) = none ∧ valV ks k = none) ∨ ∃ x v, dGet kvs (keyE k) = some x ∧ valV ks k = some v ∧ Rep G ρ m H x v
  | _, _, .nil, _ => .inl ⟨rfl, rfl⟩
  | _, _, .cons (k := j) (x := x) (v := v) (kvs := kvs) (ks := ks) r t, k => by
    have e : dGet ((keyE j, x) :: kvs) (keyE k) = @Bool.rec (fun _ => Option EV) (dGet kvs (keyE k)) (some x) (kEq (keyE j) (keyE k)) := rfl
    rw [e, kEq_key]
    by_cases c : j = k
    · right
      refine ⟨x, v, ?_, valV_pos c, r⟩
      rw [decide_eq_true c]
    · rw [decide_eq_false c, valV_neg c]
      exact KReps.get t k
theorem KReps.has {kvs : List (EV × EV)} {ks : List (Key × V)} (r : KReps G ρ m H kvs ks) (k : Key) : dHas kvs (keyE k) = (ks.any fun kv => decide (kv.1 = k)) := by
  induction r with
  | nil => rfl
  | @cons j x v kvs ks r t ih =>
    have e : dHas ((keyE j, x) :: kvs) (keyE k) = @Bool.rec (fun _ => Bool) (dHas kvs (keyE k)) true (kEq (keyE j) (keyE k)) := rfl
    rw [e, kEq_key, ih, List.any_cons]
    cases decide (j = k) <;> rfl
theorem KReps.repl {kvs : List (EV × EV)} {ks : List (Key × V)} (r : KReps G ρ m H kvs ks) (k : Key) {x : EV} {v : V} (rv : Rep G ρ m H x v) : KReps G ρ m H (dRep kvs (keyE k) x) (ks.map fun kv => if kv.1 = k then (kv.1, v) else kv) := by
  induction r with
  | nil => exact .nil
  | @cons j y u kvs ks r t ih =>
    have e : dRep ((keyE j, y) :: kvs) (keyE k) x = (@Bool.rec (fun _ => EV × EV) (keyE j, y) (keyE j, x) (kEq (keyE j) (keyE k))) :: dRep kvs (keyE k) x := rfl
    rw [e, kEq_key, List.map_cons]
    by_cases c : j = k
    · rw [decide_eq_true c, if_pos c]; exact .cons rv ih
    · rw [decide_eq_false c, if_neg c]; exact .cons r ih
theorem KReps.snoc {kvs : List (EV × EV)} {ks : List (Key × V)} (r : KReps G ρ m H kvs ks) (k : Key) {x : EV} {v : V} (rv : Rep G ρ m H x v) : KReps G ρ m H (kvs ++ [(keyE k, x)]) (ks ++ [(k, v)]) := by
  induction r with
  | nil => exact .cons rv .nil
  | cons r t ih => exact .cons r ih
theorem KReps.put {kvs : List (EV × EV)} {ks : List (Key × V)} (r : KReps G ρ m H kvs ks) (k : Key) {x : EV} {v : V} (rv : Rep G ρ m H x v) : KReps G ρ m H (dPut kvs (keyE k) x) (putK ks k v) := by
  unfold dPut putK
  rw [r.has k]
  cases c : (ks.any fun kv => decide (kv.1 = k)) with
  | true => rw [if_pos rfl]; exact r.repl k rv
  | false => rw [if_neg Bool.false_ne_true, cat_eq]; exact r.snoc k rv
theorem Rep.key {k : Key} {v : V} (r : Rep G ρ m H (keyE k) v) : v = kV k := keyE_rep r
theorem Rep.keyI (k : Key) : Rep G ρ m H (keyE k) (kV k) := by cases k <;> constructor
end

/-! ## in -/
def flE (x : EV) : Bool := x.cs true (fun _ => true) (fun _ => true) (fun _ => true) (fun _ => false) (fun _ => false) (fun _ => false)
def eqF (x y : EV) : Bool := veq 1 EH.nil x y
def memF (x : EV) (ys : List EV) : Bool := @List.rec EV (fun _ => Bool) false (fun y _ ih => @Bool.rec (fun _ => Bool) ih true (eqF y x)) ys
def memC (c : Nat) (l : List Nat) : Bool := @List.rec Nat (fun _ => Bool) false (fun y _ ih => @Bool.rec (fun _ => Bool) ih true (Nat.beq c y)) l
theorem memC_ok (c : Nat) (l : List Nat) : memC c l = decide (c ∈ l) := by
  induction l with
  | nil => rfl
  | cons y l ih =>
    show @Bool.rec (fun _ => Bool) (memC c l) true (Nat.beq c y) = _
    rw [ih]
    cases e : Nat.beq c y with
    | true => symm; exact decide_eq_true (by rw [Nat.eq_of_beq_eq_true e]; exact List.mem_cons_self)
    | false =>
      have := beq_ne e
      show decide (c ∈ l) = _
      congr 1
      simp [this]
/-- x in y, and (neg) x not in y -/
def memD (h : EH) (x : EV) (ys : List EV) : Bool := @List.rec EV (fun _ => Bool) false (fun y _ ih => @Bool.rec (fun _ => Bool) ih true (veq DEP h y x)) ys
def inE (x y : EV) (h : EH) (k : Bool → R) : R := y.cs .no (fun _ => .no) (fun _ => .no)
  (fun t => onStr x .no fun s => @List.rec Nat (fun _ => R) .no (fun c r _ => @List.rec Nat (fun _ => R) (k (memC c t.cps.toList)) (fun _ _ _ => .no) r) s.cps.toList)
  (fun ys => cnd (flE x) (cnd (allB flE ys) (k (memF x ys)) .no) .no)
  (fun n => onOpt (h.get n) .no fun o => o.cs
    (fun ys => cnd (dOk DEP h x) (cnd (allB (dOk DEP h) ys) (k (memD h x ys)) .no) .no)
    (fun kvs => cnd (isKey x) (k (dHas kvs x)) .no) (fun _ _ => .no))
  (fun _ => .no)
def fIn (x y : EV) (h : EH) : R := inE x y h fun b => .ok (.bl b) h
def fNotIn (x y : EV) (h : EH) : R := inE x y h fun b => .ok (.bl (@Bool.rec (fun _ => Bool) true false b)) h
/-- the reading of both -/
def rInA (K : PySem.W.Frag) (neg : Bool) : R2 := fun x y H Q =>
  (∃ (c : Nat) (z : Str), x = .str ⟨#[c]⟩ ∧ y = .str z ∧ Q (.bl (if neg then !decide (c ∈ z.cps.toList) else decide (c ∈ z.cps.toList))) H) ∨
  rIn K neg x y H Q ∨ (∃ d ds, Dp K H x d ∧ Dp K H y (.list ds) ∧ SeqAt.shaped d = true ∧ SeqAt.shaped (.list ds) = true ∧ Q (.bl (if neg then !ds.any fun z => PyData.eqv z d else ds.any fun z => PyData.eqv z d)) H) ∨
  ∃ a o, y = .ref a ∧ DGet H a x o ∧ Q (.bl (if neg then !o.isSome else o.isSome)) H
theorem o_in {X : Cx} (hu : X.A.units + 65 < cLine) : OpR X (compareOp .In) (rInA X.K false) := by
  refine OpR.or op_in_sign (OpR.or op_in_seq (OpR.or (op_inD hu) ?_))
  rintro pins s σ H x y v u Q I rx ry ⟨a, o, rfl, g, q⟩
  cases ry
  exact d_in (by omega) I g rx fun s' I' => ⟨.bl o.isSome, H, I', rfl, q⟩
theorem o_notin {X : Cx} (hu : X.A.units + 65 < cLine) : OpR X (compareOp .NotIn) (rInA X.K true) := by
  refine OpR.or op_notIn_sign (OpR.or op_notIn_seq (OpR.or (op_notInD hu) ?_))
  rintro pins s σ H x y v u Q I rx ry ⟨a, o, rfl, g, q⟩
  cases ry
  exact d_notIn (by omega) I g rx fun s' I' => ⟨.bl (!o.isSome), H, I', rfl, q⟩
section
variable {G : GA} {ρ : Nat → Addr} {h : EH} {H : Hp}
theorem flE_ok {m : Nat} {x : EV} {v : V} (f : flE x = true) (r : Rep G ρ m H x v) : flatV v = true := by
  cases r <;> first | rfl | cases f
theorem flE_all {m : Nat} {xs : List EV} {vs : List V} (f : allB flE xs = true) (r : Reps G ρ m H xs vs) : vs.all flatV = true := by
  induction xs generalizing vs with
  | nil => cases r; rfl
  | cons x xs ih =>
    cases r with
    | cons a t =>
      rw [allB_eq, List.all_cons, Bool.and_eq_true] at f
      rw [List.all_cons, flE_ok f.1 a, ih (by rw [allB_eq]; exact f.2) t]; rfl
theorem eqF_ok {m : Nat} {x y : EV} {v w : V} (fx : flE x = true) (fy : flE y = true) (rx : Rep G ρ m H x v) (ry : Rep G ρ m H y w) : eqF x y = eqV v w := by
  cases rx <;> (try cases fx) <;> cases ry <;> (try cases fy) <;> first
    | rfl
    | (show bEq _ _ = _; rw [bEq_eq]; rfl)
    | (show iEq (b2n _) _ = _; rw [b2n_eq, iEq_beq]; rfl)
    | (show iEq _ (b2n _) = _; rw [b2n_eq, iEq_beq]; rfl)
    | (show iEq _ _ = _; rw [iEq_beq]; rfl)
    | (show sEq _ _ = _; rw [sEq_beq]; rfl)
theorem memF_ok {m : Nat} {x : EV} {v : V} {ys : List EV} {ws : List V} (fx : flE x = true) (fy : allB flE ys = true) (rx : Rep G ρ m H x v) (ry : Reps G ρ m H ys ws) : memF x ys = inV v ws := by
  induction ys generalizing ws with
  | nil => cases ry; rfl
  | cons y ys ih =>
    cases ry with
    | cons a t =>
      rw [allB_eq, List.all_cons, Bool.and_eq_true] at fy
      show @Bool.rec (fun _ => Bool) (memF x ys) true (eqF y x) = _
      rw [eqF_ok fy.1 fx a rx, ih (by rw [allB_eq]; exact fy.2) t]
      unfold inV
      rw [List.any_cons]
      cases eqV _ v <;> rfl
theorem memD_ok {x : EV} {ys : List EV} (fx : dOk DEP h x = true) (fy : allB (dOk DEP h) ys = true) : memD h x ys = (ys.map (toD DEP h)).any fun z => PyData.eqv z (toD DEP h x) := by
  induction ys with
  | nil => rfl
  | cons y ys ih =>
    rw [allB_eq, List.all_cons, Bool.and_eq_true] at fy
    show @Bool.rec (fun _ => Bool) (memD h x ys) true (veq DEP h y x) = _
    rw [veq_ok DEP y x fy.1 fx, ih (by rw [allB_eq]; exact fy.2), List.map_cons, List.any_cons]
    cases PyData.eqv _ _ <;> rfl
theorem lst_data {n : Nat} {ys : List EV} (em : Emb G ρ h H) (g : h.get n = some (.lst ys)) (f : allB (dOk DEP h) ys = true) : Dp G.K H (.ref (ρ n)) (.list (ys.map (toD DEP h))) ∧ SeqAt.shaped (.list (ys.map (toD DEP h))) = true := by
  have e : dOk (DEP + 1) h (.ref n) = true := by
    show onOpt (h.get n) false _ = true
    rw [g]; exact f
  obtain ⟨a, b⟩ := shaped_ok (by decide) e em (.ref (em.lt _ _ g))
  have t : toD (DEP + 1) h (.ref n) = .list (ys.map (toD DEP h)) := by simp only [toD, g]
  rw [t] at a b
  exact ⟨a, b⟩
theorem in_ok {neg : Bool} {x y : EV} {v w : V} {z : EV} {h' : EH} {Q : VK} (em : Emb G ρ h H) (rx : Rep G ρ h.n H x v) (ry : Rep G ρ h.n H y w)
    (e : inE x y h (fun b => .ok (.bl (if neg then !b else b)) h) = .ok z h') (k : KE G ρ h H z h' Q) : rInA G.K neg v w H Q := by
  cases y with
  | non => cases e
  | bl _ => cases e
  | int _ => cases e
  | glo _ => cases e
  | str t =>
    obtain ⟨s, rfl, eb⟩ := onStr_ok (P := Is z h') isNo e
    obtain ⟨⟨s⟩⟩ := s
    cases s with
    | nil => cases eb
    | cons c r =>
      cases r with
      | cons _ _ => cases eb
      | nil =>
        have e2 : R.ok (.bl (if neg then !memC c t.cps.toList else memC c t.cps.toList)) h = .ok z h' := eb
        cases e2
        cases rx; cases ry
        rw [memC_ok] at k
        exact .inl ⟨c, t, rfl, rfl, k.here em (.bl _)⟩
  | tup ys =>
    obtain ⟨f1, ec⟩ := cnd_ok (P := Is z h') isNo e
    obtain ⟨f2, ed⟩ := cnd_ok (P := Is z h') isNo ec
    cases ed
    cases ry with
    | tup q r =>
      rw [memF_ok f1 f2 rx r] at k
      exact .inr (.inl ⟨_, _, rfl, .inr q, flE_ok f1 rx, flE_all f2 r, k.here em (.bl _)⟩)
  | ref n =>
    obtain ⟨o, g, ee⟩ := onOpt_ok (P := Is z h') isNo e
    cases ry
    cases o with
    | lst ys =>
      obtain ⟨f1, ef⟩ := cnd_ok (P := Is z h') isNo ee
      obtain ⟨f2, eg⟩ := cnd_ok (P := Is z h') isNo ef
      cases eg
      obtain ⟨a1, a2⟩ := shaped_ok (by decide) f1 em rx
      obtain ⟨b1, b2⟩ := lst_data em g f2
      rw [memD_ok f1 f2] at k
      exact .inr (.inr (.inl ⟨_, _, a1, b1, a2, b2, k.here em (.bl _)⟩))
    | dic kvs =>
      obtain ⟨f1, eh⟩ := cnd_ok (P := Is z h') isNo ee
      cases eh
      obtain ⟨j, rfl⟩ := isKey_ok f1
      obtain ⟨ho, h1, h2⟩ := em.obj _ _ g
      cases h2 with
      | dic r =>
        rw [r.has j] at k
        rename_i ks
        refine .inr (.inr (.inr ⟨_, valV ks j, rfl, ?_, ?_⟩))
        · rw [rx.key]; exact DGet.k h1
        · rw [← valV_any]; exact k.here em (.bl _)
    | ins _ _ => cases ee
theorem s_in : OpS G fIn (rInA G.K false) := fun ρ h H x y v w z h' Q em rx ry e k => in_ok (neg := false) em rx ry e k
theorem nb (b : Bool) : @Bool.rec (fun _ => Bool) true false b = !b := by cases b <;> rfl
theorem s_notin : OpS G fNotIn (rInA G.K true) := fun ρ h H x y v w z h' Q em rx ry e k => by
  refine in_ok (neg := true) em rx ry ?_ k
  have q : (fun b => R.ok (.bl (@Bool.rec (fun _ => Bool) true false b)) h) = fun b => R.ok (.bl (if true then !b else b)) h := funext fun b => by rw [nb]; rfl
  unfold fNotIn at e
  rw [q] at e
  exact e
end

/-! ## subscripts -/
def ixE {α : Type} (xs : List α) (i : Int) : Option α := @Int.rec (fun _ => Option α) (fun n => nth xs n) (fun m => @Bool.rec (fun _ => Option α) none (nth xs (Nat.sub (lLen xs) (Nat.succ m))) (Nat.ble (Nat.succ m) (lLen xs))) i
theorem ixE_eq {α : Type} (xs : List α) (i : Int) : ixE xs i = atI xs i := by
  unfold atI ixN
  cases i with
  | ofNat n =>
    show nth xs n = _
    rw [nth_eq, if_pos (by exact Int.natCast_nonneg n)]
    by_cases c : (Int.ofNat n) < (xs.length : Int)
    · rw [if_pos c]; rfl
    · rw [if_neg c]
      have : xs.length ≤ n := by
        have : ¬ (n : Int) < (xs.length : Int) := c
        omega
      exact List.getElem?_eq_none this
  | negSucc m =>
    have hneg : ¬ (0 : Int) ≤ Int.negSucc m := by have := Int.negSucc_lt_zero m; omega
    have eq1 : Int.negSucc m = -((m : Int) + 1) := rfl
    show @Bool.rec (fun _ => Option α) none (nth xs (Nat.sub (lLen xs) (Nat.succ m))) (Nat.ble (Nat.succ m) (lLen xs)) = _
    rw [lLen_eq, nth_eq, if_neg hneg]
    by_cases c : m + 1 ≤ xs.length
    · rw [show Nat.ble (Nat.succ m) xs.length = true from Nat.ble_eq_true_of_le c, if_pos (by omega)]
      show xs[xs.length - (m + 1)]? = xs[(Int.negSucc m + (xs.length : Int)).toNat]?
      congr 1
      omega
    · have : Nat.ble (Nat.succ m) xs.length = false := by
        cases q : Nat.ble (Nat.succ m) xs.length with
        | false => rfl
        | true => exact absurd (Nat.le_of_ble_eq_true q) c
      rw [this, if_neg (by omega)]; rfl
def fIx (x y : EV) (h : EH) : R := x.cs .no (fun _ => .no) (fun _ => .no)
  (fun s => onInt y .no fun i => cnd (Nat.ble (lLen s.cps.toList) LIM) (onOpt (ixE s.cps.toList i) .no fun c => .ok (.str (sMk [c])) h) .no)
  (fun xs => onInt y .no fun i => onOpt (ixE xs i) .no fun v => .ok v h)
  (fun n => onOpt (h.get n) .no fun o => o.cs (fun xs => onInt y .no fun i => onOpt (ixE xs i) .no fun v => .ok v h) (fun kvs => cnd (isKey y) (onOpt (dGet kvs y) .no fun v => .ok v h) .no) (fun _ _ => .no))
  (fun _ => .no)
def rIxA (K : PySem.W.Frag) : R2 := fun x y H Q => rIx K x y H Q ∨ (fun x y H Q => ∃ a v, x = .ref a ∧ DGet H a y (some v) ∧ Q v H : R2) x y H Q
theorem x_ix {X : Cx} (hu : X.A.units + 1 < cLine) : IxR X (rIxA X.K) := by
  refine IxR.or ix_seq ?_
  rintro value slice pins s σ H x y v u Q I rx ry ⟨a, w, rfl, g, q⟩ hs
  cases rx
  exact tail_any (dict_typeIs I g) slot_dict_getitem.lookup (d_getItem hu I g ry fun w' s' I' rw' => ⟨w, H, I', rw', q⟩) hs
section
variable {G : GA}
theorem ixE_reps {ρ : Nat → Addr} {m : Nat} {H : Hp} {xs : List EV} {vs : List V} {i : Int} {x : EV} (r : Reps G ρ m H xs vs) (e : ixE xs i = some x) : ∃ v, atI vs i = some v ∧ Rep G ρ m H x v := by
  rw [ixE_eq] at e
  unfold atI at e ⊢
  rw [← r.length]
  cases q : ixN xs.length i with
  | none => rw [q] at e; cases e
  | some j => rw [q] at e; exact r.get e
theorem s_ix : OpS G fIx (rIxA G.K) := fun ρ h H x y v w z h' Q em rx ry e k => by
  cases x with
  | non => cases e
  | bl _ => cases e
  | int _ => cases e
  | glo _ => cases e
  | str s =>
    obtain ⟨i, rfl, eb⟩ := onInt_ok (P := Is z h') isNo e
    obtain ⟨hl, ec⟩ := cnd_ok (P := Is z h') isNo eb
    obtain ⟨c, g, ed⟩ := onOpt_ok (P := Is z h') isNo ec
    cases ed
    cases rx; cases ry
    have hl := Nat.le_of_ble_eq_true hl
    rw [sLen] at hl
    rw [ixE_eq] at g
    exact .inl (.inr (.inr ⟨s, i, c, rfl, rfl, Nat.le_trans hl lim_line, g, k.here em (.str _)⟩))
  | tup xs =>
    obtain ⟨i, rfl, ee⟩ := onInt_ok (P := Is z h') isNo e
    obtain ⟨c, g, ef⟩ := onOpt_ok (P := Is z h') isNo ee
    cases ef
    cases ry
    cases rx with
    | tup q r =>
      obtain ⟨u, g1, r1⟩ := ixE_reps r g
      exact .inl (.inr (.inl ⟨_, _, i, u, rfl, rfl, q, g1, k.here em r1⟩))
  | ref n =>
    obtain ⟨o, g, eg⟩ := onOpt_ok (P := Is z h') isNo e
    cases rx
    obtain ⟨ho, h1, h2⟩ := em.obj _ _ g
    cases o with
    | lst xs =>
      obtain ⟨i, rfl, eh⟩ := onInt_ok (P := Is z h') isNo eg
      obtain ⟨c, g3, ei⟩ := onOpt_ok (P := Is z h') isNo eh
      cases ei
      cases ry
      cases h2 with
      | lst r =>
        obtain ⟨u, g1, r1⟩ := ixE_reps r g3
        exact .inl (.inl ⟨_, _, i, u, rfl, rfl, .of h1, g1, k.here em r1⟩)
    | dic kvs =>
      obtain ⟨f1, ej⟩ := cnd_ok (P := Is z h') isNo eg
      obtain ⟨c, g3, ek⟩ := onOpt_ok (P := Is z h') isNo ej
      cases ek
      obtain ⟨j, rfl⟩ := isKey_ok f1
      cases h2 with
      | dic r =>
        rcases r.get j with ⟨e1, _⟩ | ⟨x', v', e1, e2, r1⟩
        · rw [e1] at g3; cases g3
        · rw [e1] at g3; cases g3
          refine .inr ⟨_, v', rfl, ?_, k.here em r1⟩
          rw [ry.key, ← e2]; exact DGet.k h1
    | ins _ _ => cases eg
theorem q_ix {X : Cx} {a b : Expr} {pos : Pos} {da db : DE} (hu : X.A.units + 1 < cLine) (ha : PE X a (rdE ⟨X.K, G.gl, G.ca⟩ da)) (hb : PE X b (rdE ⟨X.K, G.gl, G.ca⟩ db)) (hs : PlainIx b) : PE X (.Subscript a b pos) (rdE ⟨X.K, G.gl, G.ca⟩ (eOp fIx da db)) :=
  PE.weak (pe_ix (x_ix hu) ha hb hs) fun σ H Q q => rd_op s_ix σ H Q q
end
end LV
end

/-! ##### _ren.lean -/
set_option Elab.async false
set_option linter.all false
set_option maxRecDepth 100000
set_option maxHeartbeats 4000000
set_option autoImplicit false
noncomputable section
namespace LV
open PySem PySem.Spec PyProof.Rows L2

/-! ## slices -/
def takeN {α : Type} (n : Nat) (xs : List α) : List α := @List.rec α (fun _ => Nat → List α) (fun _ => []) (fun x _ ih n => @Nat.rec (fun _ => List α) [] (fun n _ => x :: ih n) n) xs n
def dropN {α : Type} (n : Nat) (xs : List α) : List α := @List.rec α (fun _ => Nat → List α) (fun _ => []) (fun x xs ih n => @Nat.rec (fun _ => List α) (x :: xs) (fun n _ => ih n) n) xs n
theorem takeN_eq {α : Type} (n : Nat) (xs : List α) : takeN n xs = xs.take n := by
  induction xs generalizing n with
  | nil => cases n <;> rfl
  | cons x xs ih => cases n with
    | zero => rfl
    | succ n => show x :: takeN n xs = _; rw [ih]; rfl
theorem dropN_eq {α : Type} (n : Nat) (xs : List α) : dropN n xs = xs.drop n := by
  induction xs generalizing n with
  | nil => cases n <;> rfl
  | cons x xs ih => cases n with
    | zero => rfl
    | succ n => exact ih n
/-- a part of a slice: left out, or an int -/
inductive RO where
  | no | ok (i : Option Int) (h : EH)
abbrev DO := ES → EH → RO
def oNo : DO := fun _ h => .ok none h
def oSome (d : DE) : DO := fun s h => (d s h).bd .no fun x h => onInt x .no fun i => .ok (some i) h
def oNever : DO := fun _ _ => .no
def RO.bd {α : Type} (r : RO) (no : α) (k : Option Int → EH → α) : α := @RO.rec (fun _ => α) no k r
theorem RO.bd_ok {α : Type} {r : RO} {no : α} {k : Option Int → EH → α} {P : α → Prop} (hn : ¬ P no) (e : P (r.bd no k)) : ∃ x h, r = .ok x h ∧ P (k x h) := by
  cases r with
  | no => exact absurd e hn
  | ok x h => exact ⟨x, h, rfl, e⟩
def sx (n d : Nat) (o : Option Int) : Nat := @Option.rec Int (fun _ => Nat) d (fun i => @Int.rec (fun _ => Nat) (fun v => @Bool.rec (fun _ => Nat) n v (Nat.ble v n)) (fun m => Nat.sub n (Nat.succ m)) i) o
theorem sx_eq (n d : Nat) (o : Option Int) : sx n d o = HT.sIx n d o := by
  cases o with
  | none => rfl
  | some i =>
    unfold HT.sIx
    cases i with
    | ofNat v =>
      have h0 : ¬ (Int.ofNat v) < 0 := by have : (0 : Int) ≤ Int.ofNat v := Int.natCast_nonneg v; omega
      show @Bool.rec (fun _ => Nat) n v (Nat.ble v n) = if (Int.ofNat v) < 0 then _ else min (Int.ofNat v).toNat n
      rw [if_neg h0]
      show _ = min v n
      cases e : Nat.ble v n with
      | true => have := Nat.le_of_ble_eq_true e; show v = _; omega
      | false =>
        have : ¬ v ≤ n := fun q => by rw [Nat.ble_eq_true_of_le q] at e; cases e
        show n = _; omega
    | negSucc m =>
      have h0 : (Int.negSucc m) < 0 := Int.negSucc_lt_zero m
      have e1 : Int.negSucc m = -((m : Int) + 1) := rfl
      show n - (m + 1) = if (Int.negSucc m) < 0 then _ else _
      rw [if_pos h0]; omega
def cutE {α : Type} (xs : List α) (lo hi : Option Int) : List α := takeN (Nat.sub (sx (lLen xs) (lLen xs) hi) (sx (lLen xs) 0 lo)) (dropN (sx (lLen xs) 0 lo) xs)
theorem cutE_eq {α : Type} (xs : List α) (lo hi : Option Int) : cutE xs lo hi = (xs.drop (HT.sIx xs.length 0 lo)).take (HT.sIx xs.length xs.length hi - HT.sIx xs.length 0 lo) := by
  unfold cutE
  rw [takeN_eq, dropN_eq, lLen_eq, sx_eq, sx_eq]; rfl
def fSl (x : EV) (lo hi : Option Int) (h : EH) : R := x.cs .no (fun _ => .no) (fun _ => .no)
  (fun s => cnd (Nat.ble (lLen s.cps.toList) LIM) (.ok (.str (sMk (cutE s.cps.toList lo hi))) h) .no)
  (fun xs => .ok (.tup (cutE xs lo hi)) h)
  (fun n => onOpt (h.get n) .no fun o => o.cs (fun xs => mkL (cutE xs lo hi) h) (fun _ => .no) (fun _ _ => .no))
  (fun _ => .no)
def eSl (d : DE) (lo hi : DO) : DE := fun s h => (d s h).bd .no fun x h => (lo s h).bd .no fun l h => (hi s h).bd .no fun u h => fSl x l u h
def rdO (G : GA) (d : DO) : TO := fun σ H Q => ∃ ρ es h x h', Emb G ρ h H ∧ Slots G ρ h.n H es σ ∧ d es h = .ok x h' ∧ ∀ ρ' H', Lat G ρ h H ρ' h' H' → Emb G ρ' h' H' → Q x H'
abbrev IsO (z : Option Int) (h' : EH) : RO → Prop := fun r => r = .ok z h'
theorem isNoO {z : Option Int} {h' : EH} : ¬ IsO z h' .no := fun e => nomatch e
def rSlAll (K : PySem.W.Frag) : V → Option Int → Option Int → Hp → VK → Prop := fun x lo hi H Q => rSlA K x lo hi H Q ∨ (fun x lo hi H Q => rSlL K x lo hi H Q ∨ rSlS x lo hi H Q : V → Option Int → Option Int → Hp → VK → Prop) x lo hi H Q
theorem x_sl {X : Cx} : SlR X (rSlAll X.K) := SlR.or sl_tupA (SlR.or sl_list sl_str)
section
variable {G : GA} {X : Cx}
theorem PO.weak {e : Option Expr} {t t' : TO} (h : PO X e t) (w : ∀ σ H Q, t' σ H Q → t σ H Q) : PO X e t' := ⟨fun pins s σ H Q I q => h.run pins s σ H Q I (w σ H Q q)⟩
theorem o_no : PO X none (rdO G oNo) := by
  refine PO.weak po_none ?_
  rintro σ H Q ⟨ρ, es, h, z, h', em, sl, e, k⟩
  cases e
  exact k ρ H Lat.refl em
theorem o_never {e : Option Expr} : PO X e (rdO G oNever) := ⟨fun _ _ _ _ _ _ ⟨_, _, _, _, _, _, _, e, _⟩ => nomatch e⟩
theorem o_some {e : Expr} {d : DE} (he : PE X e (rdE G d)) : PO X (some e) (rdO G (oSome d)) := by
  refine PO.weak (po_some he) ?_
  rintro σ H Q ⟨ρ, es, h, z, h', em, sl, e, k⟩
  obtain ⟨x, h1, e1, eb⟩ := R.bd_ok (P := IsO z h') isNoO e
  obtain ⟨i, e2, ec⟩ := onInt_ok (P := IsO z h') isNoO eb
  cases ec
  subst e2
  refine ⟨ρ, es, h, _, _, em, sl, e1, fun ρ1 v H1 l1 em1 rx => ?_⟩
  cases rx
  exact ⟨i, rfl, k ρ1 H1 l1 em1⟩
theorem Reps.cut {ρ : Nat → Addr} {m : Nat} {H : Hp} {xs : List EV} {vs : List V} (r : Reps G ρ m H xs vs) (lo hi : Option Int) : Reps G ρ m H (cutE xs lo hi) (cutV vs lo hi) := by
  rw [cutE_eq]
  unfold cutV
  rw [r.length]
  exact (r.drop _).take _
theorem q_sl {e : Expr} {lo hi : Option Expr} {p2 pos : Pos} {d : DE} {dl du : DO} (he : PE X e (rdE ⟨X.K, G.gl, G.ca⟩ d)) (hl : PO X lo (rdO ⟨X.K, G.gl, G.ca⟩ dl)) (hu : PO X hi (rdO ⟨X.K, G.gl, G.ca⟩ du)) :
    PE X (.Subscript e (.Slice lo hi none p2) pos) (rdE ⟨X.K, G.gl, G.ca⟩ (eSl d dl du)) := by
  refine PE.weak (pe_slice x_sl he hl hu) ?_
  rintro σ H Q ⟨ρ, es, h, z, h', em, sl, e, k⟩
  obtain ⟨x, h1, e1, eb⟩ := R.bd_ok (P := Is z h') isNo e
  obtain ⟨l, h2, e2, ec⟩ := RO.bd_ok (P := Is z h') isNo eb
  obtain ⟨u, h3, e3, ed⟩ := RO.bd_ok (P := Is z h') isNo ec
  refine ⟨ρ, es, h, x, h1, em, sl, e1, fun ρ1 v H1 l1 em1 rx => ⟨ρ1, es, h1, l, h2, em1, sl.lat l1, e2, fun ρ2 H2 l2 em2 => ⟨ρ2, es, h2, u, h3, em2, (sl.lat l1).lat l2, e3, fun ρ3 H3 l3 em3 => ?_⟩⟩⟩
  have rx := (rx.lat l2).lat l3
  have k := k.after ((l1.trans l2).trans l3)
  cases x with
  | non => cases ed
  | bl _ => cases ed
  | int _ => cases ed
  | glo _ => cases ed
  | str s =>
    obtain ⟨hl, ee⟩ := cnd_ok (P := Is z h') isNo ed
    cases ee
    have hl := Nat.le_of_ble_eq_true hl
    rw [sLen] at hl
    cases rx
    refine .inr (.inr ⟨s, rfl, Nat.le_trans hl lim_line, ?_⟩)
    have := k.here em3 (.str _)
    unfold sMk at this
    rw [cutE_eq] at this
    have e3 : s.cps.toList.length = s.length := by simp [Str.length]
    rw [e3] at this
    exact this
  | tup xs =>
    cases ed
    cases rx with
    | tup q r =>
      refine .inl ⟨_, _, rfl, q, fun hw => ?_, fun _ => k.tup em3 (r.cut l u)⟩
      have hx : cutE xs l u = xs := by
        rw [cutE_eq, r.length, hw.1, hw.2]
        rw [List.drop_zero, Nat.sub_zero, ← r.length, List.take_length]
      rw [hx] at k
      exact k.here em3 (.tup q r)
  | ref n =>
    obtain ⟨o, g, ef⟩ := onOpt_ok (P := Is z h') isNo ed
    cases rx
    obtain ⟨ho, g1, g2⟩ := em3.obj _ _ g
    cases o with
    | lst xs =>
      cases g2 with
      | lst r => exact .inr (.inl ⟨_, _, rfl, .of g1, k.mkL ef em3 (r.cut l u)⟩)
    | dic _ => cases ef
    | ins _ _ => cases ef

/-! ## calls of built-ins -/
def eCB (f : List EV → EH → R) (d : DA) : DE := fun s h => (d s h).bd .no fun xs h => f xs h
def CallS (G : GA) (f : List EV → EH → R) (r : List V → Hp → VK → Prop) : Prop := ∀ (ρ : Nat → Addr) (h : EH) (H : Hp) (xs : List EV) (vs : List V) (z : EV) (h' : EH) (Q : VK),
  Emb G ρ h H → Reps G ρ h.n H xs vs → f xs h = .ok z h' → KE G ρ h H z h' Q → r vs H Q
theorem rd_cb {f : List EV → EH → R} {r : List V → Hp → VK → Prop} (hf : CallS G f r) {d : DA} (σ : L2.St) (H : Hp) (Q : VK) (q : rdE G (eCB f d) σ H Q) : tCB r (rdA G d) σ H Q := by
  obtain ⟨ρ, es, h, z, h', em, sl, e, k⟩ := q
  obtain ⟨xs, h1, e1, eb⟩ := RA.bd_ok (P := Is z h') isNo e
  exact ⟨ρ, es, h, xs, h1, em, sl, e1, fun ρ1 vs H1 l1 em1 rs => hf ρ1 h1 H1 xs vs z h' Q em1 rs eb (k.after l1)⟩
def on1 {α : Type} (xs : List EV) (no : α) (k : EV → α) : α := @List.rec EV (fun _ => α) no (fun x r _ => @List.rec EV (fun _ => α) (k x) (fun _ _ _ => no) r) xs
def on2 {α : Type} (xs : List EV) (no : α) (k : EV → EV → α) : α := @List.rec EV (fun _ => α) no (fun x r _ => @List.rec EV (fun _ => α) no (fun y r _ => @List.rec EV (fun _ => α) (k x y) (fun _ _ _ => no) r) r) xs
theorem on1_ok {α : Type} {xs : List EV} {no : α} {k : EV → α} {P : α → Prop} (hn : ¬ P no) (e : P (on1 xs no k)) : ∃ x, xs = [x] ∧ P (k x) := by
  cases xs with
  | nil => exact absurd e hn
  | cons x r => cases r with
    | nil => exact ⟨x, rfl, e⟩
    | cons _ _ => exact absurd e hn
theorem on2_ok {α : Type} {xs : List EV} {no : α} {k : EV → EV → α} {P : α → Prop} (hn : ¬ P no) (e : P (on2 xs no k)) : ∃ x y, xs = [x, y] ∧ P (k x y) := by
  cases xs with
  | nil => exact absurd e hn
  | cons x r => cases r with
    | nil => exact absurd e hn
    | cons y r => cases r with
      | nil => exact ⟨x, y, rfl, e⟩
      | cons _ _ => exact absurd e hn
theorem Reps.one {ρ : Nat → Addr} {m : Nat} {H : Hp} {x : EV} {vs : List V} (r : Reps G ρ m H [x] vs) : ∃ v, vs = [v] ∧ Rep G ρ m H x v := by
  cases r with
  | cons a t => cases t; exact ⟨_, rfl, a⟩
theorem Reps.two {ρ : Nat → Addr} {m : Nat} {H : Hp} {x y : EV} {vs : List V} (r : Reps G ρ m H [x, y] vs) : ∃ v w, vs = [v, w] ∧ Rep G ρ m H x v ∧ Rep G ρ m H y w := by
  cases r with
  | cons a t => cases t with
    | cons b t => cases t; exact ⟨_, _, rfl, a, b⟩
/-- len -/
def okN (n : Nat) (h : EH) : R := frN n fun n => .ok (.int (.ofNat n)) h
def fLen (xs : List EV) (h : EH) : R := on1 xs .no fun x => x.cs .no (fun _ => .no) (fun _ => .no)
  (fun s => cnd (Nat.ble (lLen s.cps.toList) LIM) (okN (lLen s.cps.toList) h) .no) (fun xs => okN (lLen xs) h)
  (fun n => onOpt (h.get n) .no fun o => o.cs (fun xs => okN (lLen xs) h) (fun kvs => okN (lLen kvs) h) (fun _ _ => .no)) (fun _ => .no)
theorem okN_ok {n : Nat} {h h' : EH} {z : EV} (e : okN n h = .ok z h') : z = .int n ∧ h' = h := by
  unfold okN at e
  rw [frN_eq] at e
  cases e
  exact ⟨rfl, rfl⟩
def rLenA (K : PySem.W.Frag) : List V → Hp → VK → Prop := fun xs H Q => (∃ x n, xs = [x] ∧ LenV K x H n ∧ Q (.int n) H) ∨ ∃ a kvs, xs = [.ref a] ∧ Rd H a (.dK kvs) ∧ Q (.int kvs.length) H
theorem c_len : CallR X (.builtin "len") (rLenA X.K) := by
  refine CallR.or call_len ?_
  rintro pins s σ H xs us Q I r ⟨a, kvs, rfl, hr, q⟩
  obtain ⟨u, rfl, rx⟩ := vals1 r
  cases rx
  exact d_len I hr fun t s' I' => ⟨.int kvs.length, H, I', ⟨_, rfl⟩, q⟩
theorem s_len : CallS G fLen (rLenA G.K) := fun ρ h H xs vs z h' Q em rs e k => by
  obtain ⟨x, rfl, eb⟩ := on1_ok (P := Is z h') isNo e
  obtain ⟨v, rfl, r⟩ := rs.one
  cases x with
  | non => cases eb
  | bl _ => cases eb
  | int _ => cases eb
  | glo _ => cases eb
  | str s =>
    obtain ⟨hl, ec⟩ := cnd_ok (P := Is z h') isNo eb
    obtain ⟨rfl, rfl⟩ := okN_ok ec
    have hl := Nat.le_of_ble_eq_true hl
    cases r
    rw [sLen] at hl k
    exact .inl ⟨_, _, rfl, ⟨Nat.le_trans hl lim_line, rfl⟩, k.here em (.int _)⟩
  | tup xs =>
    obtain ⟨rfl, rfl⟩ := okN_ok eb
    rw [lLen_eq] at k
    cases r with
    | tup q r => exact .inl ⟨_, xs.length, rfl, .inr ⟨_, q, r.length⟩, k.here em (.int _)⟩
  | ref n =>
    obtain ⟨o, g, ed⟩ := onOpt_ok (P := Is z h') isNo eb
    cases r
    obtain ⟨ho, g1, g2⟩ := em.obj _ _ g
    cases o with
    | lst xs =>
      obtain ⟨rfl, rfl⟩ := okN_ok ed
      rw [lLen_eq] at k
      cases g2 with
      | lst r => exact .inl ⟨_, xs.length, rfl, .inl ⟨_, .of g1, r.length⟩, k.here em (.int _)⟩
    | dic xs =>
      obtain ⟨rfl, rfl⟩ := okN_ok ed
      rw [lLen_eq] at k
      cases g2 with
      | dic r =>
        refine .inr ⟨_, _, rfl, .of g1, ?_⟩
        rw [← r.length]; exact k.here em (.int _)
    | ins _ _ => cases ed
/-- tuple(x), list(x) -/
def fTuple (xs : List EV) (h : EH) : R := on1 xs .no fun x => x.cs .no (fun _ => .no) (fun _ => .no) (fun _ => .no) (fun xs => .ok (.tup xs) h)
  (fun n => onOpt (h.get n) .no fun o => o.cs (fun xs => .ok (.tup xs) h) (fun _ => .no) (fun _ _ => .no)) (fun _ => .no)
def rTupleA (K : PySem.W.Frag) : List V → Hp → VK → Prop := fun xs H Q => ∃ p ys, xs = [.ref p] ∧ ((SqL K H p ys ∧ ∀ l, H l = none → Q (.ref l) (upd H l (.tup ys))) ∨ (SqT K H p ys ∧ Q (.ref p) H))
theorem s_tuple : CallS G fTuple (rTupleA G.K) := fun ρ h H xs vs z h' Q em rs e k => by
  obtain ⟨x, rfl, eb⟩ := on1_ok (P := Is z h') isNo e
  obtain ⟨v, rfl, r⟩ := rs.one
  cases x with
  | non => cases eb
  | bl _ => cases eb
  | int _ => cases eb
  | glo _ => cases eb
  | str s => cases eb
  | tup xs =>
    cases eb
    cases r with
    | tup q r => exact ⟨_, _, rfl, .inr ⟨q, k.here em (.tup q r)⟩⟩
  | ref n =>
    obtain ⟨o, g, ec⟩ := onOpt_ok (P := Is z h') isNo eb
    cases r
    obtain ⟨ho, g1, g2⟩ := em.obj _ _ g
    cases o with
    | lst xs =>
      cases ec
      cases g2 with
      | lst r => exact ⟨_, _, rfl, .inl ⟨.of g1, k.tup em r⟩⟩
    | dic xs => cases ec
    | ins _ _ => cases ec
def keysE (kvs : List (EV × EV)) : List EV := @List.rec (EV × EV) (fun _ => List EV) [] (fun p _ ih => p.1 :: ih) kvs
def fList (xs : List EV) (h : EH) : R := on1 xs .no fun x => x.cs .no (fun _ => .no) (fun _ => .no) (fun _ => .no) (fun xs => mkL xs h)
  (fun n => onOpt (h.get n) .no fun o => o.cs (fun xs => mkL xs h) (fun kvs => mkL (keysE kvs) h) (fun _ _ => .no)) (fun _ => .no)
def rListA (K : PySem.W.Frag) : List V → Hp → VK → Prop := fun xs H Q => (∃ p ys, xs = [.ref p] ∧ (SqL K H p ys ∨ SqT K H p ys) ∧ ∀ l, H l = none → Q (.ref l) (upd H l (.lst ys))) ∨ rListD xs H Q
theorem c_list (hc : X.calm = true) : CallR X (.type "list") (rListA X.K) := CallR.or call_list_of (call_list_dK hc)
theorem KReps.keys {ρ : Nat → Addr} {m : Nat} {H : Hp} {kvs : List (EV × EV)} {ks : List (Key × V)} (r : KReps G ρ m H kvs ks) : Reps G ρ m H (keysE kvs) (ks.map fun kv => kV kv.1) := by
  induction r with
  | nil => exact .nil
  | @cons j x v kvs ks r t ih => exact .cons (Rep.keyI j) ih
theorem s_list : CallS G fList (rListA G.K) := fun ρ h H xs vs z h' Q em rs e k => by
  obtain ⟨x, rfl, eb⟩ := on1_ok (P := Is z h') isNo e
  obtain ⟨v, rfl, r⟩ := rs.one
  cases x with
  | non => cases eb
  | bl _ => cases eb
  | int _ => cases eb
  | glo _ => cases eb
  | str s => cases eb
  | tup xs =>
    cases r with
    | tup q r => exact .inl ⟨_, _, rfl, .inr q, k.mkL eb em r⟩
  | ref n =>
    obtain ⟨o, g, ec⟩ := onOpt_ok (P := Is z h') isNo eb
    cases r
    obtain ⟨ho, g1, g2⟩ := em.obj _ _ g
    cases o with
    | lst xs =>
      cases g2 with
      | lst r => exact .inl ⟨_, _, rfl, .inl (.of g1), k.mkL ec em r⟩
    | dic xs =>
      cases g2 with
      | dic r => exact .inr ⟨_, _, rfl, g1, k.mkL ec em r.keys⟩
    | ins _ _ => cases ec
/-- int(x) of an int, a truth -/
def fInt (xs : List EV) (h : EH) : R := on1 xs .no fun x => x.cs .no (fun b => .ok (.int (b2n b)) h) (fun i => .ok (.int i) h) (fun _ => .no) (fun _ => .no) (fun _ => .no) (fun _ => .no)
theorem s_int : CallS G fInt (fun xs H Q => (∃ i, xs = [.int i] ∧ Q (.int i) H) ∨ ∃ k, xs = [.bl k] ∧ Q (.int (if k then 1 else 0)) H) := fun ρ h H xs vs z h' Q em rs e k => by
  obtain ⟨x, rfl, eb⟩ := on1_ok (P := Is z h') isNo e
  obtain ⟨v, rfl, r⟩ := rs.one
  cases x with
  | bl b =>
    cases eb; cases r
    rw [b2n_eq] at k
    exact .inr ⟨b, rfl, k.here em (.int _)⟩
  | int i => cases eb; cases r; exact .inl ⟨i, rfl, k.here em (.int _)⟩
  | _ => cases eb
/-- str(n), repr(n) of a number from 0 on, below a thousand -/
def fStrN (xs : List EV) (h : EH) : R := on1 xs .no fun x => onInt x .no fun i => @Int.rec (fun _ => R) (fun n => cnd (Nat.ble n 100000) (.ok (.str (sMk ((Nat.toDigits 10 n).map Char.toNat))) h) .no) (fun _ => .no) i
theorem strN_eq (n : Nat) : sMk ((Nat.toDigits 10 n).map Char.toNat) = ((toString ((n : Nat) : Int) : String) : Str) := by
  rw [← PySem.W.KIN.signs_num n]
  exact sMk_l _
theorem s_strN : CallS G fStrN (fun xs H Q => ∃ i, xs = [.int i] ∧ i.natAbs.log2 < 1920 ∧ Q (.str (toString i)) H) := fun ρ h H xs vs z h' Q em rs e k => by
  obtain ⟨x, rfl, eb⟩ := on1_ok (P := Is z h') isNo e
  obtain ⟨v, rfl, r⟩ := rs.one
  obtain ⟨i, rfl, ec⟩ := onInt_ok (P := Is z h') isNo eb
  cases i with
  | negSucc n => cases ec
  | ofNat n =>
    obtain ⟨hl, ed⟩ := cnd_ok (P := Is z h') isNo ec
    cases ed
    have hl := Nat.le_of_ble_eq_true hl
    cases r
    rw [strN_eq] at k
    refine ⟨_, rfl, ?_, k.here em (.str _)⟩
    show n.log2 < 1920
    have h1 : n.log2 < 17 := by
      by_cases z : n = 0
      · subst z; decide
      · exact (Nat.log2_lt z).mpr (by omega)
    omega
end
end LV
end

/-! ##### _ren.lean -/
set_option Elab.async false
set_option linter.all false
set_option maxRecDepth 100000
set_option maxHeartbeats 4000000
set_option autoImplicit false
noncomputable section
namespace LV
open PySem PySem.Spec PyProof.Rows L2
open TL

/-! ## any, all, sum, max -/
def isBlE (x : EV) : Bool := onBl x false fun _ => true
def isIE (x : EV) : Bool := onInt x false fun _ => true
def blOf (x : EV) : Bool := onBl x false fun b => b
def iOf (x : EV) : Int := onInt x 0 fun i => i
def anyB (xs : List EV) : Bool := @List.rec EV (fun _ => Bool) false (fun x _ ih => @Bool.rec (fun _ => Bool) ih true (blOf x)) xs
def sumE (xs : List EV) : Int := @List.rec EV (fun _ => Int) (.ofNat 0) (fun x _ ih => Int.add (iOf x) ih) xs
def maxE (m : Int) (xs : List EV) : Int := @List.rec EV (fun _ => Int → Int) (fun m => m) (fun x _ ih m => @Bool.rec (fun _ => Int) (ih m) (ih (iOf x)) (iLt m (iOf x))) xs m
section
variable {G : GA} {X : Cx}
theorem Reps.bls {ρ : Nat → Addr} {m : Nat} {H : Hp} {xs : List EV} {vs : List V} (r : Reps G ρ m H xs vs) (f : allB isBlE xs = true) : vs = (xs.map blOf).map V.bl := by
  induction xs generalizing vs with
  | nil => cases r; rfl
  | cons x xs ih =>
    cases r with
    | cons a t =>
      rw [allB_eq, List.all_cons, Bool.and_eq_true] at f
      rw [List.map_cons, List.map_cons, ← ih t (by rw [allB_eq]; exact f.2)]
      cases a <;> first | rfl | cases f.1
theorem Reps.ints {ρ : Nat → Addr} {m : Nat} {H : Hp} {xs : List EV} {vs : List V} (r : Reps G ρ m H xs vs) (f : allB isIE xs = true) : vs = (xs.map iOf).map V.int := by
  induction xs generalizing vs with
  | nil => cases r; rfl
  | cons x xs ih =>
    cases r with
    | cons a t =>
      rw [allB_eq, List.all_cons, Bool.and_eq_true] at f
      rw [List.map_cons, List.map_cons, ← ih t (by rw [allB_eq]; exact f.2)]
      cases a <;> first | rfl | cases f.1
theorem anyB_eq (xs : List EV) : anyB xs = (xs.map blOf).any id := by
  induction xs with
  | nil => rfl
  | cons x xs ih =>
    show @Bool.rec (fun _ => Bool) (anyB xs) true (blOf x) = _
    rw [ih, List.map_cons, List.any_cons]
    cases blOf x <;> rfl
theorem sumE_eq (xs : List EV) : sumE xs = (xs.map iOf).sum := by
  induction xs with
  | nil => rfl
  | cons x xs ih =>
    show iOf x + sumE xs = _
    rw [ih, List.map_cons, List.sum_cons]
theorem maxE_spec (xs : List EV) : ∀ m : Int, m ≤ maxE m xs ∧ (∀ y ∈ xs.map iOf, y ≤ maxE m xs) ∧ (maxE m xs = m ∨ maxE m xs ∈ xs.map iOf) := by
  induction xs with
  | nil => intro m; exact ⟨Int.le_refl _, fun y hy => (by cases hy), .inl rfl⟩
  | cons x xs ih =>
    intro m
    have e : maxE m (x :: xs) = @Bool.rec (fun _ => Int) (maxE m xs) (maxE (iOf x) xs) (iLt m (iOf x)) := rfl
    rw [e, iLt_dec]
    by_cases c : m < iOf x
    · rw [decide_eq_true c]
      obtain ⟨h1, h2, h3⟩ := ih (iOf x)
      refine ⟨Int.le_trans (Int.le_of_lt c) h1, fun y hy => ?_, .inr ?_⟩
      · rw [List.map_cons] at hy
        rcases List.mem_cons.mp hy with rfl | hy
        · exact h1
        · exact h2 y hy
      · rw [List.map_cons]
        rcases h3 with h3 | h3
        · show maxE (iOf x) xs ∈ _; rw [h3]; exact List.mem_cons_self
        · exact List.mem_cons_of_mem _ h3
    · rw [decide_eq_false c]
      obtain ⟨h1, h2, h3⟩ := ih m
      refine ⟨h1, fun y hy => ?_, ?_⟩
      · rw [List.map_cons] at hy
        rcases List.mem_cons.mp hy with rfl | hy
        · show iOf x ≤ maxE m xs; omega
        · exact h2 y hy
      · rw [List.map_cons]
        rcases h3 with h3 | h3
        · exact .inl h3
        · exact .inr (List.mem_cons_of_mem _ h3)
def fAll (xs : List EV) (h : EH) : R := on1 xs .no fun x => onLst h x .no fun _ xs => cnd (allB isBlE xs) (.ok (.bl (allB blOf xs)) h) .no
def fAny (xs : List EV) (h : EH) : R := on1 xs .no fun x => onLst h x .no fun _ xs => cnd (allB isBlE xs) (.ok (.bl (anyB xs)) h) .no
def fSum (xs : List EV) (h : EH) : R := on1 xs .no fun x => onLst h x .no fun _ xs => cnd (allB isIE xs) (frI (sumE xs) fun i => .ok (.int i) h) .no
/-- what a list of the evaluator is -/
theorem lst_at {ρ : Nat → Addr} {h : EH} {H : Hp} {n : Nat} {xs : List EV} (em : Emb G ρ h H) (g : h.get n = some (.lst xs)) : ∃ vs, H (ρ n) = some (.lst vs) ∧ Reps G ρ h.n H xs vs := by
  obtain ⟨ho, h1, h2⟩ := em.obj _ _ g
  cases h2 with
  | lst r => exact ⟨_, h1, r⟩
theorem dic_at {ρ : Nat → Addr} {h : EH} {H : Hp} {n : Nat} {xs : List (EV × EV)} (em : Emb G ρ h H) (g : h.get n = some (.dic xs)) : ∃ ks, H (ρ n) = some (.dK ks) ∧ KReps G ρ h.n H xs ks := by
  obtain ⟨ho, h1, h2⟩ := em.obj _ _ g
  cases h2 with
  | dic r => exact ⟨_, h1, r⟩
theorem ins_at {ρ : Nat → Addr} {h : EH} {H : Hp} {n c : Nat} {fs : List (Str × EV)} (em : Emb G ρ h H) (g : h.get n = some (.ins c fs)) : ∃ dx gs, H (ρ n) = some (.ins (G.ca c) dx gs) ∧ FReps G ρ h.n H fs gs := by
  obtain ⟨ho, h1, h2⟩ := em.obj _ _ g
  cases h2 with
  | ins r => exact ⟨_, _, h1, r⟩
theorem s_all : CallS G fAll (rAll G.K) := fun ρ h H xs vs z h' Q em rs e k => by
  obtain ⟨x, rfl, eb⟩ := on1_ok (P := Is z h') isNo e
  obtain ⟨v, rfl, r⟩ := rs.one
  obtain ⟨n, ys, rfl, g, ec⟩ := onLst_ok (P := Is z h') isNo eb
  obtain ⟨f, ed⟩ := cnd_ok (P := Is z h') isNo ec
  cases ed
  cases r
  obtain ⟨vs, h1, r⟩ := lst_at em g
  have ev := r.bls f
  subst ev
  refine ⟨_, ys.map blOf, rfl, .of h1, ?_⟩
  have : allB blOf ys = (ys.map blOf).all id := by rw [allB_eq, List.all_map]; rfl
  rw [← this]
  exact k.here em (.bl _)
theorem s_any : CallS G fAny (rAny G.K) := fun ρ h H xs vs z h' Q em rs e k => by
  obtain ⟨x, rfl, eb⟩ := on1_ok (P := Is z h') isNo e
  obtain ⟨v, rfl, r⟩ := rs.one
  obtain ⟨n, ys, rfl, g, ec⟩ := onLst_ok (P := Is z h') isNo eb
  obtain ⟨f, ed⟩ := cnd_ok (P := Is z h') isNo ec
  cases ed
  cases r
  obtain ⟨vs, h1, r⟩ := lst_at em g
  have ev := r.bls f
  subst ev
  refine ⟨_, ys.map blOf, rfl, .of h1, ?_⟩
  rw [← anyB_eq]
  exact k.here em (.bl _)
theorem s_sum : CallS G fSum (rSum G.K) := fun ρ h H xs vs z h' Q em rs e k => by
  obtain ⟨x, rfl, eb⟩ := on1_ok (P := Is z h') isNo e
  obtain ⟨v, rfl, r⟩ := rs.one
  obtain ⟨n, ys, rfl, g, ec⟩ := onLst_ok (P := Is z h') isNo eb
  obtain ⟨f, ed⟩ := cnd_ok (P := Is z h') isNo ec
  rw [frI_eq] at ed
  cases ed
  cases r
  obtain ⟨vs, h1, r⟩ := lst_at em g
  have ev := r.ints f
  subst ev
  refine ⟨_, ys.map iOf, rfl, .of h1, ?_⟩
  rw [← sumE_eq]
  exact k.here em (.int _)
/-- max of a list of ints, of two ints -/
def fMax (xs : List EV) (h : EH) : R := @List.rec EV (fun _ => R) .no (fun x r _ => @List.rec EV (fun _ => R)
    (onLst h x .no fun _ ys => cnd (allB isIE ys) (@List.rec EV (fun _ => R) .no (fun y r _ => frI (maxE (iOf y) r) fun i => .ok (.int i) h) ys) .no)
    (fun y _ _ => on2 xs .no fun x y => onInt x .no fun i => onInt y .no fun j => .ok (.int (@Bool.rec (fun _ => Int) i j (iLt i j))) h) r) xs
def rMaxA (K : PySem.W.Frag) : List V → Hp → VK → Prop := fun xs H Q => rMax K xs H Q ∨ ∃ i j, xs = [.int i, .int j] ∧ Q (.int (if j > i then j else i)) H
theorem c_max (hc : X.calm = true) : CallR X (.builtin "max") (rMaxA X.K) := CallR.or (cr_max hc) (call_max2 hc)
theorem s_max : CallS G fMax (rMaxA G.K) := fun ρ h H xs vs z h' Q em rs e k => by
  cases xs with
  | nil => cases e
  | cons x r =>
    cases r with
    | nil =>
      obtain ⟨v, rfl, r⟩ := rs.one
      obtain ⟨n, ys, rfl, g, eb⟩ := onLst_ok (x := x) (h := h) (k := fun _ ys => cnd (allB isIE ys) (@List.rec EV (fun _ => R) .no (fun y r _ => frI (maxE (iOf y) r) fun i => .ok (.int i) h) ys) .no) (P := Is z h') isNo e
      obtain ⟨f, ec⟩ := cnd_ok (P := Is z h') isNo eb
      cases r
      obtain ⟨vs, h1, r⟩ := lst_at em g
      cases ys with
      | nil => cases ec
      | cons y ys =>
        have e2 : frI (maxE (iOf y) ys) (fun i => R.ok (.int i) h) = .ok z h' := ec
        rw [frI_eq] at e2
        cases e2
        have ev := r.ints f
        subst ev
        refine .inl ⟨_, (y :: ys).map iOf, rfl, .of h1, by simp, fun m hm hle => ?_⟩
        obtain ⟨a1, a2, a3⟩ := maxE_spec ys (iOf y)
        have b1 : maxE (iOf y) ys ∈ (y :: ys).map iOf := by
          rw [List.map_cons]
          rcases a3 with a3 | a3
          · rw [a3]; exact List.mem_cons_self
          · exact List.mem_cons_of_mem _ a3
        have b2 : m ≤ maxE (iOf y) ys := by
          rw [List.map_cons] at hm
          rcases List.mem_cons.mp hm with rfl | hm
          · exact a1
          · exact a2 m hm
        have : m = maxE (iOf y) ys := Int.le_antisymm b2 (hle _ b1)
        rw [this]
        exact k.here em (.int _)
    | cons y r =>
      obtain ⟨a, b, e1, ed⟩ := on2_ok (xs := x :: y :: r) (k := fun x y => onInt x R.no fun i => onInt y R.no fun j => R.ok (.int (@Bool.rec (fun _ => Int) i j (iLt i j))) h) (P := Is z h') isNo e
      cases e1
      obtain ⟨v, w, rfl, r1, r2⟩ := rs.two
      obtain ⟨i, rfl, ee⟩ := onInt_ok (P := Is z h') isNo ed
      obtain ⟨j, rfl, ef⟩ := onInt_ok (P := Is z h') isNo ee
      cases ef
      cases r1; cases r2
      refine .inr ⟨i, j, rfl, ?_⟩
      have e5 : @Bool.rec (fun _ => Int) i j (iLt i j) = if j > i then j else i := by
        rw [iLt_dec]
        by_cases c : i < j
        · rw [decide_eq_true c, if_pos c]
        · rw [decide_eq_false c, if_neg c]
      rw [e5] at k
      exact k.here em (.int _)
/-- dict(d) -/
def mkD (kvs : List (EV × EV)) (h : EH) : R := h.new (.dic kvs) .no fun n h => .ok (.ref n) h
theorem KE.mkD {ρ : Nat → Addr} {h h' : EH} {H : Hp} {xs : List (EV × EV)} {z : EV} {vs : List (Key × V)} {Q : VK} (e : LV.mkD xs h = .ok z h') (k : KE G ρ h H z h' Q) (em : Emb G ρ h H) (r : KReps G ρ h.n H xs vs) : ∀ p, H p = none → Q (.ref p) (upd H p (.dK vs)) := fun p hp => by
  obtain ⟨h2, hn, hg, eb⟩ := EH.new_ok (P := Is z h') isNo e
  cases eb
  refine k (ext ρ h.n p) _ _ (Lat.made hp hn hg) (em.made hp hn hg (.dic r)) ?_
  have eb : p = ext ρ h.n p h.n := ext_same.symm
  conv => rhs; rw [eb]
  exact .ref (by omega)
def fDict (xs : List EV) (h : EH) : R := on1 xs .no fun x => onDic h x .no fun _ kvs => mkD kvs h
theorem s_dict : CallS G fDict (fun xs H Q => ∃ (a : Addr) (kvs : List (Key × V)), xs = [.ref a] ∧ Rd H a (.dK kvs) ∧ ∀ p, H p = none → Q (.ref p) (upd H p (.dK kvs))) := fun ρ h H xs vs z h' Q em rs e k => by
  obtain ⟨x, rfl, eb⟩ := on1_ok (P := Is z h') isNo e
  obtain ⟨v, rfl, r⟩ := rs.one
  obtain ⟨n, ys, rfl, g, ec⟩ := onDic_ok (P := Is z h') isNo eb
  cases r
  obtain ⟨ks, h1, r⟩ := dic_at em g
  exact ⟨_, _, rfl, .of h1, k.mkD ec em r⟩

/-! ## methods of built-in types -/
def MtS (G : GA) (ty : EH → EV → Bool) (T : String) (f : EV → List EV → EH → R) (r : V → List V → Hp → VK → Prop) : Prop :=
  (∀ (ρ : Nat → Addr) (h : EH) (H : Hp) (x : EV) (v : V), Emb G ρ h H → Rep G ρ h.n H x v → ty h x = true → tyV G.K T v H) ∧
  ∀ (ρ : Nat → Addr) (h : EH) (H : Hp) (x : EV) (v : V) (xs : List EV) (vs : List V) (z : EV) (h' : EH) (Q : VK),
    Emb G ρ h H → Rep G ρ h.n H x v → Reps G ρ h.n H xs vs → f x xs h = .ok z h' → KE G ρ h H z h' Q → r v vs H Q
def eBM (ty : EH → EV → Bool) (f : EV → List EV → EH → R) (o : DE) (d : DA) : DE := fun s h => (o s h).bd .no fun x h => cnd (ty h x) ((d s h).bd .no fun xs h => f x xs h) .no
theorem rd_bm {ty : EH → EV → Bool} {T : String} {f : EV → List EV → EH → R} {r : V → List V → Hp → VK → Prop} (hf : MtS G ty T f r) {o : DE} {d : DA} (σ : L2.St) (H : Hp) (Q : VK) (q : rdE G (eBM ty f o d) σ H Q) : tBM G.K T r (rdE G o) (rdA G d) σ H Q := by
  obtain ⟨ρ, es, h, z, h', em, sl, e, k⟩ := q
  obtain ⟨x, h1, e1, eb⟩ := R.bd_ok (P := Is z h') isNo e
  obtain ⟨c, ec⟩ := cnd_ok (P := Is z h') isNo eb
  obtain ⟨xs, h2, e2, ed⟩ := RA.bd_ok (P := Is z h') isNo ec
  exact ⟨ρ, es, h, x, h1, em, sl, e1, fun ρ1 v H1 l1 em1 rx => ⟨hf.1 ρ1 h1 H1 x v em1 rx c, ρ1, es, h1, xs, h2, em1, sl.lat l1, e2, fun ρ2 vs H2 l2 em2 rs => hf.2 ρ2 h2 H2 x v xs vs z h' Q em2 (rx.lat l2) rs ed (k.after (l1.trans l2))⟩⟩
theorem rd_bm0 {ty : EH → EV → Bool} {T : String} {f : EV → List EV → EH → R} {r : V → List V → Hp → VK → Prop} (hf : MtS G ty T f r) {o : DE} (σ : L2.St) (H : Hp) (Q : VK) (q : rdE G (eBM ty f o aNil) σ H Q) : tBM0 G.K T r (rdE G o) σ H Q := by
  obtain ⟨ρ, es, h, z, h', em, sl, e, k⟩ := q
  obtain ⟨x, h1, e1, eb⟩ := R.bd_ok (P := Is z h') isNo e
  obtain ⟨c, ec⟩ := cnd_ok (P := Is z h') isNo eb
  exact ⟨ρ, es, h, x, h1, em, sl, e1, fun ρ1 v H1 l1 em1 rx => ⟨hf.1 ρ1 h1 H1 x v em1 rx c, hf.2 ρ1 h1 H1 x v [] [] z h' Q em1 rx .nil ec (k.after l1)⟩⟩
def isL (h : EH) (x : EV) : Bool := onLst h x false fun _ _ => true
def isDi (h : EH) (x : EV) : Bool := onDic h x false fun _ _ => true
def isS (_ : EH) (x : EV) : Bool := onStr x false fun _ => true
theorem isL_ok (ρ : Nat → Addr) (h : EH) (H : Hp) (x : EV) (v : V) (em : Emb G ρ h H) (r : Rep G ρ h.n H x v) (c : isL h x = true) : tyV G.K "list" v H := by
  obtain ⟨n, xs, rfl, g, _⟩ := onLst_ok (P := fun b : Bool => b = true) (by simp) c
  cases r
  obtain ⟨vs, h1, _⟩ := lst_at em g
  exact .inl ⟨rfl, _, .of h1⟩
theorem isDi_ok (ρ : Nat → Addr) (h : EH) (H : Hp) (x : EV) (v : V) (em : Emb G ρ h H) (r : Rep G ρ h.n H x v) (c : isDi h x = true) : tyV G.K "dict" v H := by
  obtain ⟨n, xs, rfl, g, _⟩ := onDic_ok (P := fun b : Bool => b = true) (by simp) c
  cases r
  obtain ⟨vs, h1, _⟩ := dic_at em g
  exact .inr (.inr (.inl ⟨rfl, .inl ⟨_, h1⟩⟩))
theorem isS_ok (ρ : Nat → Addr) (h : EH) (H : Hp) (x : EV) (v : V) (em : Emb G ρ h H) (r : Rep G ρ h.n H x v) (c : isS h x = true) : tyV G.K "str" v H := by
  obtain ⟨s, rfl, _⟩ := onStr_ok (P := fun b : Bool => b = true) (by simp) c
  cases r
  exact rfl
/-- append, extend, pop -/
def putL (n : Nat) (xs : List EV) (z : EV) (h : EH) : R := cnd (Nat.ble (lLen xs) LIM) (.ok z (h.put n (.lst xs))) .no
theorem KE.putL {ρ : Nat → Addr} {h h' : EH} {H : Hp} {n : Nat} {ys xs : List EV} {z y : EV} {vs : List V} {v : V} {Q : VK} (e : LV.putL n xs y h = .ok z h') (k : KE G ρ h H z h' Q) (em : Emb G ρ h H) (g : h.get n = some (.lst ys)) (r : Reps G ρ h.n H xs vs) (rz : Rep G ρ h.n H y v) :
    xs.length ≤ sizeLine ∧ Q v (upd H (ρ n) (.lst vs)) := by
  obtain ⟨hl, eb⟩ := cnd_ok (P := Is z h') isNo e
  cases eb
  have hl := Nat.le_of_ble_eq_true hl
  rw [lLen_eq] at hl
  exact ⟨Nat.le_trans hl lim_line, k ρ v _ (Lat.put em g) (em.put g (.lst r)) (Rep.put em g rz)⟩
def fAppend (x : EV) (xs : List EV) (h : EH) : R := on1 xs .no fun y => onLst h x .no fun n ys => putL n (cat ys [y]) .non h
theorem s_append : MtS G isL "list" fAppend rAppend := ⟨isL_ok, fun ρ h H x v xs vs z h' Q em rx rs e k => by
  obtain ⟨y, rfl, eb⟩ := on1_ok (P := Is z h') isNo e
  obtain ⟨w, rfl, r⟩ := rs.one
  obtain ⟨n, ys, rfl, g, ec⟩ := onLst_ok (P := Is z h') isNo eb
  cases rx
  obtain ⟨us, h1, ru⟩ := lst_at em g
  rw [cat_eq] at ec
  obtain ⟨hl, q⟩ := k.putL ec em g (ru.append (.cons r .nil)) .non
  rw [List.length_append, ru.length] at hl
  exact ⟨_, us, w, rfl, rfl, h1, by simp only [List.length_cons, List.length_nil] at hl; omega, q⟩⟩
def fExtend (x : EV) (xs : List EV) (h : EH) : R := on1 xs .no fun y => onLst h x .no fun n ys => onLst h y .no fun _ zs => putL n (cat ys zs) .non h
theorem s_extend : MtS G isL "list" fExtend rExtend := ⟨isL_ok, fun ρ h H x v xs vs z h' Q em rx rs e k => by
  obtain ⟨y, rfl, eb⟩ := on1_ok (P := Is z h') isNo e
  obtain ⟨w, rfl, r⟩ := rs.one
  obtain ⟨n, ys, rfl, g, ec⟩ := onLst_ok (P := Is z h') isNo eb
  obtain ⟨n2, zs, rfl, g2, ed⟩ := onLst_ok (P := Is z h') isNo ec
  cases rx; cases r
  obtain ⟨us, h1, ru⟩ := lst_at em g
  obtain ⟨us2, h2, ru2⟩ := lst_at em g2
  rw [cat_eq] at ed
  obtain ⟨hl, q⟩ := k.putL ed em g (ru.append ru2) .non
  rw [List.length_append, ru.length, ru2.length] at hl
  exact ⟨_, _, us, us2, rfl, rfl, h1, h2, hl, q⟩⟩
def lastE (xs : List EV) : Option EV := nth xs (Nat.sub (lLen xs) 1)
def initE (xs : List EV) : List EV := takeN (Nat.sub (lLen xs) 1) xs
def fPop (x : EV) (xs : List EV) (h : EH) : R := @List.rec EV (fun _ => R) (onLst h x .no fun n ys => onOpt (lastE ys) .no fun y => putL n (initE ys) y h) (fun _ _ _ => .no) xs
theorem s_pop : MtS G isL "list" fPop rPop := ⟨isL_ok, fun ρ h H x v xs vs z h' Q em rx rs e k => by
  cases xs with
  | cons _ _ => cases e
  | nil =>
    cases rs
    obtain ⟨n, ys, rfl, g, eb⟩ := onLst_ok (x := x) (h := h) (k := fun n ys => onOpt (lastE ys) .no fun y => putL n (initE ys) y h) (P := Is z h') isNo e
    obtain ⟨y, hy, ec⟩ := onOpt_ok (P := Is z h') isNo eb
    cases rx
    obtain ⟨us, h1, ru⟩ := lst_at em g
    unfold lastE at hy
    rw [nth_eq, lLen_eq] at hy
    obtain ⟨w, hw, rw'⟩ := ru.get hy
    have e2 : initE ys = ys.dropLast := by unfold initE; rw [takeN_eq, lLen_eq, List.dropLast_eq_take]; rfl
    rw [e2] at ec
    obtain ⟨hl, q⟩ := k.putL ec em g ru.dropLast rw'
    refine ⟨_, us, w, rfl, rfl, h1, ?_, q⟩
    rw [← ru.length]; exact hw⟩
/-- xs.index(y), flat things -/
def idxE (x : EV) (n : Nat) (ys : List EV) : Option Nat := @List.rec EV (fun _ => Nat → Option Nat) (fun _ => none) (fun y _ ih n => @Bool.rec (fun _ => Option Nat) (ih (Nat.succ n)) (some n) (eqF y x)) ys n
theorem idxE_ok {ρ : Nat → Addr} {m : Nat} {H : Hp} {x : EV} {v : V} (fx : flE x = true) (rx : Rep G ρ m H x v) : ∀ {ys : List EV} {us : List V} {n i : Nat}, allB flE ys = true → Reps G ρ m H ys us → idxE x n ys = some i →
    ∃ j w, i = n + j ∧ us[j]? = some w ∧ eqV w v = true ∧ ∀ (l : Nat) (w' : V), l < j → us[l]? = some w' → eqV w' v = false
  | [], _, _, _, _, .nil, e => by cases e
  | y :: ys, _, n, i, f, .cons (v := w) (vs := us) a t, e => by
    rw [allB_eq, List.all_cons, Bool.and_eq_true] at f
    have e1 : @Bool.rec (fun _ => Option Nat) (idxE x (Nat.succ n) ys) (some n) (eqF y x) = some i := e
    rw [eqF_ok f.1 fx a rx] at e1
    cases c : eqV w v with
    | true => rw [c] at e1; cases e1; exact ⟨0, w, rfl, rfl, c, fun l _ hl => absurd hl (Nat.not_lt_zero _)⟩
    | false =>
      rw [c] at e1
      obtain ⟨j, w2, q1, q2, q3, q4⟩ := idxE_ok fx rx (by rw [allB_eq]; exact f.2) t e1
      refine ⟨j + 1, w2, by omega, by simpa using q2, q3, fun l w' hl hw => ?_⟩
      cases l with
      | zero => simp at hw; subst hw; exact c
      | succ l => exact q4 l w' (by omega) (by simpa using hw)
def fIndex (x : EV) (xs : List EV) (h : EH) : R := on1 xs .no fun y => onLst h x .no fun _ ys => cnd (flE y) (cnd (allB flE ys) (onOpt (idxE y 0 ys) .no fun n => okN n h) .no) .no
theorem s_index : MtS G isL "list" fIndex (rIndex G.K) := ⟨isL_ok, fun ρ h H x v xs vs z h' Q em rx rs e k => by
  obtain ⟨y, rfl, eb⟩ := on1_ok (P := Is z h') isNo e
  obtain ⟨w, rfl, r⟩ := rs.one
  obtain ⟨n, ys, rfl, g, ec⟩ := onLst_ok (P := Is z h') isNo eb
  obtain ⟨f1, ed⟩ := cnd_ok (P := Is z h') isNo ec
  obtain ⟨f2, ee⟩ := cnd_ok (P := Is z h') isNo ed
  obtain ⟨i, hi, ef⟩ := onOpt_ok (P := Is z h') isNo ee
  obtain ⟨rfl, rfl⟩ := okN_ok ef
  cases rx
  obtain ⟨us, h1, ru⟩ := lst_at em g
  obtain ⟨j, w2, q1, q2, q3, q4⟩ := idxE_ok f1 r f2 ru hi
  have : i = j := by omega
  subst this
  exact ⟨_, us, w, i, w2, rfl, rfl, .of h1, flE_ok f1 r, flE_all f2 ru, q2, q3, q4, k.here em (.int _)⟩⟩
/-- d.get(k, x) -/
theorem m_dget (hu : X.A.units + 1 < cLine) : MtR X "dict.get" (fun x xs H Q => ∃ a y d o, x = .ref a ∧ xs = [y, d] ∧ DGet H a y o ∧ Q (o.getD d) H) := by
  rintro pins s σ H x xs v us Q I rx rs ⟨a, y, d, o, rfl, rfl, g, q⟩
  cases rx
  obtain ⟨u, w', rfl, r1, r2⟩ := vals2 rs
  exact d_get2 hu I g r1 r2 fun w2 s' I' rw' => ⟨_, H, I', rw', q⟩
def fDGet (x : EV) (xs : List EV) (h : EH) : R := on2 xs .no fun y d => onDic h x .no fun _ kvs => cnd (isKey y) (.ok (@Option.rec EV (fun _ => EV) d (fun v => v) (dGet kvs y)) h) .no
theorem s_dget : MtS G isDi "dict" fDGet (fun x xs H Q => ∃ a y d o, x = .ref a ∧ xs = [y, d] ∧ DGet H a y o ∧ Q (o.getD d) H) := ⟨isDi_ok, fun ρ h H x v xs vs z h' Q em rx rs e k => by
  obtain ⟨y, d, rfl, eb⟩ := on2_ok (P := Is z h') isNo e
  obtain ⟨w, w2, rfl, r1, r2⟩ := rs.two
  obtain ⟨n, kvs, rfl, g, ec⟩ := onDic_ok (P := Is z h') isNo eb
  obtain ⟨f1, ed⟩ := cnd_ok (P := Is z h') isNo ec
  cases ed
  cases rx
  obtain ⟨j, rfl⟩ := isKey_ok f1
  obtain ⟨ks, h1, r⟩ := dic_at em g
  rw [r1.key]
  refine ⟨_, _, w2, valV ks j, rfl, rfl, DGet.k h1, ?_⟩
  rcases r.get j with ⟨e1, e2⟩ | ⟨x', v', e1, e2, r3⟩
  · rw [e1] at k; rw [e2]; exact k.here em r2
  · rw [e1] at k; rw [e2]; exact k.here em r3⟩
/-- sep.join(xs) -/
def strsOk (xs : List EV) : Bool := allB (fun x => onStr x false fun _ => true) xs
def sOf (x : EV) : Str := onStr x ⟨#[]⟩ fun s => s
def joinE (sep : List Nat) (xs : List EV) : List Nat := @List.rec EV (fun _ => List Nat) [] (fun x r ih => @List.rec EV (fun _ => List Nat) (sOf x).cps.toList (fun _ _ _ => cat (sOf x).cps.toList (cat sep ih)) r) xs
def lensE (xs : List EV) : Nat := @List.rec EV (fun _ => Nat) 0 (fun x _ ih => Nat.add (lLen (sOf x).cps.toList) ih) xs
def join1 (s : Str) (ys : List EV) (h : EH) : R := cnd (strsOk ys) (cnd (Nat.ble (Nat.add (lensE ys) (Nat.mul (lLen ys) (lLen s.cps.toList))) LIM) (.ok (.str (sMk (joinE s.cps.toList ys))) h) .no) .no
def fJoin (x : EV) (xs : List EV) (h : EH) : R := on1 xs .no fun y => onStr x .no fun s => y.cs .no (fun _ => .no) (fun _ => .no) (fun _ => .no) (fun ys => join1 s ys h)
  (fun n => onOpt (h.get n) .no fun o => o.cs (fun ys => join1 s ys h) (fun _ => .no) (fun _ _ => .no)) (fun _ => .no)
theorem Reps.strs {ρ : Nat → Addr} {m : Nat} {H : Hp} {xs : List EV} {vs : List V} (r : Reps G ρ m H xs vs) (f : strsOk xs = true) : vs = (xs.map sOf).map V.str := by
  induction xs generalizing vs with
  | nil => cases r; rfl
  | cons x xs ih =>
    cases r with
    | cons a t =>
      unfold strsOk at f ih
      rw [allB_eq, List.all_cons, Bool.and_eq_true] at f
      rw [List.map_cons, List.map_cons, ← ih t (by rw [allB_eq]; exact f.2)]
      cases a <;> first | rfl | cases f.1
theorem joinE_eq (s : Str) : ∀ xs : List EV, joinE s.cps.toList xs = joinL (tl s) ((xs.map sOf).map tl)
  | [] => rfl
  | [x] => rfl
  | x :: y :: r => by
    show cat (sOf x).cps.toList (cat s.cps.toList (joinE s.cps.toList (y :: r))) = _
    rw [cat_eq, cat_eq, joinE_eq s (y :: r)]
    rfl
theorem lensE_eq (xs : List EV) : lensE xs = ((xs.map sOf).map (·.length)).sum := by
  induction xs with
  | nil => rfl
  | cons x xs ih =>
    show lLen (sOf x).cps.toList + lensE xs = _
    rw [ih, sLen, List.map_cons, List.map_cons, List.sum_cons]
theorem join1_ok {ρ : Nat → Addr} {h h' : EH} {H : Hp} {s : Str} {ys : List EV} {us : List V} {z : EV} {Q : VK} (em : Emb G ρ h H) (r : Reps G ρ h.n H ys us) (e : join1 s ys h = .ok z h') (k : KE G ρ h H z h' Q) :
    us = (ys.map sOf).map V.str ∧ ((ys.map sOf).map (·.length)).sum + (ys.map sOf).length * s.length ≤ 16777216 ∧ Q (.str (Txt.join s (ys.map sOf))) H := by
  obtain ⟨f, eb⟩ := cnd_ok (P := Is z h') isNo e
  obtain ⟨hl, ec⟩ := cnd_ok (P := Is z h') isNo eb
  cases ec
  have hl := Nat.le_of_ble_eq_true hl
  rw [lensE_eq, lLen_eq, sLen] at hl
  refine ⟨r.strs f, ?_, ?_⟩
  · rw [List.length_map]
    exact Nat.le_trans hl (by decide)
  · have := k.here em (.str _)
    rw [joinE_eq, ← tl_join, ← join_eq] at this
    rwa [show sMk (tl (Txt.join s (ys.map sOf))) = Txt.join s (ys.map sOf) from sMk_l _] at this
theorem s_join : MtS G isS "str" fJoin (fun x xs H Q => ∃ a p, ∃ ys : List Str, x = .str a ∧ xs = [.ref p] ∧ (SqL G.K H p (ys.map V.str) ∨ SqT G.K H p (ys.map V.str)) ∧
    (ys.map (·.length)).sum + ys.length * a.length ≤ 16777216 ∧ Q (.str (Txt.join a ys)) H) := ⟨isS_ok, fun ρ h H x v xs vs z h' Q em rx rs e k => by
  obtain ⟨y, rfl, eb⟩ := on1_ok (P := Is z h') isNo e
  obtain ⟨w, rfl, r⟩ := rs.one
  obtain ⟨s, rfl, ec⟩ := onStr_ok (P := Is z h') isNo eb
  cases rx
  cases y with
  | non => cases ec
  | bl _ => cases ec
  | int _ => cases ec
  | str _ => cases ec
  | glo _ => cases ec
  | tup ys =>
    cases r with
    | tup q r =>
      obtain ⟨a1, a2, a3⟩ := join1_ok em r ec k
      subst a1
      exact ⟨s, _, _, rfl, rfl, .inr q, a2, a3⟩
  | ref n =>
    obtain ⟨o, g, ed⟩ := onOpt_ok (P := Is z h') isNo ec
    cases r
    cases o with
    | lst ys =>
      obtain ⟨us, h1, ru⟩ := lst_at em g
      obtain ⟨a1, a2, a3⟩ := join1_ok em ru ed k
      subst a1
      exact ⟨s, _, _, rfl, rfl, .inl (.of h1), a2, a3⟩
    | dic _ => cases ed
    | ins _ _ => cases ed⟩
/-- s.split(c), c one sign below 128 -/
def spE (c : Nat) (acc xs : List Nat) : List (List Nat) := @List.rec Nat (fun _ => List Nat → List (List Nat)) (fun acc => [acc]) (fun x _ ih acc => @Bool.rec (fun _ => List (List Nat)) (ih (cat acc [x])) (acc :: ih []) (Nat.beq x c)) xs acc
def toStrs (ls : List (List Nat)) : List EV := @List.rec (List Nat) (fun _ => List EV) [] (fun l _ ih => .str (sMk l) :: ih) ls
def fSplit (x : EV) (xs : List EV) (h : EH) : R := on1 xs .no fun y => onStr x .no fun s => onStr y .no fun t => @List.rec Nat (fun _ => R) .no (fun c r _ => @List.rec Nat (fun _ => R)
  (cnd (Nat.ble c 127) (cnd (Nat.ble (lLen s.cps.toList) LIM) (mkL (toStrs (spE c [] s.cps.toList)) h) .no) .no) (fun _ _ _ => .no) r) t.cps.toList
theorem spE_eq (c : Nat) : ∀ (xs acc : List Nat), spE c acc xs = spl [c] 0 acc xs
  | [], acc => by rw [spl_nil]; rfl
  | x :: xs, acc => by
    show @Bool.rec (fun _ => List (List Nat)) (spE c (cat acc [x]) xs) (acc :: spE c [] xs) (Nat.beq x c) = _
    rw [spE_eq c xs, spE_eq c xs, cat_eq]
    cases e : Nat.beq x c with
    | true =>
      have e2 := Nat.eq_of_beq_eq_true e
      subst e2
      rw [spl_hit (show pre [x] (x :: xs) = true from pre_self [x] xs)]
      rfl
    | false => rw [spl_miss (pre_of_head [] xs (beq_ne e))]
theorem toStrs_map (ls : List Str) : toStrs (ls.map tl) = ls.map EV.str := by
  induction ls with
  | nil => rfl
  | cons l ls ih =>
    show EV.str (sMk (tl l)) :: toStrs (ls.map tl) = _
    rw [ih, show sMk (tl l) = l from sMk_l l]; rfl
theorem Reps.ofStrs {ρ : Nat → Addr} {m : Nat} {H : Hp} (ls : List Str) : Reps G ρ m H (ls.map EV.str) (ls.map V.str) := by
  induction ls with
  | nil => exact .nil
  | cons l ls ih => exact .cons (.str l) ih
theorem s_split : MtS G isS "str" fSplit (fun x xs H Q => ∃ a b, x = .str a ∧ xs = [.str b] ∧ (b.length == 0) = false ∧ a.length + 2 ≤ sizeLine ∧ rNewStrs (Txt.split a b) H Q) := ⟨isS_ok, fun ρ h H x v xs vs z h' Q em rx rs e k => by
  obtain ⟨y, rfl, eb⟩ := on1_ok (P := Is z h') isNo e
  obtain ⟨w, rfl, r⟩ := rs.one
  obtain ⟨s, rfl, ec⟩ := onStr_ok (P := Is z h') isNo eb
  obtain ⟨t, rfl, ed⟩ := onStr_ok (P := Is z h') isNo ec
  cases rx; cases r
  obtain ⟨⟨t⟩⟩ := t
  cases t with
  | nil => cases ed
  | cons c t =>
    cases t with
    | cons _ _ => cases ed
    | nil =>
      obtain ⟨hc, ee⟩ := cnd_ok (c := Nat.ble c 127) (a := cnd (Nat.ble (lLen s.cps.toList) LIM) (mkL (toStrs (spE c [] s.cps.toList)) h) .no) (P := Is z h') isNo ed
      obtain ⟨hl, ef⟩ := cnd_ok (P := Is z h') isNo ee
      have hc := Nat.le_of_ble_eq_true hc
      have hl := Nat.le_of_ble_eq_true hl
      rw [sLen] at hl
      have k1 : Builtin.Str.strKind ⟨#[c]⟩ = 1 := by
        unfold Builtin.Str.strKind
        rw [if_pos (by simp; omega)]
      have hk : ¬ Builtin.Str.strKind s < Builtin.Str.strKind ⟨#[c]⟩ := by
        rw [k1]
        unfold Builtin.Str.strKind
        repeat (first | split | omega)
      have es := split_spl s ⟨#[c]⟩ (by simp [tl]) hk
      have e9 : spE c [] s.cps.toList = (Txt.split s ⟨#[c]⟩).map tl := by rw [es, spE_eq]
      rw [e9, toStrs_map] at ef
      refine ⟨s, ⟨#[c]⟩, rfl, rfl, rfl, ?_, k.mkL ef em (.ofStrs _)⟩
      have h1 : LIM + 2 ≤ sizeLine := by rw [sizeLine_eq]; decide
      omega⟩
end
end LV
end

/-! ##### _ren.lean -/
set_option Elab.async false
set_option linter.all false
set_option maxRecDepth 100000
set_option maxHeartbeats 4000000
set_option autoImplicit false
noncomputable section
namespace LV
open PySem PySem.Spec PyProof.Rows L2

/-! ## statements -/
def RS.nxt (r : RS) (k : ES → EH → RS) : RS := @RS.rec (fun _ => RS) .no k (fun x h => .rt x h) (fun s h => .bk s h) (fun s h => .ct s h) r
def RS.lp (r : RS) (k : ES → EH → RS) : RS := @RS.rec (fun _ => RS) .no k (fun x h => .rt x h) (fun s h => .nx s h) (fun s h => k s h) r
def sNop : DS := fun s h => .nx s h
def sSeq (a b : DS) : DS := fun s h => (a s h).nxt b
def sDrop (d : DE) : DS := fun s h => (d s h).bd .no fun _ h => .nx s h
def sRet (d : DE) : DS := fun s h => (d s h).bd .no fun x h => .rt x h
def sRetN : DS := fun _ h => .rt .non h
def sBrk : DS := fun s h => .bk s h
def sCont : DS := fun s h => .ct s h
def sIf (c : DB) (a b : DS) : DS := fun s h => (c s h).bd .no fun c h => @Bool.rec (fun _ => RS) (b s h) (a s h) c
def whE (c : DB) (b : DS) (n : Nat) : DS := @Nat.rec (fun _ => DS) (fun _ _ => .no) (fun _ ih s h => (c s h).bd .no fun t h => @Bool.rec (fun _ => RS) (.nx s h) ((b s h).lp ih) t) n
def sWhile (c : DB) (b : DS) : DS := whE c b 1000000
section
variable {G : GA} {X : Cx} {pos : Pos} {ρ ρ' : Nat → Addr} {h h' : EH} {H H' : Hp} {D : Ends}
theorem KS.after {r : RS} (k : KS G ρ h H D r) (l : Lat G ρ h H ρ' h' H') : KS G ρ' h' H' D r := by
  cases r with
  | no => exact k
  | nx s h2 => exact fun ρ2 σ2 H2 l2 => k ρ2 σ2 H2 (l.trans l2)
  | rt x h2 => exact fun ρ2 σ2 H2 l2 => k ρ2 σ2 H2 (l.trans l2)
  | bk s h2 => exact fun ρ2 σ2 H2 l2 => k ρ2 σ2 H2 (l.trans l2)
  | ct s h2 => exact fun ρ2 σ2 H2 l2 => k ρ2 σ2 H2 (l.trans l2)
abbrev IsK (G : GA) (ρ : Nat → Addr) (h : EH) (H : Hp) (D : Ends) : RS → Prop := fun r => KS G ρ h H D r
theorem isNoK : ¬ IsK G ρ h H D .no := fun e => e
theorem KS.seq {b : DS} {r : RS} (k : KS G ρ h H D (r.nxt b)) : KS G ρ h H { D with nx := rdS G b D } r := by
  cases r with
  | no => exact k
  | nx s h2 => exact fun ρ2 σ2 H2 l2 em sl => ⟨ρ2, s, h2, em, sl, KS.after (r := b s h2) k l2⟩
  | rt x h2 => exact k
  | bk s h2 => exact k
  | ct s h2 => exact k
theorem s_nil : PSs X [] (rdS G sNop) := PSs.weak pss_nil fun D σ H ⟨ρ, es, h, em, sl, k⟩ => k ρ σ H Lat.refl em sl
theorem s_pass : PS X (.Pass pos) (rdS G sNop) := PS.weak ps_pass fun D σ H ⟨ρ, es, h, em, sl, k⟩ => k ρ σ H Lat.refl em sl
theorem s_brk : PS X (.Break pos) (rdS G sBrk) := PS.weak ps_break fun D σ H ⟨ρ, es, h, em, sl, k⟩ => k ρ σ H Lat.refl em sl
theorem s_cont : PS X (.Continue pos) (rdS G sCont) := PS.weak ps_continue fun D σ H ⟨ρ, es, h, em, sl, k⟩ => k ρ σ H Lat.refl em sl
theorem s_one {st : Stmt} {a : DS} (ha : PS X st (rdS G a)) : PSs X [st] (rdS G a) := pss_one ha
theorem s_seq {st : Stmt} {rest : List Stmt} {a b : DS} (ha : PS X st (rdS G a)) (hb : PSs X rest (rdS G b)) : PSs X (st :: rest) (rdS G (sSeq a b)) :=
  PSs.weak (pss_cons ha hb) fun D σ H ⟨ρ, es, h, em, sl, k⟩ => ⟨ρ, es, h, em, sl, KS.seq k⟩
theorem s_drop {e : Expr} {d : DE} (he : PE X e (rdE G d)) (hs : swapsWith e none pos.line X.env = pure false) : PS X (.Expr e pos) (rdS G (sDrop d)) := by
  refine PS.weak (ps_expr he hs) ?_
  rintro D σ H ⟨ρ, es, h, em, sl, e⟩
  obtain ⟨x, h1, e1, eb⟩ := R.bd_ok (P := IsK G ρ h H D) isNoK e
  exact ⟨ρ, es, h, x, h1, em, sl, e1, fun ρ1 v H1 l1 em1 rx => eb ρ1 σ H1 l1 em1 (sl.lat l1)⟩
theorem s_ret {e : Expr} {d : DE} (he : PE X e (rdE G d)) : PS X (.Return (some e) pos) (rdS G (sRet d)) := by
  refine PS.weak (ps_ret he) ?_
  rintro D σ H ⟨ρ, es, h, em, sl, e⟩
  obtain ⟨x, h1, e1, eb⟩ := R.bd_ok (P := IsK G ρ h H D) isNoK e
  exact ⟨ρ, es, h, x, h1, em, sl, e1, fun ρ1 v H1 l1 em1 rx => eb ρ1 v H1 l1 em1 rx⟩
theorem s_retN : PS X (.Return none pos) (rdS G sRetN) := PS.weak ps_retN fun D σ H ⟨ρ, es, h, em, sl, k⟩ => k ρ .non H Lat.refl em .non
theorem s_if {c : Expr} {a b : List Stmt} {dc : DB} {da db : DS} (hc : PT X c (rdB G dc)) (ha : PSs X a (rdS G da)) (hb : PSs X b (rdS G db)) : PS X (.If c a b pos) (rdS G (sIf dc da db)) := by
  refine PS.weak (ps_if hc ha hb) ?_
  rintro D σ H ⟨ρ, es, h, em, sl, e⟩
  obtain ⟨x, h1, e1, eb⟩ := RB.bd_ok (P := IsK G ρ h H D) isNoK e
  refine ⟨ρ, es, h, x, h1, em, sl, e1, fun ρ1 H1 l1 em1 => ?_⟩
  cases x with
  | true => exact ⟨ρ1, es, h1, em1, sl.lat l1, KS.after (r := da es h1) eb l1⟩
  | false => exact ⟨ρ1, es, h1, em1, sl.lat l1, KS.after (r := db es h1) eb l1⟩
/-- behind a turn of a loop -/
theorem KS.loop {kont : DS} {N : L2.St → Hp → Prop} {r : RS} (k : KS G ρ h H D (r.lp kont)) (hN : ∀ s h2 ρ2 σ2 H2, Lat G ρ h H ρ2 h2 H2 → Emb G ρ2 h2 H2 → Slots G ρ2 h2.n H2 s σ2 → KS G ρ2 h2 H2 D (kont s h2) → N σ2 H2) :
    KS G ρ h H { D with nx := N, ct := N, bk := D.nx } r := by
  cases r with
  | no => exact k
  | nx s h2 => exact fun ρ2 σ2 H2 l2 em sl => hN s h2 ρ2 σ2 H2 l2 em sl (KS.after (r := kont s h2) k l2)
  | rt x h2 => exact k
  | bk s h2 => exact k
  | ct s h2 => exact fun ρ2 σ2 H2 l2 em sl => hN s h2 ρ2 σ2 H2 l2 em sl (KS.after (r := kont s h2) k l2)
theorem s_while {c : Expr} {body : List Stmt} {dc : DB} {db : DS} (hp : PassesOwn (model X.prog X.w) X.A X.env X.xe) (hc : PT X c (rdB G dc)) (hb : PSs X body (rdS G db)) : PS X (.While c body [] pos) (rdS G (sWhile dc db)) := by
  refine PS.weak (ps_while hp hc hb) ?_
  rintro D σ H q
  refine ⟨fun m σ H => rdS G (whE dc db m) D σ H, ⟨1000000, q⟩, ?_⟩
  rintro m σ H ⟨ρ, es, h, em, sl, e⟩
  cases m with
  | zero => exact e.elim
  | succ m =>
    obtain ⟨x, h1, e1, eb⟩ := RB.bd_ok (r := dc es h) (k := fun t h => @Bool.rec (fun _ => RS) (.nx es h) ((db es h).lp (whE dc db m)) t) (P := IsK G ρ h H D) isNoK e
    refine ⟨ρ, es, h, x, h1, em, sl, e1, fun ρ1 H1 l1 em1 => ?_⟩
    cases x with
    | true =>
      refine ⟨rdS G (whE dc db m) D, fun σ' H' n => ⟨m, Nat.lt_succ_self m, n⟩, ρ1, es, h1, em1, sl.lat l1, ?_⟩
      exact KS.loop (kont := whE dc db m) (KS.after (r := (db es h1).lp (whE dc db m)) eb l1) fun s h2 ρ2 σ2 H2 l2 em2 sl2 k2 => ⟨ρ2, s, h2, em2, sl2, k2⟩
    | false => exact eb ρ1 σ H1 l1 em1 (sl.lat l1)

/-! ## targets: names, tuples of targets -/
inductive RG where
  | no | ok (s : ES)
abbrev DG := EV → ES → EH → RG
abbrev DGs := List EV → ES → EH → RG
def RG.bd {α : Type} (r : RG) (no : α) (k : ES → α) : α := @RG.rec (fun _ => α) no k r
theorem RG.bd_ok {α : Type} {r : RG} {no : α} {k : ES → α} {P : α → Prop} (hn : ¬ P no) (e : P (r.bd no k)) : ∃ x, r = .ok x ∧ P (k x) := by
  cases r with
  | no => exact absurd e hn
  | ok x => exact ⟨x, rfl, e⟩
abbrev IsG (z : ES) : RG → Prop := fun r => r = .ok z
theorem isNoG {z : ES} : ¬ IsG z .no := fun e => nomatch e
/-- the same but for these slots -/
structure Ag (vs : List Nat) (σ σ' : L2.St) : Prop where
  len : σ'.length = σ.length
  at_ : ∀ j, j ∉ vs → σ'[j]? = σ[j]?
theorem Ag.refl {vs : List Nat} {σ : L2.St} : Ag vs σ σ := ⟨rfl, fun _ _ => rfl⟩
theorem Ag.trans {vs : List Nat} {σ σ' σ'' : L2.St} (a : Ag vs σ σ') (b : Ag vs σ' σ'') : Ag vs σ σ'' := ⟨b.len.trans a.len, fun j hj => (b.at_ j hj).trans (a.at_ j hj)⟩
theorem wipe_get {vs : List Nat} {σ : L2.St} {j : Nat} : (wipe σ vs)[j]? = if j ∈ vs then (if j < σ.length then some none else none) else σ[j]? := by
  induction vs with
  | nil => simp [wipe]
  | cons v vs ih =>
    unfold wipe
    by_cases e : v = j
    · subst e
      rw [if_pos List.mem_cons_self]
      by_cases hl : v < σ.length
      · rw [if_pos hl, List.getElem?_set_self (by rw [wipe_length]; exact hl)]
      · rw [if_neg hl, List.getElem?_eq_none (by rw [List.length_set, wipe_length]; omega)]
    · rw [List.getElem?_set_ne e, ih]
      by_cases hm : j ∈ vs
      · rw [if_pos hm, if_pos (List.mem_cons_of_mem _ hm)]
      · rw [if_neg hm, if_neg (fun q => (List.mem_cons.mp q).elim (fun z => e z.symm) hm)]
theorem Ag.wipe {vs : List Nat} {σ σ' : L2.St} (a : Ag vs σ σ') : wipe σ' vs = wipe σ vs := by
  refine List.ext_getElem? fun j => ?_
  rw [wipe_get, wipe_get, a.len]
  by_cases hm : j ∈ vs
  · rw [if_pos hm, if_pos hm]
  · rw [if_neg hm, if_neg hm, a.at_ j hm]
def rdG (G : GA) (vs : List Nat) (g : DG) : TG := fun v σ H Q => ∃ ρ es h x es', Emb G ρ h H ∧ Slots G ρ h.n H es σ ∧ Rep G ρ h.n H x v ∧ g x es h = .ok es' ∧ ∀ σ', Slots G ρ h.n H es' σ' → Ag vs σ σ' → Q σ' H
def rdGs (G : GA) (vs : List Nat) (g : DGs) : TGs := fun v σ H Q => ∃ ρ es h x es', Emb G ρ h H ∧ Slots G ρ h.n H es σ ∧ Reps G ρ h.n H x v ∧ g x es h = .ok es' ∧ ∀ σ', Slots G ρ h.n H es' σ' → Ag vs σ σ' → Q σ' H
theorem PG.weak {e : Expr} {t t' : TG} (h : PG X e t) (w : ∀ v σ H Q, t' v σ H Q → t v σ H Q) : PG X e t' := ⟨fun pins s σ H v u Q I r q => h.run pins s σ H v u Q I r (w v σ H Q q)⟩
theorem PGs.weak {e : List Expr} {t t' : TGs} (h : PGs X e t) (w : ∀ v σ H Q, t' v σ H Q → t v σ H Q) : PGs X e t' := ⟨fun pins s σ H v u Q I r q => h.run pins s σ H v u Q I r (w v σ H Q q)⟩
theorem PG.or {e : Expr} {t t' : TG} (h : PG X e t) (h' : PG X e t') : PG X e (fun v σ H Q => t v σ H Q ∨ t' v σ H Q) := ⟨fun pins s σ H v u Q I r q => q.elim (h.run pins s σ H v u Q I r) (h'.run pins s σ H v u Q I r)⟩
def gNm (i : Nat) : DG := fun x s _ => .ok (setN s i (some x))
theorem g_nm {i : Nat} {x : Str} {vs : List Nat} (hN : X.N.Nodup) (hi : X.N[i]? = some x) (hx : Loc X.env.scope x) (hf : X.fn x = true ∨ X.env.scope.names.lookup x = some .local) (hv : i ∈ vs) : PG X (.Name x pos) (rdG G vs (gNm i)) := by
  refine PG.weak (pg_name hN hi hx hf) ?_
  rintro v σ H Q ⟨ρ, es, h, z, es', em, sl, rx, e, k⟩
  cases e
  refine k _ (by rw [setN_eq]; exact sl.set i rx) ⟨by rw [List.length_set], fun j hj => List.getElem?_set_ne fun z => hj (by rw [← z]; exact hv)⟩
def gsNil : DGs := fun xs s _ => @List.rec EV (fun _ => RG) (.ok s) (fun _ _ _ => .no) xs
def gsCons (g : DG) (r : DGs) : DGs := fun xs s h => @List.rec EV (fun _ => RG) .no (fun x t _ => (g x s h).bd .no fun s => r t s h) xs
theorem gs_nil {vs : List Nat} : PGs X [] (rdGs G vs gsNil) := by
  refine PGs.weak pgs_nil ?_
  rintro v σ H Q ⟨ρ, es, h, z, es', em, sl, rx, e, k⟩
  cases rx with
  | nil => cases e; exact ⟨rfl, k σ sl Ag.refl⟩
  | cons _ _ => cases e
theorem gs_cons {vs : List Nat} {e : Expr} {es : List Expr} {g : DG} {r : DGs} (h1 : PG X e (rdG G vs g)) (h2 : PGs X es (rdGs G vs r)) (hs : (assignEach (e :: es) X.env).map (·.2) = assign e X.env :: (assignEach es X.env).map (·.2)) :
    PGs X (e :: es) (rdGs G vs (gsCons g r)) := by
  refine PGs.weak (pgs_cons h1 h2 hs) ?_
  rintro v σ H Q ⟨ρ, es, h, z, es', em, sl, rx, e, k⟩
  cases rx with
  | nil => cases e
  | @cons x v xs vs a t =>
    obtain ⟨s1, e1, eb⟩ := RG.bd_ok (r := g x es h) (k := fun s => r xs s h) (P := IsG es') isNoG e
    exact ⟨_, _, rfl, ρ, es, h, x, s1, em, sl, a, e1, fun σ1 sl1 a1 => ⟨ρ, s1, h, xs, es', em, sl1, t, eb, fun σ2 sl2 a2 => k σ2 sl2 (a1.trans a2)⟩⟩
/-- a tuple, or a list, taken apart -/
def gTp (n : Nat) (r : DGs) : DG := fun x s h => x.cs .no (fun _ => .no) (fun _ => .no) (fun _ => .no) (fun xs => cnd (Nat.beq (lLen xs) n) (r xs s h) .no)
  (fun k => onOpt (h.get k) .no fun o => o.cs (fun xs => cnd (Nat.beq (lLen xs) n) (r xs s h) .no) (fun _ => .no) (fun _ _ => .no)) (fun _ => .no)
theorem g_tp {vs : List Nat} {es : List Expr} {kk n : Nat} {r : DGs} (hc : X.calm = true) (h : PGs X es (rdGs ⟨X.K, G.gl, G.ca⟩ vs r)) (hn : (assignEach es X.env).length = n) (hst : (assignEach es X.env).findIdx? (·.1) = none) :
    PG X (.Tuple es kk pos) (rdG ⟨X.K, G.gl, G.ca⟩ vs (gTp n r)) := by
  refine PG.weak (PG.or (pg_tup hc h hn hst) (pg_unl hc h hn hst)) ?_
  rintro v σ H Q ⟨ρ, es, h, z, es', em, sl, rx, e, k⟩
  cases z with
  | non => cases e
  | bl _ => cases e
  | int _ => cases e
  | str _ => cases e
  | glo _ => cases e
  | tup xs =>
    obtain ⟨hl, eb⟩ := cnd_ok (P := IsG es') isNoG e
    have hl := Nat.eq_of_beq_eq_true hl
    rw [lLen_eq] at hl
    cases rx with
    | tup q rs => exact .inl ⟨_, _, rfl, q, by rw [← rs.length]; exact hl, ρ, es, h, xs, es', em, sl, rs, eb, k⟩
  | ref m =>
    obtain ⟨o, g, ec⟩ := onOpt_ok (P := IsG es') isNoG e
    cases rx
    cases o with
    | lst xs =>
      obtain ⟨us, h1, rs⟩ := lst_at em g
      obtain ⟨hl, ed⟩ := cnd_ok (c := Nat.beq (lLen xs) n) (a := r xs es h) (P := IsG es') isNoG ec
      have hl := Nat.eq_of_beq_eq_true hl
      rw [lLen_eq] at hl
      exact .inr ⟨_, us, rfl, .of h1, by rw [← rs.length]; exact hl, ρ, es, h, xs, es', em, sl, rs, ed, k⟩
    | dic _ => cases ec
    | ins _ _ => cases ec

/-! ## assignments -/
def sAsg (d : DE) (g : DG) : DS := fun s h => (d s h).bd .no fun x h => (g x s h).bd .no fun s => .nx s h
theorem rd_asg {vs : List Nat} {d : DE} {g : DG} (D : Ends) (σ : L2.St) (H : Hp) (q : rdS G (sAsg d g) D σ H) : tAsg (rdE G d) (rdG G vs g) D σ H := by
  obtain ⟨ρ, es, h, em, sl, e⟩ := q
  obtain ⟨x, h1, e1, eb⟩ := R.bd_ok (P := IsK G ρ h H D) isNoK e
  obtain ⟨s1, e2, ec⟩ := RG.bd_ok (P := IsK G ρ h H D) isNoK eb
  exact ⟨ρ, es, h, x, h1, em, sl, e1, fun ρ1 v H1 l1 em1 rx => ⟨ρ1, es, h1, x, s1, em1, sl.lat l1, rx, e2, fun σ' sl' _ => ec ρ1 σ' H1 l1 em1 sl'⟩⟩
theorem s_asg {vs : List Nat} {tg e : Expr} {d : DE} {g : DG} (he : PE X e (rdE G d)) (hg : PG X tg (rdG G vs g)) (hs : swapsWithSole [tg] e pos.line X.env = pure false) (hw : swappedStores [tg] e X.env = pure none)
    (h1 : (assignEach [tg] X.env).map (·.2) = [assign tg X.env]) : PS X (.Assign [tg] e pos) (rdS G (sAsg d g)) :=
  PS.weak (ps_asg he hg hs hw h1) fun D σ H q => rd_asg D σ H q
theorem s_set {i : Nat} {x : Str} {e : Expr} {d : DE} {pos' : Pos} (hN : X.N.Nodup) (hi : X.N[i]? = some x) (hx : Loc X.env.scope x) (hf : X.fn x = true ∨ X.env.scope.names.lookup x = some .local) (he : PE X e (rdE G d)) (hs : swapsWith e (some (.Name x pos')) pos.line X.env = pure false) :
    PS X (.Assign [.Name x pos'] e pos) (rdS G (sAsg d (gNm i))) := by
  refine PS.weak (ps_set hN hi hx he hs hf) fun D σ H q => ?_
  obtain ⟨ρ, es, h, em, sl, e⟩ := q
  obtain ⟨x, h1, e1, eb⟩ := R.bd_ok (P := IsK G ρ h H D) isNoK e
  refine ⟨ρ, es, h, x, h1, em, sl, e1, fun ρ1 v H1 l1 em1 rx => eb ρ1 _ H1 l1 em1 ?_⟩
  rw [setN_eq]; exact (sl.lat l1).set i rx
/-- a, b = x, y of local names -/
def sPar (i j : Nat) (a : DA) : DS := fun s h => (a s h).bd .no fun xs h => on2 xs .no fun x y => .nx (setN (setN s i (some x)) j (some y)) h
theorem s_par {i j : Nat} {x y : Str} {a b : Expr} {d : DA} {px py pt : Pos} {kt k2 pt2} (hc : X.calm = true) (hN : X.N.Nodup) (hi : X.N[i]? = some x) (hj : X.N[j]? = some y) (hij : i ≠ j)
    (hx : X.env.scope.names.lookup x = some .local) (hy : X.env.scope.names.lookup y = some .local) (ha : PA X [a, b] (rdA G d))
    (hw : swappedStores [.Tuple [.Name x px, .Name y py] kt pt] (.Tuple [a, b] k2 pt2) X.env = pure (some [x, y]))
    (hs : swapsWithSole [.Tuple [.Name x px, .Name y py] kt pt] (.Tuple [a, b] k2 pt2) pos.line X.env = pure false) :
    PS X (.Assign [.Tuple [.Name x px, .Name y py] kt pt] (.Tuple [a, b] k2 pt2) pos) (rdS G (sPar i j d)) := by
  refine PS.weak (ps_par hc hN hi hj hij hx hy ha hw hs) fun D σ H q => ?_
  obtain ⟨ρ, es, h, em, sl, e⟩ := q
  obtain ⟨xs, h1, e1, eb⟩ := RA.bd_ok (P := IsK G ρ h H D) isNoK e
  obtain ⟨x, y, rfl, ec⟩ := on2_ok (P := IsK G ρ h H D) isNoK eb
  refine ⟨ρ, es, h, _, h1, em, sl, e1, fun ρ1 vs H1 l1 em1 rs => ?_⟩
  obtain ⟨v, w, rfl, r1, r2⟩ := rs.two
  refine ⟨v, w, rfl, ec ρ1 _ H1 l1 em1 ?_⟩
  rw [setN_eq, setN_eq]; exact ((sl.lat l1).set i r1).set j r2

/-! ## loops -/
inductive RI where
  | no | dn | it (x : EV) (h : EH)
abbrev NX := Nat → EH → RI
inductive RT where
  | no | ok (nx : NX) (h : EH)
abbrev DI := ES → EH → RT
def RI.cs {α : Type} (r : RI) (no dn : α) (k : EV → EH → α) : α := @RI.rec (fun _ => α) no dn k r
def RT.bd {α : Type} (r : RT) (no : α) (k : NX → EH → α) : α := @RT.rec (fun _ => α) no k r
theorem RT.bd_ok {α : Type} {r : RT} {no : α} {k : NX → EH → α} {P : α → Prop} (hn : ¬ P no) (e : P (r.bd no k)) : ∃ x h, r = .ok x h ∧ P (k x h) := by
  cases r with
  | no => exact absurd e hn
  | ok x h => exact ⟨x, h, rfl, e⟩
/-- what the walk yields is what nx yields -/
structure ItOk (G : GA) (J : It) (nx : NX) (ρ0 : Nat → Addr) (h0 : EH) (H0 : Hp) : Prop where
  dn : ∀ i ρ h H, Lat G ρ0 h0 H0 ρ h H → Emb G ρ h H → nx i h = .dn → J.stop i H
  it : ∀ i ρ h H x h', Lat G ρ0 h0 H0 ρ h H → Emb G ρ h H → nx i h = .it x h' → J.go i H ∧ ∀ v H', J.yld i H v H' → ∃ ρ', Lat G ρ h H ρ' h' H' ∧ Emb G ρ' h' H' ∧ Rep G ρ' h'.n H' x v
def rdI (G : GA) (d : DI) : TI := fun σ H R => ∃ ρ es h nx h', Emb G ρ h H ∧ Slots G ρ h.n H es σ ∧ d es h = .ok nx h' ∧ ∀ J ρ' H', Lat G ρ h H ρ' h' H' → Emb G ρ' h' H' → ItOk G J nx ρ' h' H' → R J H'
def forE (nx : NX) (g : DG) (b : DS) (n : Nat) : Nat → DS := @Nat.rec (fun _ => Nat → DS) (fun _ _ _ => .no) (fun _ ih i s h => (nx i h).cs .no (.nx s h) fun x h => (g x s h).bd .no fun s => (b s h).lp fun s h => frN (Nat.succ i) fun i => ih i s h) n
def sFor (it : DI) (g : DG) (b : DS) : DS := fun s h => (it s h).bd .no fun nx h => forE nx g b 1000000 0 s h
theorem s_for {tg iter : Expr} {body : List Stmt} {vs : List Nat} {it : DI} {g : DG} {db : DS} (hp : PassesOwn (model X.prog X.w) X.A X.env X.xe) (hc : X.calm = true) (hi : PI X tg iter (rdI G it)) (hg : PG X tg (rdG G vs g)) (hb : PSs X body (rdS G db))
    (hs : ∀ x, foldedSetIterable iter X.env x = pure x) : PS X (.For tg iter body [] pos) (rdS G (sFor it g db)) := by
  refine PS.weak (ps_for hp hc hi hg hb hs) ?_
  rintro D σ H ⟨ρ, es, h, em, sl, e⟩
  obtain ⟨nx, h0, e1, eb⟩ := RT.bd_ok (P := IsK G ρ h H D) isNoK e
  refine ⟨ρ, es, h, nx, h0, em, sl, e1, fun J ρ0 H0 l0 em0 ok => ?_⟩
  have k0 := KS.after (r := forE nx g db 1000000 0 es h0) eb l0
  refine ⟨fun i m σ H => ∃ ρ es h, Emb G ρ h H ∧ Slots G ρ h.n H es σ ∧ Lat G ρ0 h0 H0 ρ h H ∧ KS G ρ h H D (forE nx g db m i es h), ⟨1000000, ρ0, es, h0, em0, sl.lat l0, Lat.refl, k0⟩, ?_⟩
  rintro i m σ H ⟨ρ, es, h, em, sl, l, e⟩
  cases m with
  | zero => exact e.elim
  | succ m =>
    have e2 : KS G ρ h H D ((nx i h).cs .no (.nx es h) fun x h => (g x es h).bd .no fun s => (db s h).lp fun s h => frN (Nat.succ i) fun i => forE nx g db m i s h) := e
    cases en : nx i h with
    | no => rw [en] at e2; exact e2.elim
    | dn =>
      rw [en] at e2
      exact .inl ⟨ok.dn i ρ h H l em en, e2 ρ σ H Lat.refl em sl⟩
    | it x h1 =>
      rw [en] at e2
      obtain ⟨go, y⟩ := ok.it i ρ h H x h1 l em en
      obtain ⟨s1, eg, e2⟩ := RG.bd_ok (r := g x es h1) (k := fun s => (db s h1).lp fun s h => frN (Nat.succ i) fun i => forE nx g db m i s h) (P := IsK G ρ h H D) isNoK e2
      refine .inr ⟨go, fun σ' H' => ∃ ρ es h, Emb G ρ h H' ∧ Slots G ρ h.n H' es σ' ∧ Lat G ρ0 h0 H0 ρ h H' ∧ KS G ρ h H' D (forE nx g db m (i + 1) es h), fun σ' H' n => ⟨m, Nat.lt_succ_self m, n⟩, fun v H' yv => ?_⟩
      obtain ⟨ρ1, l1, em1, rx⟩ := y v H' yv
      refine ⟨ρ1, es, h1, x, s1, em1, sl.lat l1, rx, eg, fun σ2 sl2 _ => ⟨ρ1, s1, h1, em1, sl2, ?_⟩⟩
      refine KS.loop (kont := fun s h => frN (Nat.succ i) fun i => forE nx g db m i s h) (KS.after (r := (db s1 h1).lp fun s h => frN (Nat.succ i) fun i => forE nx g db m i s h) e2 l1) fun s h2 ρ2 σ3 H2 l2 em2 sl3 k2 => ⟨ρ2, s, h2, em2, sl3, l.trans (l1.trans l2), ?_⟩
      rw [frN_eq] at k2
      exact k2
end
end LV
end

/-! ##### _ren.lean -/
set_option Elab.async false
set_option linter.all false
set_option maxRecDepth 100000
set_option maxHeartbeats 4000000
set_option autoImplicit false
noncomputable section
namespace LV
open PySem PySem.Spec PyProof.Rows L2
open PySem.Sem (wp)

/-! ## a list or a tuple, by its kind -/
def SqK (k : Bool) (K : PySem.W.Frag) (H : Hp) (a : Addr) (xs : List V) : Prop := match k with
  | true => SqT K H a xs
  | false => SqL K H a xs
def IsSq (k : Bool) (h : Heap) (a : Addr) (its : Array Value) : Prop := match k with
  | true => h.IsTuple a its
  | false => h.IsList a its
def IsSqIt (k : Bool) (h : Heap) (it a : Addr) (i : Nat) : Prop := match k with
  | true => h.IsTupleIter it a i
  | false => h.IsListIter it a i
def sqObj (k : Bool) (a : Addr) : Obj := match k with
  | true => { cls := .type "tuple_iterator", data := .fields #[.ref a, .int 0 0] }
  | false => { cls := .type "list_iterator", data := .fields #[.ref a, .int 0 0] }
theorem draws_sq (k : Bool) {prog : Program} {w : World} {A : Around} (hh : A.handled = none) (it l : Addr) (hne : l ≠ it) (items : Array Value) :
    Draws prog w A it [it, l] items.size (fun i v => items[i]? = some v) (fun i h => IsSqIt k h it l i ∧ IsSq k h l items) := by
  cases k with
  | true => exact Draws.tuple hh it l hne items
  | false => exact Draws.list hh it l hne items
theorem begins_sq (k : Bool) (l : Addr) (items : Array Value) : Begins (.ref l) (sqObj k l) fun h => IsSq k h l items := by
  cases k with
  | true => exact begins_tuple l items
  | false => exact begins_list l items
theorem IsSqIt.get {k : Bool} {h : Heap} {it a : Addr} {i : Nat} (x : IsSqIt k h it a i) : ∃ o, h.get? it = some o ∧ ∀ v, o.data ≠ .cell v := by
  cases k with
  | true => obtain ⟨o, h1, _, h2⟩ := (show h.IsTupleIter it a i from x); exact ⟨o, h1, fun v z => by rw [h2] at z; cases z⟩
  | false => obtain ⟨o, h1, _, h2⟩ := (show h.IsListIter it a i from x); exact ⟨o, h1, fun v z => by rw [h2] at z; cases z⟩
theorem IsSqIt.lt {k : Bool} {h : Heap} {it a : Addr} {i : Nat} (x : IsSqIt k h it a i) : it < h.objs.size := let ⟨_, q, _⟩ := x.get; Heap.lt_size q
theorem IsSqIt.at {k : Bool} {h h' : Heap} {it a : Addr} {i : Nat} (x : IsSqIt k h it a i) (q : ∀ o, h.get? it = some o → h'.get? it = some o) : IsSqIt k h' it a i := by
  cases k with
  | true => exact Heap.IsTupleIter.at (show h.IsTupleIter it a i from x) q
  | false => exact Heap.IsListIter.at (show h.IsListIter it a i from x) q
theorem IsSqIt.made {k : Bool} {h : Heap} {it a : Addr} (q : h.get? it = some (sqObj k a)) : IsSqIt k h it a 0 := by
  cases k with
  | true => exact ⟨_, q, rfl, rfl⟩
  | false => exact ⟨_, q, rfl, rfl⟩
section
variable {X : Cx} {pins : List (Addr × Obj)} {σ : L2.St} {H : Hp} {s : Shared} {a : Addr} {xs ys : List V} {k : Bool}
theorem Inv.sq (I : Inv X pins σ H s) (h : SqK k X.K H a xs) : ∃ its : List Value, Vals xs its ∧ IsSq k s.heap a its.toArray ∧ a < s.heap.objs.size := by
  cases k with
  | true => obtain ⟨its, h1, h2, _⟩ := I.tuple (show SqT X.K H a xs from h); exact ⟨its, h1, h2, let ⟨_, q, _⟩ := h2; Heap.lt_size q⟩
  | false => obtain ⟨its, h1, h2, _⟩ := I.list (show SqL X.K H a xs from h); exact ⟨its, h1, h2.isList, h2.lt⟩
theorem Inv.sq_inj (I : Inv X pins σ H s) (h : SqK k X.K H a xs) (h' : SqK k X.K H a ys) : xs = ys := by
  cases k with
  | true => exact I.tuple_inj (show SqT X.K H a xs from h) h'
  | false => exact I.list_inj (show SqL X.K H a xs from h) h'
end

/-! ### enumerate -/
def IteK (k : Bool) (K : PySem.W.Frag) (a : Addr) : It :=
  ⟨fun i H => ∃ (xs : List V) (x : V), SqK k K H a xs ∧ xs[i]? = some x, fun i H v H' => ∃ T x, v = .ref T ∧ H T = none ∧ H' = upd H T (.tup [.int (i : Nat), x]) ∧ ∀ xs, SqK k K H a xs → xs[i]? = some x, fun i H => ∃ xs : List V, SqK k K H a xs ∧ xs.length = i⟩
theorem turn_enumK (k : Bool) {P : Program} {w : World} {K : PySem.W.Frag} {elts : List Expr} {kk : Nat} {tpos : Pos} (a e it : Addr) (hea : e ≠ a) (hai : a ≠ it) :
    Turn P w K (.Tuple elts kk tpos) (IteK k K a) [e, it] e (fun i h => (∃ old, IsEnum h e it ((i : Nat) : Int) old) ∧ IsSqIt k h it a i ∧ e ≠ it) where
  mem := by simp
  obj := fun i h st b hb => by
    obtain ⟨⟨old, he⟩, hi, _⟩ := st
    have e' : b = e ∨ b = it := by simpa using hb
    rcases e' with z | z
    · rw [z]; exact ⟨_, he, fun v q => nomatch q⟩
    · rw [z]; exact hi.get
  keep := fun i h h' st k => let ⟨⟨old, he⟩, hi, hne⟩ := st; ⟨⟨old, k e (by simp) _ he⟩, hi.at fun o q => k it (by simp) o q, hne⟩
  item := by
    intro X hP hw hK hc i pins s σ H E I hf st hg
    subst hP hw hK
    obtain ⟨⟨old, he⟩, hit, hne⟩ := st
    obtain ⟨xs, x, hq, hx⟩ := hg
    obtain ⟨its, rv, p, _⟩ := Inv.sq I hq
    have hel : e < s.heap.objs.size := Heap.lt_size he
    have hil : it < s.heap.objs.size := hit.lt
    have hlt : i < its.toArray.size := by
      have h1 := (List.getElem?_eq_some_iff.mp hx).1
      have h2 := rv.length
      simp; omega
    refine wpAny_pyNext_enum_itemD (draws_sq k (A := X.A.in1) (I.ok.hd hc) it a hai its.toArray) he ⟨hit, p⟩ hlt hne (by simp [hne, hea]) fun u h' tk hu ho hst' hT hsz hk => ?_
    have hu : its[i]? = some u := by simpa using hu
    obtain ⟨u', hu', ru⟩ := rv.get hx
    rw [hu] at hu'; cases hu'
    refine ⟨_, rfl, wpAny_letOwnedTupleGo_enum (s := { s with heap := h', toks := tk + 1 }) ho fun h'' he' sb => ?_⟩
    have hT2 : h''.get? s.heap.objs.size = some { cls := .type "tuple", data := .seq #[.int i tk, u] } := (sb.2 _ (Nat.ne_of_gt hel)).trans hT
    have new : ObjOk X.prog X.w (upd H s.heap.objs.size (.tup [.int (i : Nat), x])) h'' s.heap.objs.size (.tup [.int (i : Nat), x]) :=
      ⟨by show 2 ≤ sizeLine; decide, [.int i tk, u], .cons ⟨_, rfl⟩ (.cons ru .nil), ⟨_, hT2, rfl, _, rfl⟩⟩
    have I1 : Inv X pins σ (upd H s.heap.objs.size (.tup [.int (i : Nat), x])) { s with heap := h'', toks := tk + 1 } :=
      I.turnedNew (ch := [e, it]) (fun b ob hb q => (sb.2 b (fun z => hb (by simp [z]))).trans (hk b ob (fun z => hb (by simp [z])) (fun z => hb (by simp [z])) q)) hf (Nat.le_refl _) new
    refine ⟨.ref s.heap.objs.size, _, I1, rfl, ⟨_, x, rfl, I.hok.fresh (Nat.le_refl _), rfl, fun ys hy => by rw [Inv.sq_inj I hy hq]; exact hx⟩, ⟨⟨u, ?_⟩, hst'.1.at fun o q => (sb.2 it (Ne.symm hne)).trans q, hne⟩, fun b hb => ?_⟩
    · have e1 : ((i + 1 : Nat) : Int) = (i : Int) + 1 := by omega
      rw [e1]; exact he'
    · have hb' : b < s.heap.objs.size := by
        have e' : b = e ∨ b = it := by simpa using hb
        rcases e' with z | z
        · rw [z]; exact hel
        · rw [z]; exact hil
      rw [upd_ne (Nat.ne_of_lt hb')]
      exact (hf b hb).1
  done := by
    intro X hP hw hK hc i pins s σ H E I hf st hg
    subst hP hw hK
    obtain ⟨⟨old, he⟩, hit, hne⟩ := st
    obtain ⟨xs, hq, hx⟩ := hg
    obtain ⟨its, rv, p, _⟩ := Inv.sq I hq
    obtain ⟨f0, f1, f2, f3, f4, f5⟩ := hf it (by simp)
    have hl : i = its.toArray.size := by have := rv.length; simp; omega
    exact wpAny_pyNext_enum_endD (draws_sq k (A := X.A.in1) (I.ok.hd hc) it a hai its.toArray) he (by rw [← hl]; exact ⟨hit, p⟩) fun h' eb => ⟨rfl, I.turned (t' := s.toks) (fun b o hb q => eb b o hb q) f0 f1 f3 f4 f5⟩
  self := fun A i s Q E st h => let ⟨⟨_, he⟩, _⟩ := st; wpAny_pyIter_enum he h
set_option maxHeartbeats 4000000 in
theorem meets_enumerate_newB1 {v : Value} {o : Obj} {H : Heap → Prop} (B : Begins v o H) :
    Meets (Builtin.«enumerate.__new__» ⟨[.type "enumerate", v], []⟩) (fun _ R s => H s.heap ∧
      R (.ok (.ret (.ref (s.heap.push o).objs.size))) { s with heap := (s.heap.push o).push { cls := .type "enumerate", data := .fields #[.none, .bool false, .ref s.heap.objs.size, rawInt 0, .none, .none] } }) :=
  .of_wp fun prog w A R s h => by
    obtain ⟨hp, g, d, tk, os⟩ := s; obtain ⟨h1, h⟩ := h
    have hsub := sub_enumerate
    have q1 : ∀ {A' : Around} {E : Value → Shared → Prop} {Q : Value → Shared → Prop}, Q (.ref hp.objs.size) ⟨hp.push o, g, d, tk, os⟩ → wpAny (model prog w) A' (pyIter v) Q E ⟨hp, g, d, tk, os⟩ :=
      fun q => B.iter prog w _ _ ⟨hp, g, d, tk, os⟩ _ h1 q
    wp_walk using q1
    refine wpAny_stack_any fun st => wpAny_pure ?_
    split
    · rename_i c _ _ _ _ _
      cases (c == Value.type "enumerate")
      · wp_walk using q1
        exact ⟨_, rfl, h⟩
      · wp_walk using q1
        exact ⟨_, rfl, h⟩
    · wp_walk using q1
      exact ⟨_, rfl, h⟩
theorem enum_begins1 {prog : Program} {w : World} {A : Around} {E : Value → Shared → Prop} {s : Shared} {v : Value} {o : Obj} {H : Heap → Prop} {Q : Value → Shared → Prop} (B : Begins v o H) (h1 : H s.heap)
    (h : ∀ h', IsEnum h' (s.heap.objs.size + 1) s.heap.objs.size 0 .none → h'.get? s.heap.objs.size = some o → h'.objs.size = s.heap.objs.size + 2 →
      (∀ b o, s.heap.get? b = some o → h'.get? b = some o) → Q (.ref (s.heap.objs.size + 1)) { s with heap := h' }) :
    wpAny (model prog w) A (call (.type "enumerate") [v]) Q E s := by
  refine callType_new F.called_enumerate (by decide) (F.typeCall_enumerate_1 _) (F.newCall_enumerate_1 _) (fun obj => F.args_object_init_2 obj _) F.entry_enumerate_new
    (meets_enumerate_newB1 B) ⟨h1, ?_⟩
  have hz : (s.heap.push o).objs.size = s.heap.objs.size + 1 := Heap.size_push ..
  show _ ∧ _
  rw [hz]
  have he : IsEnum ((s.heap.push o).push { cls := .type "enumerate", data := .fields #[.none, .bool false, .ref s.heap.objs.size, rawInt 0, .none, .none] }) (s.heap.objs.size + 1) s.heap.objs.size 0 .none := by
    have := Heap.get?_push_size (s.heap.push o) (o := { cls := .type "enumerate", data := .fields #[.none, .bool false, .ref s.heap.objs.size, rawInt 0, .none, .none] }) rfl
    rw [hz] at this; exact this
  refine ⟨⟨_, he, rfl⟩, h _ he (Heap.get?_push_of_some _ (Heap.get?_push_size _ B.free)) (by rw [Heap.size_push, hz]) fun b o x => Heap.get?_push_of_some _ (Heap.get?_push_of_some _ x)⟩
def iEnumK (K : PySem.W.Frag) (ta : TA) : TI := fun σ H R => ta σ H fun vs H1 => ∃ (a : Addr) (k : Bool) (xs : List V), vs = [.ref a] ∧ SqK k K H1 a xs ∧ R (IteK k K a) H1
theorem pi_enumK {X : Cx} {e : Expr} {ta : TA} {p pos tpos : Pos} {elts : List Expr} {kk : Nat} (hg : Gl X "enumerate") (hm : X.mg "enumerate" = none) (ha : PA X [e] ta) (hs : starEach [e] X.env = [(false, eval e X.env)]) :
    PI X (.Tuple elts kk tpos) (.Call (.Name "enumerate" p) [e] [] pos) (iEnumK X.K ta) := by
  refine ⟨fun pins s σ H R I h => ?_⟩
  refine Call_ (ld_blt I hg hm boot_enumerate (PyProof.Rows.callWith_type1 (thn (ha.run pos pins s σ H _ I h) fun us s1 ⟨vs, H1, I1, r1, q1⟩ => ?_) hs rfl))
  obtain ⟨a, k, xs, ex, hq, q⟩ := q1
  subst ex
  cases r1 with
  | cons r rr =>
    cases rr
    cases r
    obtain ⟨its, rv, p', hlt⟩ := Inv.sq I1 hq
    refine enum_begins1 (begins_sq k a its.toArray) p' fun h' he hit hsz hk => wpAny_pyIter_enum he ?_
    have I2 : Inv X pins σ H1 { s1 with heap := h' } := I1.kept (t' := s1.toks) hk
    refine ⟨s1.heap.objs.size + 1, [s1.heap.objs.size + 1, s1.heap.objs.size], _, _, H1, rfl, I2, turn_enumK k a (s1.heap.objs.size + 1) s1.heap.objs.size (Nat.ne_of_gt (Nat.lt_succ_of_lt hlt)) (Nat.ne_of_lt hlt), ⟨⟨.none, he⟩, IsSqIt.made hit, Nat.succ_ne_self _⟩, fun b hb => ?_, q⟩
    have e' : b = s1.heap.objs.size + 1 ∨ b = s1.heap.objs.size := by simpa using hb
    have hle : s1.heap.objs.size ≤ b := by
      rcases e' with z | z
      · rw [z]; exact Nat.le_add_right _ _
      · rw [z]; exact Nat.le_refl _
    exact I1.fpOk hle (I1.hok.fresh hle)

/-! ### zip of two -/
def ItzK (k l : Bool) (K : PySem.W.Frag) (a b : Addr) : It :=
  ⟨fun i H => ∃ (xs ys : List V) (x y : V), SqK k K H a xs ∧ SqK l K H b ys ∧ xs[i]? = some x ∧ ys[i]? = some y,
    fun i H v H' => ∃ T x y, v = .ref T ∧ H T = none ∧ H' = upd H T (.tup [x, y]) ∧ (∀ xs, SqK k K H a xs → xs[i]? = some x) ∧ ∀ ys, SqK l K H b ys → ys[i]? = some y,
    fun i H => ∃ xs ys : List V, SqK k K H a xs ∧ SqK l K H b ys ∧ i ≤ xs.length ∧ i ≤ ys.length ∧ (i = xs.length ∨ i = ys.length)⟩
theorem turn_zipK (k l : Bool) {P : Program} {w : World} {K : PySem.W.Frag} {elts : List Expr} {kk : Nat} {tpos : Pos} {a b z TI TO i1 i2 : Addr} (D : ZipSep2 z TI TO i1 i2 [i1, a] [i2, b]) (ha : a ≠ i1) (hb : b ≠ i2) :
    Turn P w K (.Tuple elts kk tpos) (ItzK k l K a b) [z, TI, TO, i1, i2] z (fun i h => IsZip h z TI TO .none ∧ IsTupOf2 h TI (.ref i1) (.ref i2) ∧ (∃ x y, IsTupOf2 h TO x y) ∧ IsSqIt k h i1 a i ∧ IsSqIt l h i2 b i) where
  mem := by simp
  obj := fun i h st c hc => by
    obtain ⟨hz, hTI, ⟨x, y, hTO⟩, h1, h2⟩ := st
    have e' : c = z ∨ c = TI ∨ c = TO ∨ c = i1 ∨ c = i2 := by simpa using hc
    rcases e' with q | q | q | q | q
    · rw [q]; exact ⟨_, hz, fun v q => nomatch q⟩
    · rw [q]; exact ⟨_, hTI, fun v q => nomatch q⟩
    · rw [q]; exact ⟨_, hTO, fun v q => nomatch q⟩
    · rw [q]; exact h1.get
    · rw [q]; exact h2.get
  keep := fun i h h' st k => by
    obtain ⟨hz, hTI, ⟨x, y, hTO⟩, h1, h2⟩ := st
    exact ⟨k z (by simp) _ hz, k TI (by simp) _ hTI, ⟨x, y, k TO (by simp) _ hTO⟩, h1.at fun o q => k i1 (by simp) o q, h2.at fun o q => k i2 (by simp) o q⟩
  item := by
    intro X hP hw hK hc i pins s σ H E I hf st hg
    subst hP hw hK
    obtain ⟨hz, hTI, ⟨x0, y0, hTO⟩, h1, h2⟩ := st
    obtain ⟨xs, ys, x, y, hqx, hqy, hx, hy⟩ := hg
    obtain ⟨its, rv, p, _⟩ := Inv.sq I hqx
    obtain ⟨its2, rv2, p2, _⟩ := Inv.sq I hqy
    have lt1 : i < its.toArray.size := by
      have h1 := (List.getElem?_eq_some_iff.mp hx).1
      have h2 := rv.length
      simp; omega
    have lt2 : i < its2.toArray.size := by
      have h1 := (List.getElem?_eq_some_iff.mp hy).1
      have h2 := rv2.length
      simp; omega
    have hzl : z < s.heap.objs.size := Heap.lt_size hz
    refine wpAny_pyNext_zipD2_item D (draws_sq k (A := X.A.in1) (I.ok.hd hc) i1 a ha its.toArray) (draws_sq l (A := X.A.in1) (I.ok.hd hc) i2 b hb its2.toArray) hz hTI hTO ⟨h1, p⟩ ⟨h2, p2⟩ lt1 lt2 fun u u2 h' tk hu hu2 z' TO' st1 st2 hT hsz hk => ?_
    have hu : its[i]? = some u := by simpa using hu
    obtain ⟨u', hu', ru⟩ := rv.get hx
    rw [hu] at hu'; cases hu'
    have hu2 : its2[i]? = some u2 := by simpa using hu2
    obtain ⟨u', hu', ru2⟩ := rv2.get hy
    rw [hu2] at hu'; cases hu'
    refine ⟨_, rfl, wpAny_letOwnedTupleGo_zip (s := { s with heap := h', toks := tk }) z' fun h'' z'' sb => ?_⟩
    have hT2 : h''.get? s.heap.objs.size = some { cls := .type "tuple", data := .seq #[u, u2] } := (sb.2 _ (Nat.ne_of_gt hzl)).trans hT
    have new : ObjOk X.prog X.w (upd H s.heap.objs.size (.tup [x, y])) h'' s.heap.objs.size (.tup [x, y]) :=
      ⟨by show 2 ≤ sizeLine; decide, [u, u2], .cons ru (.cons ru2 .nil), ⟨_, hT2, rfl, _, rfl⟩⟩
    have I1 : Inv X pins σ (upd H s.heap.objs.size (.tup [x, y])) { s with heap := h'', toks := tk } :=
      I.turnedNew (t' := tk) (ch := [z, TI, TO, i1, i2]) (fun c o hb q => (sb.2 c (fun q' => hb (by simp [q']))).trans (hk c o (fun q' => hb (by simp [q'])) (fun q' => hb (by simp [q'])) (fun q' => hb (by simp [q'])) (fun q' => hb (by simp [q'])) q)) hf (Nat.le_refl _) new
    refine ⟨.ref s.heap.objs.size, _, I1, rfl, ⟨_, x, y, rfl, I.hok.fresh (Nat.le_refl _), rfl, fun l hl => by rw [Inv.sq_inj I hl hqx]; exact hx, fun l hl => by rw [Inv.sq_inj I hl hqy]; exact hy⟩, ⟨z'', ?_, ⟨u, u2, ?_⟩, ?_, ?_⟩, fun c hcm => ?_⟩
    · exact (sb.2 _ D.TIz).trans (hk _ _ D.TIz D.TITO D.TIi1 D.TIi2 hTI)
    · exact (sb.2 _ D.TOz).trans TO'
    · exact st1.1.at fun o q => (sb.2 _ (Ne.symm D.zi1)).trans q
    · exact st2.1.at fun o q => (sb.2 _ (Ne.symm D.zi2)).trans q
    · have hlt : c < s.heap.objs.size := by
        have e' : c = z ∨ c = TI ∨ c = TO ∨ c = i1 ∨ c = i2 := by simpa using hcm
        rcases e' with q | q | q | q | q
        · rw [q]; exact hzl
        · rw [q]; exact Heap.lt_size hTI
        · rw [q]; exact Heap.lt_size hTO
        · rw [q]; exact h1.lt
        · rw [q]; exact h2.lt
      rw [upd_ne (Nat.ne_of_lt hlt)]
      exact (hf c hcm).1
  done := by
    intro X hP hw hK hc i pins s σ H E I hf st hg
    subst hP hw hK
    obtain ⟨hz, hTI, ⟨x0, y0, hTO⟩, h1, h2⟩ := st
    obtain ⟨xs, ys, hqx, hqy, le1, le2, hend⟩ := hg
    obtain ⟨its, rv, p, _⟩ := Inv.sq I hqx
    obtain ⟨its2, rv2, p2, _⟩ := Inv.sq I hqy
    have l1 := rv.length
    have l2 := rv2.length
    refine wpAny_pyNext_zipD2_end D (draws_sq k (A := X.A.in1) (I.ok.hd hc) i1 a ha its.toArray) (draws_sq l (A := X.A.in1) (I.ok.hd hc) i2 b hb its2.toArray) hz hTI hTO ⟨h1, p⟩ ⟨h2, p2⟩ (by simp; omega) (by simp; omega) (by simp; omega) fun h' tk hk => ⟨rfl, I.turnedL (t' := tk) (ch := [z, TI, TO, i1, i2]) (fun c o hb q =>
      hk c o (fun q' => hb (by simp [q'])) (fun q' => hb (by simp [q'])) (fun q' => hb (by simp [q'])) (fun q' => hb (by simp [q'])) q) hf⟩
  self := fun A i s Q E st h => wpAny_pyIter_zip st.1 h
def iZipK (K : PySem.W.Frag) (ta : TA) : TI := fun σ H R => ta σ H fun vs H1 => ∃ (a b : Addr) (k l : Bool) (xs ys : List V), vs = [.ref a, .ref b] ∧ SqK k K H1 a xs ∧ SqK l K H1 b ys ∧ R (ItzK k l K a b) H1
theorem pi_zipK {X : Cx} {e e2 : Expr} {ta : TA} {p pos tpos : Pos} {elts : List Expr} {kk : Nat} (hg : Gl X "zip") (hm : X.mg "zip" = none) (ha : PA X [e, e2] ta)
    (hs : starEach [e, e2] X.env = (false, eval e X.env) :: starEach [e2] X.env) (hpl : (backTo pos (starEach [e2] X.env)).any (·.1) = false) :
    PI X (.Tuple elts kk tpos) (.Call (.Name "zip" p) [e, e2] [] pos) (iZipK X.K ta) := by
  refine ⟨fun pins s σ H R I h => ?_⟩
  refine Call_ (ld_blt I hg hm PyProof.Rows.boot_zip (PyProof.Rows.callWith_type1 (thn (ha.run pos pins s σ H _ I h) fun us s1 ⟨vs, H1, I1, r1, q1⟩ => ?_) hs hpl))
  obtain ⟨a, b, k, l, xs, ys, ex, hqx, hqy, q⟩ := q1
  subst ex
  cases r1 with
  | cons r rr =>
    cases rr with
    | cons r' rr =>
      cases rr
      cases r
      cases r'
      have fresh5 : ∀ c, c ∈ [s1.heap.objs.size + 4, s1.heap.objs.size + 2, s1.heap.objs.size + 3, s1.heap.objs.size, s1.heap.objs.size + 1] → FpOk X pins H1 c := fun c hcm => by
        have e' : c = s1.heap.objs.size + 4 ∨ c = s1.heap.objs.size + 2 ∨ c = s1.heap.objs.size + 3 ∨ c = s1.heap.objs.size ∨ c = s1.heap.objs.size + 1 := by simpa using hcm
        have hle : s1.heap.objs.size ≤ c := by
          rcases e' with z | z | z | z | z
          · rw [z]; exact Nat.le_add_right _ _
          · rw [z]; exact Nat.le_add_right _ _
          · rw [z]; exact Nat.le_add_right _ _
          · rw [z]; exact Nat.le_refl _
          · rw [z]; exact Nat.le_add_right _ _
        exact I1.fpOk hle (I1.hok.fresh hle)
      obtain ⟨its, rv, p1, la⟩ := Inv.sq I1 hqx
      obtain ⟨its2, rv2, p2, lb⟩ := Inv.sq I1 hqy
      refine zip_begins2 (begins_sq k a its.toArray) (begins_sq l b its2.toArray) p1 p2 fun h' hz hTI hTO h1 h2 hsz hk => wpAny_pyIter_zip hz ?_
      have I2 : Inv X pins σ H1 { s1 with heap := h' } := I1.kept (t' := s1.toks) hk
      exact ⟨s1.heap.objs.size + 4, [s1.heap.objs.size + 4, s1.heap.objs.size + 2, s1.heap.objs.size + 3, s1.heap.objs.size, s1.heap.objs.size + 1], _, _, H1, rfl, I2,
        turn_zipK k l (zip_sep2 (N := s1.heap.objs.size) (fp1 := [a]) (fp2 := [b]) (by simpa using la) (by simpa using lb)) (Nat.ne_of_lt la) (Nat.ne_of_lt (Nat.lt_succ_of_lt lb)), ⟨hz, hTI, ⟨_, _, hTO⟩, IsSqIt.made h1, IsSqIt.made h2⟩, fresh5, q⟩
end LV
end

/-! ##### _ren.lean -/
set_option Elab.async false
set_option linter.all false
set_option maxRecDepth 100000
set_option maxHeartbeats 4000000
set_option autoImplicit false
noncomputable section
namespace LV
open PySem PySem.Spec PyProof.Rows L2

/-! ## what is walked -/
def seqE (h : EH) (x : EV) : Option (List EV) := x.cs none (fun _ => none) (fun _ => none) (fun _ => none) (fun xs => some xs)
  (fun n => onOpt (h.get n) none fun o => o.cs (fun xs => some xs) (fun _ => none) (fun _ _ => none)) (fun _ => none)
def kE (x : EV) : Bool := onTup x false fun _ => true
section
variable {G : GA} {X : Cx} {pos : Pos} {ρ ρ' : Nat → Addr} {h h' : EH} {H H' : Hp}
theorem seq_at {x : EV} {v : V} {xs : List EV} (em : Emb G ρ h H) (r : Rep G ρ h.n H x v) (e : seqE h x = some xs) : ∃ a vs, v = .ref a ∧ SqK (kE x) G.K H a vs ∧ Reps G ρ h.n H xs vs := by
  cases x with
  | non => cases e
  | bl _ => cases e
  | int _ => cases e
  | str _ => cases e
  | glo _ => cases e
  | tup ys =>
    cases e
    cases r with
    | tup q rs => exact ⟨_, _, rfl, q, rs⟩
  | ref n =>
    obtain ⟨o, g, eb⟩ := onOpt_ok (P := fun z => z = some xs) (by simp) e
    cases r
    cases o with
    | lst ys =>
      cases eb
      obtain ⟨vs, h1, rs⟩ := lst_at em g
      exact ⟨_, vs, rfl, .of h1, rs⟩
    | dic _ => cases eb
    | ins _ _ => cases eb
def ItsK (k : Bool) (K : PySem.W.Frag) (a : Addr) : It := match k with
  | true => Itt K a
  | false => Itl K a
theorem its_go {k : Bool} {K : PySem.W.Frag} {a : Addr} {i : Nat} {vs : List V} {v : V} (q : SqK k K H a vs) (e : vs[i]? = some v) : (ItsK k K a).go i H := by
  cases k
  · exact ⟨vs, v, q, e⟩
  · exact ⟨vs, v, q, e⟩
theorem its_stop {k : Bool} {K : PySem.W.Frag} {a : Addr} {i : Nat} {vs : List V} (q : SqK k K H a vs) (e : vs.length ≤ i) : (ItsK k K a).stop i H := by
  cases k
  · exact ⟨vs, q, e⟩
  · exact ⟨vs, q, e⟩
theorem its_yld {k : Bool} {K : PySem.W.Frag} {a : Addr} {i : Nat} {v : V} (y : (ItsK k K a).yld i H v H') : H' = H ∧ ∀ xs, SqK k K H a xs → xs[i]? = some v := by
  cases k
  · exact y
  · exact y
def iSqV (K : PySem.W.Frag) (tl : TE) : TI := fun σ H R => tl σ H fun x H1 => ∃ (a : Addr) (k : Bool), x = .ref a ∧ (∃ xs, SqK k K H1 a xs) ∧ R (ItsK k K a) H1
theorem pi_sq {tg l : Expr} {tl : TE} (hl : PE X l tl) : PI X tg l (iSqV X.K tl) := by
  refine ⟨fun pins s σ H R I h => ?_⟩
  refine thn (hl.run pins s σ H _ I h) fun v s1 ⟨x, H1, I1, r1, q1⟩ => ?_
  obtain ⟨a, k, e, ⟨xs, hq⟩, q⟩ := q1
  subst e
  cases r1
  cases k with
  | false =>
    obtain ⟨its, rv, p, hz⟩ := I1.list hq
    refine wpAny_pyIter_list p.isList ?_
    refine ⟨s1.heap.objs.size, [s1.heap.objs.size], _, _, H1, rfl, I1.kept (t' := s1.toks) fun b o e => Heap.get?_push_of_some _ e, turn_list a _, ⟨_, Heap.get?_push_size _ rfl, rfl, rfl⟩, fun b hb => ?_, q⟩
    have e : b = s1.heap.objs.size := by simpa using hb
    subst e
    exact I1.fpOk (Nat.le_refl _) (I1.hok.fresh (Nat.le_refl _))
  | true =>
    obtain ⟨its, rv, p, hz⟩ := I1.tuple hq
    refine wpAny_pyIter_tuple (show s1.heap.IsTuple a its.toArray from p) ?_
    refine ⟨s1.heap.objs.size, [s1.heap.objs.size], _, _, H1, rfl, I1.kept (t' := s1.toks) fun b o e => Heap.get?_push_of_some _ e, turn_tuple a _, ⟨_, Heap.get?_push_size _ rfl, rfl, rfl⟩, fun b hb => ?_, q⟩
    have e : b = s1.heap.objs.size := by simpa using hb
    subst e
    exact I1.fpOk (Nat.le_refl _) (I1.hok.fresh (Nat.le_refl _))
abbrev IsT (z : NX) (h' : EH) : RT → Prop := fun r => r = .ok z h'
theorem isNoT {z : NX} {h' : EH} : ¬ IsT z h' .no := fun e => nomatch e
theorem PI.weak {tg e : Expr} {t t' : TI} (h : PI X tg e t) (w : ∀ σ H R, t' σ H R → t σ H R) : PI X tg e t' := ⟨fun pins s σ H R I q => h.run pins s σ H R I (w σ H R q)⟩
def nxSq (x : EV) : NX := fun i h => onOpt (seqE h x) .no fun xs => onOpt (nth xs i) (cnd (Nat.beq (lLen xs) i) .dn .no) fun y => .it y h
def iSq (d : DE) : DI := fun s h => (d s h).bd .no fun x h => onOpt (seqE h x) .no fun _ => .ok (nxSq x) h
theorem nth_end {xs : List EV} {vs : List V} {i : Nat} (r : Reps G ρ h.n H xs vs) (e : cnd (Nat.beq (lLen xs) i) RI.dn .no = .dn) : i = vs.length := by
  cases q : Nat.beq (lLen xs) i with
  | false => rw [q] at e; cases e
  | true =>
    have := Nat.eq_of_beq_eq_true q
    rw [lLen_eq, r.length] at this
    exact this.symm
theorem onOpt_dn {α : Type} {o : Option α} {d : RI} {k : α → RI} (e : onOpt o d k = .dn) : (o = none ∧ d = .dn) ∨ ∃ y, o = some y ∧ k y = .dn := by
  cases o with
  | none => exact .inl ⟨rfl, e⟩
  | some y => exact .inr ⟨y, rfl, e⟩
theorem onOpt_it {α : Type} {o : Option α} {d : RI} {k : α → RI} {x : EV} {h : EH} (e : onOpt o d k = .it x h) : (o = none ∧ d = .it x h) ∨ ∃ y, o = some y ∧ k y = .it x h := by
  cases o with
  | none => exact .inl ⟨rfl, e⟩
  | some y => exact .inr ⟨y, rfl, e⟩
theorem cnd_it {c : Bool} {x : EV} {h : EH} : cnd c RI.dn .no ≠ .it x h := by
  cases c
  · exact fun e => nomatch e
  · exact fun e => nomatch e
theorem it_sq {x : EV} {a : Addr} {v : V} (r : Rep G ρ h.n H x v) (ev : v = .ref a) : ItOk G (ItsK (kE x) G.K a) (nxSq x) ρ h H := by
  subst ev
  refine ⟨fun i ρ1 h1 H1 l em e => ?_, fun i ρ1 h1 H1 y h2 l em e => ?_⟩
  · rcases onOpt_dn e with ⟨_, q⟩ | ⟨xs, e1, e⟩
    · cases q
    · obtain ⟨b, vs, eb, q, rs⟩ := seq_at em (r.lat l) e1
      cases eb
      rcases onOpt_dn e with ⟨e2, q2⟩ | ⟨y, e2, q2⟩
      · exact its_stop q (Nat.le_of_eq (nth_end rs q2).symm)
      · cases q2
  · rcases onOpt_it e with ⟨_, q⟩ | ⟨xs, e1, e⟩
    · cases q
    · obtain ⟨b, vs, eb, q, rs⟩ := seq_at em (r.lat l) e1
      cases eb
      rcases onOpt_it e with ⟨e2, q2⟩ | ⟨y, e2, q2⟩
      · exact absurd q2 cnd_it
      · cases q2
        rw [nth_eq] at e2
        obtain ⟨w, e3, rw'⟩ := rs.get e2
        refine ⟨its_go q e3, fun v H' y => ?_⟩
        obtain ⟨rfl, y⟩ := its_yld y
        have := y vs q
        rw [e3] at this; cases this
        exact ⟨ρ1, Lat.refl, em, rw'⟩
theorem i_sq {tg l : Expr} {d : DE} (hl : PE X l (rdE ⟨X.K, G.gl, G.ca⟩ d)) : PI X tg l (rdI ⟨X.K, G.gl, G.ca⟩ (iSq d)) := by
  refine PI.weak (pi_sq hl) ?_
  rintro σ H RR ⟨ρ, es, h, nx, h', em, sl, e, k⟩
  obtain ⟨x, h1, e1, eb⟩ := R.bd_ok (P := IsT nx h') isNoT e
  obtain ⟨xs, e2, ec⟩ := onOpt_ok (P := IsT nx h') isNoT eb
  cases ec
  refine ⟨ρ, es, h, x, _, em, sl, e1, fun ρ1 v H1 l1 em1 rx => ?_⟩
  obtain ⟨a, vs, ev, q, rs⟩ := seq_at em1 rx e2
  exact ⟨a, kE x, ev, ⟨vs, q⟩, k _ ρ1 H1 l1 em1 (it_sq rx ev)⟩
/-- ranges -/
def nxR (lo : Int) (n : Nat) : NX := fun i h => @Bool.rec (fun _ => RI) (frI (Int.add lo (.ofNat i)) fun j => .it (.int j) h) .dn (Nat.ble n i)
theorem it_rng {lo : Int} {n : Nat} : ItOk G (Itr lo n) (nxR lo n) ρ h H := by
  refine ⟨fun i ρ1 h1 H1 l em e => ?_, fun i ρ1 h1 H1 y h2 l em e => ?_⟩
  · unfold nxR at e
    rw [frI_eq] at e
    cases q : Nat.ble n i with
    | true => exact Nat.le_of_ble_eq_true q
    | false => rw [q] at e; cases e
  · unfold nxR at e
    rw [frI_eq] at e
    cases q : Nat.ble n i with
    | true => rw [q] at e; cases e
    | false =>
      rw [q] at e
      cases e
      have hlt : i < n := Nat.lt_of_not_le fun z => by rw [Nat.ble_eq_true_of_le z] at q; cases q
      refine ⟨hlt, fun v H' y => ?_⟩
      obtain ⟨rfl, rfl⟩ := y
      exact ⟨ρ1, Lat.refl, em, .int _⟩
def smI (i : Int) : Bool := cnd (iLe i 4000000000000000000) (iLe (-4000000000000000000) i) false
theorem smI_ok {i : Int} (e : smI i = true) : -(2 ^ 62) ≤ i ∧ i < 2 ^ 62 := by
  unfold smI at e
  rw [iLe_dec, iLe_dec] at e
  by_cases c : i ≤ 4000000000000000000
  · rw [decide_eq_true c] at e
    have := of_decide_eq_true e
    omega
  · rw [decide_eq_false c] at e; cases e
def toN (i : Int) : Nat := @Int.rec (fun _ => Nat) (fun n => n) (fun _ => 0) i
theorem toN_eq (i : Int) : toN i = i.toNat := by cases i <;> rfl
def iRg1 (d : DA) : DI := fun s h => (d s h).bd .no fun xs h => on1 xs .no fun x => onInt x .no fun j => cnd (smI j) (.ok (nxR (.ofNat 0) (toN j)) h) .no
theorem i_rg1 {tg a : Expr} {d : DA} {p : Pos} (hg : Gl X "range") (hm : X.mg "range" = none) (ha : PA X [a] (rdA G d)) (hs : starEach [a] X.env = [(false, eval a X.env)]) : PI X tg (.Call (.Name "range" p) [a] [] pos) (rdI G (iRg1 d)) := by
  refine PI.weak (pi_range1 hg hm ha hs) ?_
  rintro σ H RR ⟨ρ, es, h, nx, h', em, sl, e, k⟩
  obtain ⟨xs, h1, e1, eb⟩ := RA.bd_ok (P := IsT nx h') isNoT e
  obtain ⟨x, rfl, ec⟩ := on1_ok (P := IsT nx h') isNoT eb
  obtain ⟨j, rfl, ed⟩ := onInt_ok (P := IsT nx h') isNoT ec
  obtain ⟨hs, ee⟩ := cnd_ok (P := IsT nx h') isNoT ed
  cases ee
  refine ⟨ρ, es, h, _, _, em, sl, e1, fun ρ1 vs H1 l1 em1 rs => ?_⟩
  obtain ⟨v, rfl, r⟩ := rs.one
  cases r
  obtain ⟨b1, b2⟩ := smI_ok hs
  refine ⟨j, rfl, b1, b2, k _ ρ1 H1 l1 em1 ?_⟩
  rw [toN_eq]
  exact it_rng
def iRg2 (d : DA) : DI := fun s h => (d s h).bd .no fun xs h => on2 xs .no fun x y => onInt x .no fun i => onInt y .no fun j => cnd (smI i) (cnd (smI j) (.ok (nxR i (toN (Int.sub j i))) h) .no) .no
theorem i_rg2 {tg a b : Expr} {d : DA} {p : Pos} (hg : Gl X "range") (hm : X.mg "range" = none) (ha : PA X [a, b] (rdA G d)) (hs : starEach [a, b] X.env = [(false, eval a X.env), (false, eval b X.env)]) (hs2 : starEach [b] X.env = [(false, eval b X.env)]) :
    PI X tg (.Call (.Name "range" p) [a, b] [] pos) (rdI G (iRg2 d)) := by
  refine PI.weak (pi_range2 hg hm ha hs hs2) ?_
  rintro σ H RR ⟨ρ, es, h, nx, h', em, sl, e, k⟩
  obtain ⟨xs, h1, e1, eb⟩ := RA.bd_ok (P := IsT nx h') isNoT e
  obtain ⟨x, y, rfl, ec⟩ := on2_ok (P := IsT nx h') isNoT eb
  obtain ⟨i, rfl, ed⟩ := onInt_ok (P := IsT nx h') isNoT ec
  obtain ⟨j, rfl, ee⟩ := onInt_ok (P := IsT nx h') isNoT ed
  obtain ⟨hs, ef⟩ := cnd_ok (P := IsT nx h') isNoT ee
  obtain ⟨hs2, eg⟩ := cnd_ok (P := IsT nx h') isNoT ef
  cases eg
  refine ⟨ρ, es, h, _, _, em, sl, e1, fun ρ1 vs H1 l1 em1 rs => ?_⟩
  obtain ⟨v, w, rfl, r, r2⟩ := rs.two
  cases r; cases r2
  obtain ⟨b1, b2⟩ := smI_ok hs
  obtain ⟨b3, b4⟩ := smI_ok hs2
  refine ⟨i, j, rfl, ⟨b1, b2, b3, b4⟩, k _ ρ1 H1 l1 em1 ?_⟩
  rw [toN_eq]
  exact it_rng
/-- enumerate, zip -/
theorem tup_new {T : Addr} {vs : List V} {xs : List EV} (em : Emb G ρ h H) (hT : H T = none) (rs : Reps G ρ h.n H xs vs) : ∃ ρ', Lat G ρ h H ρ' h (upd H T (.tup vs)) ∧ Emb G ρ' h (upd H T (.tup vs)) ∧ Rep G ρ' h.n (upd H T (.tup vs)) (.tup xs) (.ref T) :=
  ⟨ρ, Lat.side hT, em.side hT, .tup (.inl (.inl upd_same)) (rs.later (fun _ _ => rfl) (Nat.le_refl _) fun _ _ q => SqT.upd_new hT q)⟩
def nxEn (x : EV) : NX := fun i h => onOpt (seqE h x) .no fun xs => onOpt (nth xs i) (cnd (Nat.beq (lLen xs) i) .dn .no) fun y => frN i fun i => .it (.tup [.int (.ofNat i), y]) h
def iEn (d : DA) : DI := fun s h => (d s h).bd .no fun xs h => on1 xs .no fun x => onOpt (seqE h x) .no fun _ => .ok (nxEn x) h
theorem it_en {x : EV} {a : Addr} {v : V} (r : Rep G ρ h.n H x v) (ev : v = .ref a) : ItOk G (IteK (kE x) G.K a) (nxEn x) ρ h H := by
  subst ev
  refine ⟨fun i ρ1 h1 H1 l em e => ?_, fun i ρ1 h1 H1 y h2 l em e => ?_⟩
  · rcases onOpt_dn e with ⟨_, q⟩ | ⟨xs, e1, e⟩
    · cases q
    · obtain ⟨b, vs, eb, q, rs⟩ := seq_at em (r.lat l) e1
      cases eb
      rcases onOpt_dn e with ⟨e2, q2⟩ | ⟨y, e2, q2⟩
      · exact ⟨vs, q, (nth_end rs q2).symm⟩
      · rw [frN_eq] at q2; cases q2
  · rcases onOpt_it e with ⟨_, q⟩ | ⟨xs, e1, e⟩
    · cases q
    · obtain ⟨b, vs, eb, q, rs⟩ := seq_at em (r.lat l) e1
      cases eb
      rcases onOpt_it e with ⟨e2, q2⟩ | ⟨y, e2, q2⟩
      · exact absurd q2 cnd_it
      · rw [frN_eq] at q2
        cases q2
        rw [nth_eq] at e2
        obtain ⟨w, e3, rw'⟩ := rs.get e2
        refine ⟨⟨vs, w, q, e3⟩, fun v H' y => ?_⟩
        obtain ⟨T, x, rfl, hT, rfl, y⟩ := y
        have := y vs q
        rw [e3] at this; cases this
        exact tup_new em hT (.cons (.int _) (.cons rw' .nil))
theorem i_en {e : Expr} {d : DA} {p tpos : Pos} {elts : List Expr} {kk : Nat} (hg : Gl X "enumerate") (hm : X.mg "enumerate" = none) (ha : PA X [e] (rdA ⟨X.K, G.gl, G.ca⟩ d)) (hs : starEach [e] X.env = [(false, eval e X.env)]) :
    PI X (.Tuple elts kk tpos) (.Call (.Name "enumerate" p) [e] [] pos) (rdI ⟨X.K, G.gl, G.ca⟩ (iEn d)) := by
  refine PI.weak (pi_enumK hg hm ha hs) ?_
  rintro σ H RR ⟨ρ, es, h, nx, h', em, sl, e, k⟩
  obtain ⟨xs, h1, e1, eb⟩ := RA.bd_ok (P := IsT nx h') isNoT e
  obtain ⟨x, rfl, ec⟩ := on1_ok (P := IsT nx h') isNoT eb
  obtain ⟨ys, e2, ed⟩ := onOpt_ok (P := IsT nx h') isNoT ec
  cases ed
  refine ⟨ρ, es, h, _, _, em, sl, e1, fun ρ1 vs H1 l1 em1 rs => ?_⟩
  obtain ⟨v, rfl, r⟩ := rs.one
  obtain ⟨a, us, ev, q, rs⟩ := seq_at em1 r e2
  subst ev
  exact ⟨a, kE x, us, rfl, q, k _ ρ1 H1 l1 em1 (it_en r rfl)⟩
def nxZp (x y : EV) : NX := fun i h => onOpt (seqE h x) .no fun xs => onOpt (seqE h y) .no fun ys => onOpt (nth xs i) (cnd (Nat.beq (lLen xs) i) (cnd (Nat.ble i (lLen ys)) .dn .no) .no) fun a =>
  onOpt (nth ys i) (cnd (Nat.beq (lLen ys) i) .dn .no) fun b => .it (.tup [a, b]) h
def iZp (d : DA) : DI := fun s h => (d s h).bd .no fun xs h => on2 xs .no fun x y => onOpt (seqE h x) .no fun _ => onOpt (seqE h y) .no fun _ => .ok (nxZp x y) h
theorem cnd_dn {c : Bool} {r : RI} (e : cnd c r .no = .dn) : c = true ∧ r = .dn := by
  cases c with
  | true => exact ⟨rfl, e⟩
  | false => exact nomatch (show RI.no = RI.dn from e)
theorem it_zp {x y : EV} {a b : Addr} {v w : V} (r : Rep G ρ h.n H x v) (r2 : Rep G ρ h.n H y w) (ev : v = .ref a) (ew : w = .ref b) : ItOk G (ItzK (kE x) (kE y) G.K a b) (nxZp x y) ρ h H := by
  subst ev ew
  refine ⟨fun i ρ1 h1 H1 l em e => ?_, fun i ρ1 h1 H1 z h2 l em e => ?_⟩
  · rcases onOpt_dn e with ⟨_, q⟩ | ⟨xs, e1, e⟩
    · cases q
    rcases onOpt_dn e with ⟨_, q⟩ | ⟨ys, e2, e⟩
    · cases q
    obtain ⟨a', vs, eb, q, rs⟩ := seq_at em (r.lat l) e1
    cases eb
    obtain ⟨b', ws, eb, q2, rs2⟩ := seq_at em (r2.lat l) e2
    cases eb
    rcases onOpt_dn e with ⟨e3, q3⟩ | ⟨y1, e3, q3⟩
    · obtain ⟨c1, q4⟩ := cnd_dn q3
      obtain ⟨c2, q5⟩ := cnd_dn q4
      have c1 := Nat.eq_of_beq_eq_true c1
      have c2 := Nat.le_of_ble_eq_true c2
      rw [lLen_eq] at c1 c2
      rw [rs.length] at c1
      rw [rs2.length] at c2
      exact ⟨vs, ws, q, q2, by omega, c2, .inl c1.symm⟩
    · rcases onOpt_dn q3 with ⟨e4, q4⟩ | ⟨y2, e4, q4⟩
      · have c2 := nth_end rs2 q4
        rw [nth_eq] at e3
        have c1 := (List.getElem?_eq_some_iff.mp e3).1
        rw [rs.length] at c1
        exact ⟨vs, ws, q, q2, by omega, by omega, .inr c2⟩
      · cases q4
  · rcases onOpt_it e with ⟨_, q⟩ | ⟨xs, e1, e⟩
    · cases q
    rcases onOpt_it e with ⟨_, q⟩ | ⟨ys, e2, e⟩
    · cases q
    obtain ⟨a', vs, eb, q, rs⟩ := seq_at em (r.lat l) e1
    cases eb
    obtain ⟨b', ws, eb, q2, rs2⟩ := seq_at em (r2.lat l) e2
    cases eb
    rcases onOpt_it e with ⟨e3, q3⟩ | ⟨y1, e3, q3⟩
    · exfalso
      cases c1 : Nat.beq (lLen xs) i
      · rw [c1] at q3; cases q3
      · rw [c1] at q3; exact cnd_it q3
    · rcases onOpt_it q3 with ⟨e4, q4⟩ | ⟨y2, e4, q4⟩
      · exact absurd q4 cnd_it
      · cases q4
        rw [nth_eq] at e3 e4
        obtain ⟨w1, e5, rw1⟩ := rs.get e3
        obtain ⟨w2, e6, rw2⟩ := rs2.get e4
        refine ⟨⟨vs, ws, w1, w2, q, q2, e5, e6⟩, fun v H' y => ?_⟩
        obtain ⟨T, x, y', rfl, hT, rfl, y1, y2⟩ := y
        have p1 := y1 vs q
        have p2 := y2 ws q2
        rw [e5] at p1; cases p1
        rw [e6] at p2; cases p2
        exact tup_new em hT (.cons rw1 (.cons rw2 .nil))
theorem i_zp {e e2 : Expr} {d : DA} {p tpos : Pos} {elts : List Expr} {kk : Nat} (hg : Gl X "zip") (hm : X.mg "zip" = none) (ha : PA X [e, e2] (rdA ⟨X.K, G.gl, G.ca⟩ d)) (hs : starEach [e, e2] X.env = (false, eval e X.env) :: starEach [e2] X.env) (hpl : (backTo pos (starEach [e2] X.env)).any (·.1) = false) :
    PI X (.Tuple elts kk tpos) (.Call (.Name "zip" p) [e, e2] [] pos) (rdI ⟨X.K, G.gl, G.ca⟩ (iZp d)) := by
  refine PI.weak (pi_zipK hg hm ha hs hpl) ?_
  rintro σ H RR ⟨ρ, es, h, nx, h', em, sl, e, k⟩
  obtain ⟨xs, h1, e1, eb⟩ := RA.bd_ok (P := IsT nx h') isNoT e
  obtain ⟨x, y, rfl, ec⟩ := on2_ok (P := IsT nx h') isNoT eb
  obtain ⟨us, e2, ed⟩ := onOpt_ok (P := IsT nx h') isNoT ec
  obtain ⟨ys, e3, ee⟩ := onOpt_ok (P := IsT nx h') isNoT ed
  cases ee
  refine ⟨ρ, es, h, _, _, em, sl, e1, fun ρ1 vs H1 l1 em1 rs => ?_⟩
  obtain ⟨v, w, rfl, r, r2⟩ := rs.two
  obtain ⟨a, us, ev, q, rs⟩ := seq_at em1 r e2
  obtain ⟨b, ws, ew, q2, rs2⟩ := seq_at em1 r2 e3
  subst ev ew
  exact ⟨a, b, kE x, kE y, us, ws, rfl, q, q2, k _ ρ1 H1 l1 em1 (it_zp r r2 rfl rfl)⟩
end
end LV
end

/-! ##### _ren.lean -/
set_option Elab.async false
set_option linter.all false
set_option maxRecDepth 100000
set_option maxHeartbeats 4000000
set_option autoImplicit false
noncomputable section
namespace LV
open PySem PySem.Spec PyProof.Rows L2

/-! ## comprehensions -/
def wipeE (s : ES) (vs : List Nat) : ES := @List.rec Nat (fun _ => ES) s (fun v _ ih => setN ih v none) vs
def bYes : DB := fun _ h => .ok true h
section
variable {G : GA} {X : Cx} {pos : Pos} {ρ ρ' ρ0 : Nat → Addr} {h h' h0 : EH} {H H' H0 : Hp}
theorem Slots.setNone {m : Nat} {es : ES} {σ : L2.St} (s : Slots G ρ m H es σ) (i : Nat) : Slots G ρ m H (es.set i none) (σ.set i none) := by
  refine ⟨by rw [List.length_set, List.length_set]; exact s.len, fun j y q => ?_⟩
  by_cases c : i = j
  · subst c
    by_cases hi : i < es.length
    · rw [List.getElem?_set_self hi] at q; cases q
    · rw [List.getElem?_eq_none (by rw [List.length_set]; omega)] at q; cases q
  · rw [List.getElem?_set_ne c] at q
    rw [List.getElem?_set_ne c]
    exact s.at_ j y q
theorem Slots.wipe {m : Nat} {es : ES} {σ : L2.St} (s : Slots G ρ m H es σ) : ∀ vs : List Nat, Slots G ρ m H (wipeE es vs) (wipe σ vs)
  | [] => s
  | v :: vs => by
    show Slots G ρ m H (setN (wipeE es vs) v none) ((L2.wipe σ vs).set v none)
    rw [setN_eq]
    exact Slots.setNone (Slots.wipe s vs) v
theorem PTs.weak {e : List Expr} {t t' : TT} (h : PTs X e t) (w : ∀ σ H Q, t' σ H Q → t σ H Q) : PTs X e t' := ⟨fun pins s σ H Q I q => h.run pins s σ H Q I (w σ H Q q)⟩
theorem ts_nil : PTs X [] (rdB G bYes) := by
  refine PTs.weak pts_nil ?_
  rintro σ H Q ⟨ρ, es, h, z, h', em, sl, e, k⟩
  cases e
  exact k ρ H Lat.refl em
theorem ts_one {c : Expr} {d : DB} (hc : PT X c (rdB G d)) : PTs X [c] (rdB G d) := pts_one hc
def lcE (nx : NX) (g : DG) (t : DB) (e : DE) (s0 : ES) (n : Nat) : Nat → EH → RA := @Nat.rec (fun _ => Nat → EH → RA) (fun _ _ => .no)
  (fun _ ih i h => (nx i h).cs .no (.ok [] h) fun x h => (g x s0 h).bd .no fun s => (t s h).bd .no fun b h => @Bool.rec (fun _ => RA) (frN (Nat.succ i) fun i => ih i h) ((e s h).bd .no fun y h => frN (Nat.succ i) fun i => (ih i h).bd .no fun ys h => .ok (y :: ys) h) b) n
def eLc (it : DI) (g : DG) (t : DB) (e : DE) (vs : List Nat) : DE := fun s h => (it s h).bd .no fun nx h => (lcE nx g t e (wipeE s vs) 1000000 0 h).bd .no fun xs h => cnd (Nat.ble (lLen xs) LIM) (mkL xs h) .no
/-- a thing of its own stands beside what the evaluator holds -/
theorem Lat.aside {D : Addr} {o o' : HO} (hD0 : H0 D = none) (l : Lat G ρ0 h0 H0 ρ h H) (hD : H D = some o) (n1 : ∀ xs, o ≠ .tup xs) (n2 : ∀ ob u, o ≠ .frz ob u) : Lat G ρ0 h0 H0 ρ h (upd H D o') where
  sub := l.sub
  le := l.le
  tup := fun a xs q => SqT.upd_obj hD n1 n2 (l.tup a xs q)
  keep := fun a u q hx => by rw [upd_ne (ne_of_none q hD0)]; exact l.keep a u q hx
  op := l.op
  new := l.new
  dom := fun a u q => by
    rw [upd_ne (ne_of_none q hD0)]; exact l.dom a u q
theorem Emb.aside {D : Addr} {o o' : HO} (e : Emb G ρ h H) (hD : H D = some o) (n1 : ∀ xs, o ≠ .tup xs) (n2 : ∀ ob u, o ≠ .frz ob u) (hx : ∀ n, n < h.n → ρ n ≠ D) : Emb G ρ h (upd H D o') where
  obj := fun n ob q => by
    obtain ⟨ho, h1, h2⟩ := e.obj n ob q
    exact ⟨ho, by rw [upd_ne (hx n (e.lt n ob q))]; exact h1, h2.later (fun _ _ => rfl) (Nat.le_refl _) fun _ _ q => SqT.upd_obj hD n1 n2 q⟩
  inj := e.inj
  lt := e.lt
  full := fun n hn => let ⟨ho, h1⟩ := e.full n hn; ⟨ho, by rw [upd_ne (hx n hn)]; exact h1⟩
theorem Reps.aside {D : Addr} {o o' : HO} {xs : List EV} {vs : List V} {m : Nat} (r : Reps G ρ m H xs vs) (hD : H D = some o) (n1 : ∀ xs, o ≠ .tup xs) (n2 : ∀ ob u, o ≠ .frz ob u) : Reps G ρ m (upd H D o') xs vs :=
  r.later (fun _ _ => rfl) (Nat.le_refl _) fun _ _ q => SqT.upd_obj hD n1 n2 q
theorem KReps.aside {D : Addr} {o o' : HO} {xs : List (EV × EV)} {vs : List (Key × V)} {m : Nat} (r : KReps G ρ m H xs vs) (hD : H D = some o) (n1 : ∀ xs, o ≠ .tup xs) (n2 : ∀ ob u, o ≠ .frz ob u) : KReps G ρ m (upd H D o') xs vs :=
  r.later (fun _ _ => rfl) (Nat.le_refl _) fun _ _ q => SqT.upd_obj hD n1 n2 q
/-- what stands beside stays beside -/
theorem Lat.besides {D : Addr} {o : HO} (l : Lat G ρ h H ρ' h' H') (hD : H D = some o) (hx : ∀ n, n < h.n → ρ n ≠ D) : H' D = some o ∧ ∀ n, n < h'.n → ρ' n ≠ D := by
  refine ⟨l.keep D o hD fun n _ hn _ => hx n hn, fun n hn z => ?_⟩
  by_cases c : n < h.n
  · exact hx n c ((l.sub n c).symm.trans z)
  · have := l.new n (Nat.not_lt.mp c) hn
    rw [z, hD] at this; cases this
/-- .. and is taken in at the end -/
theorem Lat.take {D : Addr} {o1 : EO} (hD0 : H0 D = none) (l : Lat G ρ0 h0 H0 ρ h H) (hn : h'.n = h.n + 1) (hg : ∀ j, h'.get j = if j = h.n then some o1 else h.get j) (hx : ∀ n, n < h.n → ρ n ≠ D) : Lat G ρ0 h0 H0 (ext ρ h.n D) h' H where
  sub := fun n hlt => (ext_ne (Nat.ne_of_lt (Nat.lt_of_lt_of_le hlt l.le))).trans (l.sub n hlt)
  le := by have := l.le; omega
  tup := l.tup
  keep := l.keep
  op := fun n ob hlt q => by
    rw [hg, if_neg (Nat.ne_of_lt (Nat.lt_of_lt_of_le hlt l.le))] at q; exact l.op n ob hlt q
  new := fun n h1 h2 => by
    by_cases c : n = h.n
    · subst c; rw [ext_same]; exact hD0
    · rw [ext_ne c]; exact l.new n h1 (by omega)
  dom := l.dom
theorem Emb.take {D : Addr} {o : EO} {ho : HO} (e : Emb G ρ h H) (hD : H D = some ho) (hx : ∀ n, n < h.n → ρ n ≠ D) (hn : h'.n = h.n + 1) (hg : ∀ j, h'.get j = if j = h.n then some o else h.get j) (r : ORep G ρ h.n H o ho) :
    Emb G (ext ρ h.n D) h' H := by
  have sub : ∀ n, n < h.n → ext ρ h.n D n = ρ n := fun n hn => ext_ne (Nat.ne_of_lt hn)
  refine ⟨fun n ob q => ?_, fun i j oj qi qj z => ?_, fun n ob q => ?_, fun n hlt => ?_⟩
  · rw [hg] at q
    by_cases c : n = h.n
    · rw [if_pos c] at q; cases q
      subst c
      exact ⟨ho, by rw [ext_same]; exact hD, r.later sub (by omega) fun _ _ q => q⟩
    · rw [if_neg c] at q
      obtain ⟨ho', h1, h2⟩ := e.obj n ob q
      exact ⟨ho', by rw [ext_ne c]; exact h1, h2.later sub (by omega) fun _ _ q => q⟩
  · rw [hg] at qj
    by_cases ci : i = h.n
    · by_cases cj : j = h.n
      · omega
      · rw [if_neg cj] at qj
        rw [ci, ext_same, ext_ne cj] at z
        exact absurd z.symm (hx j (e.lt j oj qj))
    · have qi' : i < h.n := by omega
      by_cases cj : j = h.n
      · rw [cj, ext_same, ext_ne ci] at z
        exact absurd z (hx i qi')
      · rw [if_neg cj] at qj
        rw [ext_ne ci, ext_ne cj] at z
        exact e.inj i j oj qi' qj z
  · rw [hg] at q
    by_cases c : n = h.n
    · omega
    · rw [if_neg c] at q
      have := e.lt n ob q; omega
  · by_cases c : n = h.n
    · subst c; exact ⟨ho, by rw [ext_same]; exact hD⟩
    · obtain ⟨u, hu⟩ := e.full n (by omega)
      exact ⟨u, by rw [ext_ne c]; exact hu⟩
theorem lim_line2 {n : Nat} (h : n ≤ LIM) : n < sizeLine := by
  have : LIM < sizeLine := by rw [sizeLine_eq]; decide
  omega
theorem rd_lc {it : DI} {g : DG} {t : DB} {e : DE} {vs : List Nat} (σ : L2.St) (H : Hp) (Q : VK) (q : rdE G (eLc it g t e vs) σ H Q) : tLc (rdI G it) (rdG G vs g) (rdB G t) (rdE G e) vs σ H Q := by
  obtain ⟨ρ, es, h, z, h', em, sl, q1, k⟩ := q
  obtain ⟨nx, h0, e1, q2⟩ := RT.bd_ok (P := Is z h') isNo q1
  obtain ⟨xs, h1, e2, q3⟩ := RA.bd_ok (P := Is z h') isNo q2
  obtain ⟨hl, q4⟩ := cnd_ok (P := Is z h') isNo q3
  have hl := Nat.le_of_ble_eq_true hl
  rw [lLen_eq] at hl
  refine ⟨ρ, es, h, nx, h0, em, sl, e1, fun J ρ0 H0 l0 em0 ok D hD => ?_⟩
  have sl0 := (sl.lat l0).wipe vs
  refine ⟨fun i m H => ∃ ρ h acc us rest, Emb G ρ h H ∧ Lat G ρ0 h0 H0 ρ h H ∧ H D = some (.lst us) ∧ (∀ n, n < h.n → ρ n ≠ D) ∧ Reps G ρ h.n H acc us ∧ lcE nx g t e (wipeE es vs) m i h = .ok rest h1 ∧ acc ++ rest = xs,
    ⟨1000000, ρ0, h0, [], [], xs, em0.side hD, Lat.side hD, upd_same, fun n hn z => ?_, .nil, e2, rfl⟩, ?_⟩
  · obtain ⟨u, hu⟩ := em0.full n hn
    rw [z, hD] at hu; cases hu
  rintro i m H ⟨ρ, h, acc, us, rest, em, l, hDs, hx, ra, el, ex⟩
  have n1 : ∀ xs, HO.lst us ≠ .tup xs := fun _ z => nomatch z
  have n2 : ∀ ob u, HO.lst us ≠ .frz ob u := fun _ _ z => nomatch z
  cases m with
  | zero => exact nomatch (show RA.no = RA.ok rest h1 from el)
  | succ m =>
    have el2 : (nx i h).cs .no (.ok [] h) (fun x h => (g x (wipeE es vs) h).bd .no fun s => (t s h).bd .no fun b h => @Bool.rec (fun _ => RA) (frN (Nat.succ i) fun i => lcE nx g t e (wipeE es vs) m i h)
      ((e s h).bd .no fun y h => frN (Nat.succ i) fun i => (lcE nx g t e (wipeE es vs) m i h).bd .no fun ys h => .ok (y :: ys) h) b) = .ok rest h1 := el
    cases en : nx i h with
    | no => rw [en] at el2; cases el2
    | dn =>
      rw [en] at el2
      have e5 : RA.ok [] h = RA.ok rest h1 := el2
      cases e5
      rw [List.append_nil] at ex
      subst ex
      refine .inl ⟨ok.dn i ρ h1 H l em en, ?_⟩
      obtain ⟨h2, hn, hg, q5⟩ := EH.new_ok (P := Is z h') isNo q4
      cases q5
      refine k (ext ρ h1.n D) _ _ (l0.trans (Lat.take hD l hn hg hx)) (em.take hDs hx hn hg (.lst ra)) ?_
      have e : D = ext ρ h1.n D h1.n := ext_same.symm
      conv => rhs; rw [e]
      exact .ref (by omega)
    | it x h2 =>
      rw [en] at el2
      obtain ⟨go, y⟩ := ok.it i ρ h H x h2 l em en
      obtain ⟨s1, eg, el3⟩ := RG.bd_ok (P := IsA rest h1) isNoA el2
      obtain ⟨b, h3, et, el4⟩ := RB.bd_ok (P := IsA rest h1) isNoA el3
      refine .inr ⟨go, _, fun H' n => ⟨m, Nat.lt_succ_self m, n⟩, fun v H' yv => ?_⟩
      obtain ⟨ρ1, l1, em1, rx⟩ := y v H' yv
      obtain ⟨hD1, hx1⟩ := l1.besides hDs hx
      have slw : Slots G ρ1 h2.n H' (wipeE es vs) (wipe σ vs) := (sl0.lat l).lat l1
      refine ⟨ρ1, _, h2, x, s1, em1, slw, rx, eg, fun σ2 sl2 ag => ⟨ag.wipe.trans ?_, ρ1, s1, h2, b, h3, em1, sl2, et, fun ρ3 H3 l3 em3 => ?_⟩⟩
      · refine List.ext_getElem? fun j => ?_
        rw [wipe_get, wipe_get, wipe_length]
        by_cases hm : j ∈ vs
        · rw [if_pos hm, if_pos hm]
        · rw [if_neg hm, if_neg hm]
      obtain ⟨hD3, hx3⟩ := l3.besides hD1 hx1
      have l13 := l1.trans l3
      cases b with
      | false =>
        rw [if_neg Bool.false_ne_true]
        have el5 : frN (Nat.succ i) (fun i => lcE nx g t e (wipeE es vs) m i h3) = .ok rest h1 := el4
        rw [frN_eq] at el5
        exact ⟨ρ3, h3, acc, us, rest, em3, l.trans l13, hD3, hx3, ra.lat l13, el5, ex⟩
      | true =>
        rw [if_pos rfl]
        obtain ⟨w, h4, ee, el5⟩ := R.bd_ok (r := e s1 h3) (k := fun y h => frN (Nat.succ i) fun i => (lcE nx g t e (wipeE es vs) m i h).bd .no fun ys h => .ok (y :: ys) h) (P := IsA rest h1) isNoA el4
        have el6 : frN (Nat.succ i) (fun i => (lcE nx g t e (wipeE es vs) m i h4).bd RA.no fun ys h => RA.ok (w :: ys) h) = .ok rest h1 := el5
        rw [frN_eq] at el6
        obtain ⟨ys, h5, er, el7⟩ := RA.bd_ok (P := IsA rest h1) isNoA el6
        have el8 : RA.ok (w :: ys) h5 = RA.ok rest h1 := el7
        cases el8
        refine ⟨ρ3, s1, h3, w, h4, em3, sl2.lat l3, ee, fun ρ4 v4 H4 l4 em4 r4 => ?_⟩
        obtain ⟨hD4, hx4⟩ := l4.besides hD3 hx3
        have ra4 := ra.lat (l13.trans l4)
        refine ⟨us, hD4, ?_, ρ4, h4, acc ++ [w], us ++ [v4], ys, em4.aside hD4 n1 n2 hx4, Lat.aside hD (l.trans (l13.trans l4)) hD4 n1 n2, upd_same, hx4, Reps.aside (ra4.append (.cons r4 .nil)) hD4 n1 n2, er, by rw [← ex]; simp⟩
        rw [← ra4.length]
        refine lim_line2 (Nat.le_trans ?_ hl)
        rw [← ex, List.length_append]; omega
theorem q_lc {elt tg iter : Expr} {ifs : List Expr} {scope : Scope} {own : List (Str × Nat)} {it : DI} {g : DG} {t : DB} {e : DE} (hc : X.calm = true) (hN : X.N.Nodup) (hi : PI X tg iter (rdI G it)) (ok : BlkOk X.N X.env.scope scope own)
    (hg : ∀ (s : Shared) (H : Hp) (C : Addr) (cl : List (Str × Addr)) (fp : List Addr), PG (X.blk s H scope (compEnvC scope cl C X.env) fp) tg (rdG G (own.map (·.2)) g)) (ht : ∀ (s : Shared) (H : Hp) (C : Addr) (cl : List (Str × Addr)) (fp : List Addr), PTs (X.blk s H scope (compEnvC scope cl C X.env) fp) ifs (rdB G t))
    (he : ∀ (s : Shared) (H : Hp) (C : Addr) (cl : List (Str × Addr)) (fp : List Addr), PE (X.blk s H scope (compEnvC scope cl C X.env) fp) elt (rdE G e)) (hs : ∀ x, foldedSetIterable iter X.env x = pure x) :
    PE X (.ListComp elt [⟨tg, iter, ifs, 0⟩] scope pos) (rdE G (eLc it g t e (own.map (·.2)))) :=
  PE.weak (pe_lc hc hN hi ok hg ht he hs) fun σ H Q q => rd_lc σ H Q q
theorem s_setLc {i : Nat} {y : Str} {py spos : Pos} {elt tg iter : Expr} {ifs : List Expr} {scope : Scope} {own : List (Str × Nat)} {it : DI} {g : DG} {t : DB} {e : DE} (hc : X.calm = true) (hN : X.N.Nodup) (hy : X.N[i]? = some y) (hyl : X.env.scope.names.lookup y = some .local)
    (hsw : swapsWith (.ListComp elt [⟨tg, iter, ifs, 0⟩] scope pos) (some (.Name y py)) spos.line X.env = pure true) (hi : PI X tg iter (rdI G it)) (ok : BlkOk X.N X.env.scope scope own)
    (hg : ∀ (s : Shared) (H : Hp) (C : Addr) (cl : List (Str × Addr)) (fp : List Addr), PG (X.blk s H scope (compEnvC scope cl C X.env) fp) tg (rdG G (own.map (·.2)) g)) (ht : ∀ (s : Shared) (H : Hp) (C : Addr) (cl : List (Str × Addr)) (fp : List Addr), PTs (X.blk s H scope (compEnvC scope cl C X.env) fp) ifs (rdB G t))
    (he : ∀ (s : Shared) (H : Hp) (C : Addr) (cl : List (Str × Addr)) (fp : List Addr), PE (X.blk s H scope (compEnvC scope cl C X.env) fp) elt (rdE G e)) (hs : ∀ x, foldedSetIterable iter X.env x = pure x) :
    PS X (.Assign [.Name y py] (.ListComp elt [⟨tg, iter, ifs, 0⟩] scope pos) spos) (rdS G (sAsg (eLc it g t e (own.map (·.2))) (gNm i))) := by
  refine PS.weak (ps_setLc hc hN hy hyl hsw hi ok hg ht he hs) fun D σ H q => ?_
  obtain ⟨ρ, es, h, em, sl, q1⟩ := q
  obtain ⟨x, h1, e1, q2⟩ := R.bd_ok (P := IsK G ρ h H D) isNoK q1
  have q2 : KS G ρ h H D (.nx (setN es i (some x)) h1) := q2
  refine rd_lc σ H _ ⟨ρ, es, h, x, h1, em, sl, e1, fun ρ1 v H1 l1 em1 rx => q2 ρ1 _ H1 l1 em1 ?_⟩
  rw [setN_eq]; exact (sl.lat l1).set i rx

/-! ### dicts -/
inductive RK where
  | no | ok (xs : List (EV × EV)) (h : EH)
def RK.bd {α : Type} (r : RK) (no : α) (k : List (EV × EV) → EH → α) : α := @RK.rec (fun _ => α) no k r
theorem RK.bd_ok {α : Type} {r : RK} {no : α} {k : List (EV × EV) → EH → α} {P : α → Prop} (hn : ¬ P no) (e : P (r.bd no k)) : ∃ x h, r = .ok x h ∧ P (k x h) := by
  cases r with
  | no => exact absurd e hn
  | ok x h => exact ⟨x, h, rfl, e⟩
abbrev IsKK (z : List (EV × EV)) (h' : EH) : RK → Prop := fun r => r = .ok z h'
theorem isNoKK {z : List (EV × EV)} {h' : EH} : ¬ IsKK z h' .no := fun e => nomatch e
def dcE (nx : NX) (g : DG) (t : DB) (ek e : DE) (s0 : ES) (n : Nat) : Nat → List (EV × EV) → EH → RK := @Nat.rec (fun _ => Nat → List (EV × EV) → EH → RK) (fun _ _ _ => .no)
  (fun _ ih i acc h => (nx i h).cs .no (.ok acc h) fun x h => (g x s0 h).bd .no fun s => (t s h).bd .no fun b h => @Bool.rec (fun _ => RK) (frN (Nat.succ i) fun i => ih i acc h)
    ((ek s h).bd .no fun y h => (e s h).bd .no fun z h => cnd (isKey y) (cnd (Nat.ble (lLen acc) LIM) (frN (Nat.succ i) fun i => ih i (dPut acc y z) h) .no) .no) b) n
def eDc (it : DI) (g : DG) (t : DB) (ek e : DE) (vs : List Nat) : DE := fun s h => (it s h).bd .no fun nx h => (dcE nx g t ek e (wipeE s vs) 1000000 0 [] h).bd .no fun xs h => mkD xs h
theorem rd_dc {it : DI} {g : DG} {t : DB} {ek e : DE} {vs : List Nat} (σ : L2.St) (H : Hp) (Q : VK) (q : rdE G (eDc it g t ek e vs) σ H Q) : tDc (rdI G it) (rdG G vs g) (rdB G t) (rdE G ek) (rdE G e) vs σ H Q := by
  obtain ⟨ρ, es, h, z, h', em, sl, q1, k⟩ := q
  obtain ⟨nx, h0, e1, q2⟩ := RT.bd_ok (P := Is z h') isNo q1
  obtain ⟨xs, h1, e2, q4⟩ := RK.bd_ok (P := Is z h') isNo q2
  refine ⟨ρ, es, h, nx, h0, em, sl, e1, fun J ρ0 H0 l0 em0 ok D hD => ?_⟩
  have sl0 := (sl.lat l0).wipe vs
  refine ⟨fun i m H => ∃ ρ h acc us, Emb G ρ h H ∧ Lat G ρ0 h0 H0 ρ h H ∧ H D = some (.dK us) ∧ (∀ n, n < h.n → ρ n ≠ D) ∧ KReps G ρ h.n H acc us ∧ dcE nx g t ek e (wipeE es vs) m i acc h = .ok xs h1,
    ⟨1000000, ρ0, h0, [], [], em0.side hD, Lat.side hD, upd_same, fun n hn z => ?_, .nil, e2⟩, ?_⟩
  · obtain ⟨u, hu⟩ := em0.full n hn
    rw [z, hD] at hu; cases hu
  rintro i m H ⟨ρ, h, acc, us, em, l, hDs, hx, ra, el⟩
  have n1 : ∀ xs, HO.dK us ≠ .tup xs := fun _ z => nomatch z
  have n2 : ∀ ob u, HO.dK us ≠ .frz ob u := fun _ _ z => nomatch z
  cases m with
  | zero => exact nomatch (show RK.no = RK.ok xs h1 from el)
  | succ m =>
    have el2 : (nx i h).cs .no (.ok acc h) (fun x h => (g x (wipeE es vs) h).bd .no fun s => (t s h).bd .no fun b h => @Bool.rec (fun _ => RK) (frN (Nat.succ i) fun i => dcE nx g t ek e (wipeE es vs) m i acc h)
      ((ek s h).bd .no fun y h => (e s h).bd .no fun z h => cnd (isKey y) (cnd (Nat.ble (lLen acc) LIM) (frN (Nat.succ i) fun i => dcE nx g t ek e (wipeE es vs) m i (dPut acc y z) h) .no) .no) b) = .ok xs h1 := el
    cases en : nx i h with
    | no => rw [en] at el2; cases el2
    | dn =>
      rw [en] at el2
      have e5 : RK.ok acc h = RK.ok xs h1 := el2
      cases e5
      refine .inl ⟨ok.dn i ρ h1 H l em en, ?_⟩
      obtain ⟨h2, hn, hg, q5⟩ := EH.new_ok (P := Is z h') isNo q4
      cases q5
      refine k (ext ρ h1.n D) _ _ (l0.trans (Lat.take hD l hn hg hx)) (em.take hDs hx hn hg (.dic ra)) ?_
      have e : D = ext ρ h1.n D h1.n := ext_same.symm
      conv => rhs; rw [e]
      exact .ref (by omega)
    | it x h2 =>
      rw [en] at el2
      obtain ⟨go, y⟩ := ok.it i ρ h H x h2 l em en
      obtain ⟨s1, eg, el3⟩ := RG.bd_ok (P := IsKK xs h1) isNoKK el2
      obtain ⟨b, h3, et, el4⟩ := RB.bd_ok (P := IsKK xs h1) isNoKK el3
      refine .inr ⟨go, _, fun H' n => ⟨m, Nat.lt_succ_self m, n⟩, fun v H' yv => ?_⟩
      obtain ⟨ρ1, l1, em1, rx⟩ := y v H' yv
      obtain ⟨hD1, hx1⟩ := l1.besides hDs hx
      have slw : Slots G ρ1 h2.n H' (wipeE es vs) (wipe σ vs) := (sl0.lat l).lat l1
      refine ⟨ρ1, _, h2, x, s1, em1, slw, rx, eg, fun σ2 sl2 ag => ⟨ag.wipe.trans ?_, ρ1, s1, h2, b, h3, em1, sl2, et, fun ρ3 H3 l3 em3 => ?_⟩⟩
      · refine List.ext_getElem? fun j => ?_
        rw [wipe_get, wipe_get, wipe_length]
        by_cases hm : j ∈ vs
        · rw [if_pos hm, if_pos hm]
        · rw [if_neg hm, if_neg hm]
      obtain ⟨hD3, hx3⟩ := l3.besides hD1 hx1
      have l13 := l1.trans l3
      cases b with
      | false =>
        rw [if_neg Bool.false_ne_true]
        have el5 : frN (Nat.succ i) (fun i => dcE nx g t ek e (wipeE es vs) m i acc h3) = .ok xs h1 := el4
        rw [frN_eq] at el5
        exact ⟨ρ3, h3, acc, us, em3, l.trans l13, hD3, hx3, ra.later l13.sub l13.le l13.tup, el5⟩
      | true =>
        rw [if_pos rfl]
        obtain ⟨y1, h4, ey, el5⟩ := R.bd_ok (r := ek s1 h3) (k := fun y h => (e s1 h).bd .no fun z h => cnd (isKey y) (cnd (Nat.ble (lLen acc) LIM) (frN (Nat.succ i) fun i => dcE nx g t ek e (wipeE es vs) m i (dPut acc y z) h) .no) .no) (P := IsKK xs h1) isNoKK el4
        obtain ⟨z1, h5, ez, el6⟩ := R.bd_ok (P := IsKK xs h1) isNoKK el5
        obtain ⟨hk, el7⟩ := cnd_ok (P := IsKK xs h1) isNoKK el6
        obtain ⟨hl, el8⟩ := cnd_ok (P := IsKK xs h1) isNoKK el7
        have el9 : frN (Nat.succ i) (fun i => dcE nx g t ek e (wipeE es vs) m i (dPut acc y1 z1) h5) = .ok xs h1 := el8
        rw [frN_eq] at el9
        have hl := Nat.le_of_ble_eq_true hl
        rw [lLen_eq] at hl
        obtain ⟨key, rfl⟩ := isKey_ok hk
        refine ⟨ρ3, s1, h3, _, h4, em3, sl2.lat l3, ey, fun ρ4 v4 H4 l4 em4 r4 => ⟨ρ4, s1, h4, z1, h5, em4, (sl2.lat l3).lat l4, ez, fun ρ5 v5 H5 l5 em5 r5 => ?_⟩⟩
        have l35 := l4.trans l5
        obtain ⟨hD5, hx5⟩ := l35.besides hD3 hx3
        have l15 := l13.trans l35
        have ra5 : KReps G ρ5 h5.n H5 acc us := ra.later l15.sub l15.le l15.tup
        refine ⟨us, key, keyE_rep r4, hD5, ?_, ρ5, h5, dPut acc (keyE key) z1, putK us key v5, em5.aside hD5 n1 n2 hx5, Lat.aside hD (l.trans l15) hD5 n1 n2, upd_same, hx5, KReps.aside (ra5.put key r5) hD5 n1 n2, el9⟩
        rw [← ra5.length]
        exact lim_line2 hl
theorem q_dc {kx vx tg iter : Expr} {ifs : List Expr} {scope : Scope} {own : List (Str × Nat)} {it : DI} {g : DG} {t : DB} {ek e : DE} (hc : X.calm = true) (hN : X.N.Nodup) (hi : PI X tg iter (rdI G it)) (ok : BlkOk X.N X.env.scope scope own)
    (hg : ∀ (s : Shared) (H : Hp) (C : Addr) (cl : List (Str × Addr)) (fp : List Addr), PG (X.blk s H scope (compEnvC scope cl C X.env) fp) tg (rdG G (own.map (·.2)) g)) (ht : ∀ (s : Shared) (H : Hp) (C : Addr) (cl : List (Str × Addr)) (fp : List Addr), PTs (X.blk s H scope (compEnvC scope cl C X.env) fp) ifs (rdB G t))
    (hk : ∀ (s : Shared) (H : Hp) (C : Addr) (cl : List (Str × Addr)) (fp : List Addr), PE (X.blk s H scope (compEnvC scope cl C X.env) fp) kx (rdE G ek))
    (he : ∀ (s : Shared) (H : Hp) (C : Addr) (cl : List (Str × Addr)) (fp : List Addr), PE (X.blk s H scope (compEnvC scope cl C X.env) fp) vx (rdE G e)) (hs : ∀ x, foldedSetIterable iter X.env x = pure x) :
    PE X (.DictComp kx vx [⟨tg, iter, ifs, 0⟩] scope pos) (rdE G (eDc it g t ek e (own.map (·.2)))) :=
  PE.weak (pe_dc hc hN hi ok hg ht hk he hs) fun σ H Q q => rd_dc σ H Q q
end
end LV
end

/-! ##### _ren.lean -/
set_option Elab.async false
set_option linter.all false
set_option maxRecDepth 100000
set_option maxHeartbeats 4000000
set_option autoImplicit false
noncomputable section
namespace LV
open PySem PySem.Spec PyProof.Rows L2

/-! ## fields -/
def fLook (fs : List (Str × EV)) (f : Str) : Option EV := @List.rec (Str × EV) (fun _ => Option EV) none (fun p _ ih => @Bool.rec (fun _ => Option EV) ih (some p.2) (sEq f p.1)) fs
def fPut (f : Str) (v : EV) (fs : List (Str × EV)) : List (Str × EV) := @List.rec (Str × EV) (fun _ => List (Str × EV)) [(f, v)] (fun p r ih => @Bool.rec (fun _ => List (Str × EV)) (p :: ih) ((p.1, v) :: r) (sEq p.1 f)) fs
def memN (c : Nat) (cs : List Nat) : Bool := @List.rec Nat (fun _ => Bool) false (fun p _ ih => @Bool.rec (fun _ => Bool) ih true (Nat.beq c p)) cs
theorem memN_ok {c : Nat} : ∀ {cs : List Nat}, memN c cs = true → c ∈ cs
  | [], h => by cases h
  | p :: cs, h => by
    have h1 : @Bool.rec (fun _ => Bool) (memN c cs) true (Nat.beq c p) = true := h
    cases q : Nat.beq c p with
    | true => rw [Nat.eq_of_beq_eq_true q]; exact List.mem_cons_self
    | false => rw [q] at h1; exact List.mem_cons_of_mem _ (memN_ok h1)
section
variable {G : GA} {X : Cx} {pos : Pos} {ρ : Nat → Addr} {m : Nat} {H : Hp}
theorem FReps.length : ∀ {fs : List (Str × EV)} {gs : List (Str × V)}, FReps G ρ m H fs gs → fs.length = gs.length
  | _, _, .nil => rfl
  | _, _, .cons _ t => congrArg Nat.succ (FReps.length t)
theorem FReps.look (f : Str) : ∀ {fs : List (Str × EV)} {gs : List (Str × V)}, FReps G ρ m H fs gs → (fLook fs f = none ∧ gs.lookup f = none) ∨ ∃ x v, fLook fs f = some x ∧ gs.lookup f = some v ∧ Rep G ρ m H x v
  | _, _, .nil => .inl ⟨rfl, rfl⟩
  | _, _, .cons (f := g) (x := x) (v := v) (fs := fs) (gs := gs) a t => by
    have e : fLook ((g, x) :: fs) f = @Bool.rec (fun _ => Option EV) (fLook fs f) (some x) (sEq f g) := rfl
    rw [e, List.lookup_cons, sEq_dec]
    by_cases c : f = g
    · rw [decide_eq_true c, show (f == g) = true from beq_iff_eq.mpr c]
      exact .inr ⟨x, v, rfl, rfl, a⟩
    · rw [decide_eq_false c, show (f == g) = false from beq_eq_false_iff_ne.mpr c]
      exact FReps.look f t
theorem FReps.put (f : Str) {y : EV} {w : V} (r : Rep G ρ m H y w) : ∀ {fs : List (Str × EV)} {gs : List (Str × V)}, FReps G ρ m H fs gs → FReps G ρ m H (fPut f y fs) (putF f w gs)
  | _, _, .nil => .cons r .nil
  | _, _, .cons (f := g) (x := x) (v := v) (fs := fs) (gs := gs) a t => by
    have e : fPut f y ((g, x) :: fs) = @Bool.rec (fun _ => List (Str × EV)) ((g, x) :: fPut f y fs) ((g, y) :: fs) (sEq g f) := rfl
    have e2 : putF f w ((g, v) :: gs) = if g = f then (g, w) :: gs else (g, v) :: putF f w gs := rfl
    rw [e, e2, sEq_dec]
    by_cases c : g = f
    · rw [decide_eq_true c, if_pos c]; exact .cons r t
    · rw [decide_eq_false c, if_neg c]; exact .cons a (FReps.put f r t)
/-- o.f, a field of an instance -/
def eFld (cs : List Nat) (f : Str) (d : DE) : DE := fun s h => (d s h).bd .no fun x h => onIns h x .no fun _ c fs => cnd (memN c cs) (onOpt (fLook fs f) .no fun v => .ok v h) .no
structure Fld (K : PySem.W.Frag) (ca : Nat → Addr) (f : Str) (cs : List Nat) : Prop where
  ok : ∀ c ∈ cs, Cls K (ca c) ∧ NoAttr K (ca c) f
theorem Fld.nil {K : PySem.W.Frag} {ca : Nat → Addr} {f : Str} : Fld K ca f [] := ⟨fun _ h => by cases h⟩
theorem Fld.cons {K : PySem.W.Frag} {ca : Nat → Addr} {f : Str} {c : Nat} {cs : List Nat} (h1 : Cls K (ca c)) (h2 : NoAttr K (ca c) f) (h : Fld K ca f cs) : Fld K ca f (c :: cs) :=
  ⟨fun d hd => (List.mem_cons.mp hd).elim (fun e => by rw [e]; exact ⟨h1, h2⟩) (h.ok d)⟩
theorem q_fld {e : Expr} {f : Str} {cs : List Nat} {d : DE} (F : Fld X.K G.ca f cs) (he : PE X e (rdE ⟨X.K, G.gl, G.ca⟩ d)) (hb : attributeBase e f X.env (eval e X.env) = eval e X.env) : PE X (.Attribute e f pos) (rdE ⟨X.K, G.gl, G.ca⟩ (eFld cs f d)) := by
  refine PE.weak (pe_fld he hb) ?_
  rintro σ H Q ⟨ρ, es, h, z, h', em, sl, e, k⟩
  obtain ⟨x, h1, e1, eb⟩ := R.bd_ok (P := Is z h') isNo e
  obtain ⟨n, c, fs, ex, g, ec⟩ := onIns_ok (P := Is z h') isNo eb
  obtain ⟨hm, ed⟩ := cnd_ok (P := Is z h') isNo ec
  obtain ⟨v, hl, ee⟩ := onOpt_ok (P := Is z h') isNo ed
  cases ee
  subst ex
  refine ⟨ρ, es, h, _, _, em, sl, e1, fun ρ1 v1 H1 l1 em1 rx => ?_⟩
  cases rx
  obtain ⟨dx, gs, g1, rf⟩ := ins_at em1 g
  obtain ⟨c1, c2⟩ := F.ok c (memN_ok hm)
  rcases rf.look f with ⟨a1, _⟩ | ⟨x', v', a1, a2, r⟩
  · rw [a1] at hl; cases hl
  · rw [a1] at hl; cases hl
    exact ⟨_, _, dx, gs, v', rfl, g1, c1, c2, a2, (k.after l1).here em1 r⟩
/-- o.f = v -/
def sFldS (cs : List Nat) (f : Str) (o v : DE) : DS := fun s h => (v s h).bd .no fun y h => (o s h).bd .no fun x h => onIns h x .no fun n c fs => cnd (memN c cs) (cnd (Nat.ble (lLen fs) 900) (.nx s (h.put n (.ins c (fPut f y fs)))) .no) .no
theorem KS.put {h : EH} {D : Ends} {n : Nat} {o o' : EO} {ho' : HO} {es : ES} {σ : L2.St} (k : KS G ρ h H D (.nx es (h.put n o'))) (em : Emb G ρ h H) (sl : Slots G ρ h.n H es σ) (hn : h.get n = some o) (r : ORep G ρ h.n H o' ho') : D.nx σ (upd H (ρ n) ho') :=
  k ρ σ _ (Lat.put em hn) (em.put hn r) (sl.lat (Lat.put em hn))
theorem s_fld {o value : Expr} {f : Str} {cs : List Nat} {po : Pos} {dO dv : DE} (F : Fld X.K G.ca f cs) (ho : PE X o (rdE ⟨X.K, G.gl, G.ca⟩ dO)) (hv : PE X value (rdE ⟨X.K, G.gl, G.ca⟩ dv)) (hs : swapsWith value (some (.Attribute o f po)) pos.line X.env = pure false) :
    PS X (.Assign [.Attribute o f po] value pos) (rdS ⟨X.K, G.gl, G.ca⟩ (sFldS cs f dO dv)) := by
  refine PS.weak (ps_fld ho hv hs) ?_
  rintro D σ H ⟨ρ, es, h, em, sl, e⟩
  obtain ⟨y, h1, e1, eb⟩ := R.bd_ok (P := IsK ⟨X.K, G.gl, G.ca⟩ ρ h H D) isNoK e
  obtain ⟨x, h2, e2, ec⟩ := R.bd_ok (P := IsK ⟨X.K, G.gl, G.ca⟩ ρ h H D) isNoK eb
  obtain ⟨n, c, fs, ex, g, ed⟩ := onIns_ok (P := IsK ⟨X.K, G.gl, G.ca⟩ ρ h H D) isNoK ec
  obtain ⟨hm, ee⟩ := cnd_ok (P := IsK ⟨X.K, G.gl, G.ca⟩ ρ h H D) isNoK ed
  obtain ⟨hl, ef⟩ := cnd_ok (P := IsK ⟨X.K, G.gl, G.ca⟩ ρ h H D) isNoK ee
  have hl := Nat.le_of_ble_eq_true hl
  rw [lLen_eq] at hl
  subst ex
  refine ⟨ρ, es, h, y, h1, em, sl, e1, fun ρ1 w H1 l1 em1 ry => ⟨ρ1, es, h1, _, h2, em1, sl.lat l1, e2, fun ρ2 v H2 l2 em2 rx => ?_⟩⟩
  cases rx
  obtain ⟨dx, gs, g1, rf⟩ := ins_at em2 g
  obtain ⟨c1, c2⟩ := F.ok c (memN_ok hm)
  refine ⟨_, _, dx, gs, rfl, g1, c1, c2, by rw [← rf.length]; omega, KS.put (KS.after (r := .nx es (h2.put n (.ins c (fPut f y fs)))) ef (l1.trans l2)) em2 ((sl.lat l1).lat l2) g (.ins (rf.put f (ry.lat l2)))⟩
/-- o.f op= v of ints -/
def sFldAg (cs : List Nat) (f : Str) (g : Int → Int → Int) (o v : DE) : DS := fun s h => (o s h).bd .no fun x h => onIns h x .no fun n c fs => cnd (memN c cs) (onOpt (fLook fs f) .no fun u => onInt u .no fun i => (v s h).bd .no fun y h => onInt y .no fun j =>
  onIns h x .no fun n2 c2 fs2 => cnd (Nat.beq c2 c) (cnd (Nat.ble (lLen fs2) 900) (frI (g i j) fun k => .nx s (h.put n2 (.ins c2 (fPut f (.int k) fs2)))) .no) .no) .no
theorem s_fldAg {o value : Expr} {f : Str} {cs : List Nat} {po : Pos} {op : Operator} {g : Int → Int → Int} {dO dv : DE} (hop : InOp X op (fun x y H Q => ∃ i j, x = .int i ∧ y = .int j ∧ Q (.int (g i j)) H)) (F : Fld X.K G.ca f cs) (ho : PE X o (rdE ⟨X.K, G.gl, G.ca⟩ dO)) (hv : PE X value (rdE ⟨X.K, G.gl, G.ca⟩ dv)) :
    PS X (.AugAssign (.Attribute o f po) op value pos) (rdS ⟨X.K, G.gl, G.ca⟩ (sFldAg cs f g dO dv)) := by
  refine PS.weak (ps_fldaug ho hv hop) ?_
  rintro D σ H ⟨ρ, es, h, em, sl, e⟩
  obtain ⟨x, h1, e1, eb⟩ := R.bd_ok (P := IsK ⟨X.K, G.gl, G.ca⟩ ρ h H D) isNoK e
  obtain ⟨n, c, fs, ex, g1, ec⟩ := onIns_ok (P := IsK ⟨X.K, G.gl, G.ca⟩ ρ h H D) isNoK eb
  obtain ⟨hm, ed⟩ := cnd_ok (P := IsK ⟨X.K, G.gl, G.ca⟩ ρ h H D) isNoK ec
  obtain ⟨u, hu, ee⟩ := onOpt_ok (P := IsK ⟨X.K, G.gl, G.ca⟩ ρ h H D) isNoK ed
  obtain ⟨i, rfl, ef⟩ := onInt_ok (P := IsK ⟨X.K, G.gl, G.ca⟩ ρ h H D) isNoK ee
  obtain ⟨y, h2, e2, eg⟩ := R.bd_ok (P := IsK ⟨X.K, G.gl, G.ca⟩ ρ h H D) isNoK ef
  obtain ⟨j, rfl, eh⟩ := onInt_ok (P := IsK ⟨X.K, G.gl, G.ca⟩ ρ h H D) isNoK eg
  obtain ⟨n2, c2, fs2, ex2, g2, ei⟩ := onIns_ok (P := IsK ⟨X.K, G.gl, G.ca⟩ ρ h H D) isNoK eh
  obtain ⟨hc, ej⟩ := cnd_ok (P := IsK ⟨X.K, G.gl, G.ca⟩ ρ h H D) isNoK ei
  obtain ⟨hl, ek⟩ := cnd_ok (P := IsK ⟨X.K, G.gl, G.ca⟩ ρ h H D) isNoK ej
  have hl := Nat.le_of_ble_eq_true hl
  rw [lLen_eq] at hl
  have hc := Nat.eq_of_beq_eq_true hc
  subst hc
  subst ex
  cases ex2
  have e9 : KS ⟨X.K, G.gl, G.ca⟩ ρ h H D (.nx es (h2.put n (.ins c2 (fPut f (.int (g i j)) fs2)))) := by
    have := ek
    rw [show frI (g i j) (fun k => RS.nx es (h2.put n (.ins c2 (fPut f (.int k) fs2)))) = .nx es (h2.put n (.ins c2 (fPut f (.int (g i j)) fs2))) from frI_eq _ _] at this
    exact this
  refine ⟨ρ, es, h, _, h1, em, sl, e1, fun ρ1 v1 H1 l1 em1 rx => ?_⟩
  cases rx
  obtain ⟨dx, gs, k1, rf⟩ := ins_at em1 g1
  obtain ⟨q1, q2⟩ := F.ok c2 (memN_ok hm)
  rcases rf.look f with ⟨a1, _⟩ | ⟨x', v', a1, a2, r⟩
  · rw [a1] at hu; cases hu
  rw [a1] at hu; cases hu
  cases r
  refine ⟨_, _, dx, gs, _, rfl, k1, q1, q2, a2, ρ1, es, h1, _, h2, em1, sl.lat l1, e2, fun ρ2 v2 H2 l2 em2 ry => ?_⟩
  cases ry
  obtain ⟨dx2, gs2, k2, rf2⟩ := ins_at em2 g2
  have hρ : ρ2 n = ρ1 n := l2.sub n (em1.lt n _ g1)
  refine ⟨i, j, rfl, rfl, dx2, gs2, by rw [← hρ]; exact k2, by rw [← rf2.length]; omega, ?_⟩
  rw [← hρ]
  exact KS.put (KS.after (r := .nx es (h2.put n (.ins c2 (fPut f (.int (g i j)) fs2)))) e9 (l1.trans l2)) em2 ((sl.lat l1).lat l2) g2 (.ins (rf2.put f (.int _)))

/-! ## o[i] = v -/
def ixN2 (n : Nat) (i : Int) : Option Nat := @Int.rec (fun _ => Option Nat) (fun v => @Bool.rec (fun _ => Option Nat) none (some v) (Nat.blt v n)) (fun m => @Bool.rec (fun _ => Option Nat) none (some (Nat.sub n (Nat.succ m))) (Nat.ble (Nat.succ m) n)) i
theorem ixN2_eq (n : Nat) (i : Int) : ixN2 n i = ixN n i := by
  unfold ixN
  cases i with
  | ofNat v =>
    have h0 : (0 : Int) ≤ Int.ofNat v := Int.natCast_nonneg v
    rw [if_pos h0]
    show @Bool.rec (fun _ => Option Nat) none (some v) (Nat.blt v n) = _
    by_cases c : v < n
    · rw [show Nat.blt v n = true from Nat.ble_eq_true_of_le c, if_pos (by exact Int.ofNat_lt.mpr c)]; rfl
    · have : Nat.blt v n = false := by
        cases q : Nat.blt v n with
        | false => rfl
        | true => exact absurd (Nat.le_of_ble_eq_true q) c
      rw [this, if_neg (show ¬ Int.ofNat v < (n : Int) from fun z => c (Int.ofNat_lt.mp z))]
  | negSucc m =>
    have h0 : ¬ (0 : Int) ≤ Int.negSucc m := by have := Int.negSucc_lt_zero m; omega
    rw [if_neg h0]
    show @Bool.rec (fun _ => Option Nat) none (some (n - (m + 1))) (Nat.ble (m + 1) n) = _
    by_cases c : m + 1 ≤ n
    · rw [show Nat.ble (m + 1) n = true from Nat.ble_eq_true_of_le c, if_pos (by omega)]
      show some _ = some _
      congr 1
      omega
    · have : Nat.ble (m + 1) n = false := by
        cases q : Nat.ble (m + 1) n with
        | false => rfl
        | true => exact absurd (Nat.le_of_ble_eq_true q) c
      rw [this, if_neg (by omega)]
def fSet (x y z : EV) (h : EH) (no : RS) (k : EH → RS) : RS := onRef x no fun n => onOpt (h.get n) no fun o => o.cs
  (fun xs => onInt y no fun i => onOpt (ixN2 (lLen xs) i) no fun j => k (h.put n (.lst (setN xs j z))))
  (fun kvs => cnd (isKey y) (cnd (Nat.ble (lLen kvs) LIM) (k (h.put n (.dic (dPut kvs y z)))) no) no) (fun _ _ => no)
def rSetA : TSet := fun o i v H Q => rSetL o i v H Q ∨ rSetD o i v H Q
theorem set_any (hu : X.A.units + 1 < cLine) : PSet X rSetA := fun pins s σ H o i v ov iv u Q I r1 r2 r3 h => h.elim (set_list pins s σ H o i v ov iv u Q I r1 r2 r3) (set_dict hu pins s σ H o i v ov iv u Q I r1 r2 r3)
theorem fSet_ok {x y z : EV} {vx vy vz : V} {h : EH} {D : Ends} {es : ES} {σ : L2.St} (em : Emb G ρ h H) (sl : Slots G ρ h.n H es σ) (rx : Rep G ρ h.n H x vx) (ry : Rep G ρ h.n H y vy) (rz : Rep G ρ h.n H z vz)
    (e : KS G ρ h H D (fSet x y z h .no fun h => .nx es h)) : rSetA vx vy vz H fun H' => D.nx σ H' := by
  obtain ⟨n, rfl, eb⟩ := onRef_ok (P := IsK G ρ h H D) isNoK e
  obtain ⟨o, g, ec⟩ := onOpt_ok (P := IsK G ρ h H D) isNoK eb
  cases rx
  cases o with
  | lst xs =>
    obtain ⟨i, rfl, ed⟩ := onInt_ok (P := IsK G ρ h H D) isNoK ec
    obtain ⟨j, hj, ee⟩ := onOpt_ok (P := IsK G ρ h H D) isNoK ed
    cases ry
    obtain ⟨vs, h1, rs⟩ := lst_at em g
    rw [ixN2_eq, lLen_eq, rs.length] at hj
    rw [setN_eq] at ee
    exact .inl ⟨_, vs, i, j, rfl, rfl, h1, hj, KS.put ee em sl g (.lst (rs.set rz j))⟩
  | dic kvs =>
    obtain ⟨hk, ef⟩ := cnd_ok (P := IsK G ρ h H D) isNoK ec
    obtain ⟨hl, eg⟩ := cnd_ok (P := IsK G ρ h H D) isNoK ef
    have hl := Nat.le_of_ble_eq_true hl
    rw [lLen_eq] at hl
    obtain ⟨key, rfl⟩ := isKey_ok hk
    obtain ⟨ks, h1, rs⟩ := dic_at em g
    rw [keyE_rep ry]
    rw [rs.length] at hl
    exact .inr ⟨_, _, rfl, DPut.k h1 (lim_line2 hl), KS.put eg em sl g (.dic (rs.put key rz))⟩
  | ins _ _ => exact ec.elim
def sSub (v o i : DE) : DS := fun s h => (v s h).bd .no fun z h => (o s h).bd .no fun x h => (i s h).bd .no fun y h => fSet x y z h .no fun h => .nx s h
theorem s_sub1 {o i e : Expr} {tpos : Pos} {dO di dv : DE} (hu : X.A.units + 1 < cLine) (he : PE X e (rdE G dv)) (ho : PE X o (rdE G dO)) (hi : PE X i (rdE G di))
    (ha : ∀ v, assign (.Subscript o i tpos) X.env v = (do
      let ov ← holding [v] (eval o X.env)
      let iv ← holding [v, ov] (eval i X.env)
      standAt tpos
      holding [v, ov, iv] (setItem ov iv v)
      release [v, ov, iv] []))
    (hs : swapsWithSole [.Subscript o i tpos] e pos.line X.env = pure false) (hw : swappedStores [.Subscript o i tpos] e X.env = pure none) (h1 : (assignEach [.Subscript o i tpos] X.env).map (·.2) = [assign (.Subscript o i tpos) X.env]) :
    PS X (.Assign [.Subscript o i tpos] e pos) (rdS G (sSub dv dO di)) := by
  refine PS.weak (ps_asg he (pg_sub ho hi (set_any hu) ha) hs hw h1) ?_
  rintro D σ H ⟨ρ, es, h, em, sl, e⟩
  obtain ⟨z, h1, e1, eb⟩ := R.bd_ok (P := IsK G ρ h H D) isNoK e
  obtain ⟨x, h2, e2, ec⟩ := R.bd_ok (P := IsK G ρ h H D) isNoK eb
  obtain ⟨y, h3, e3, ed⟩ := R.bd_ok (P := IsK G ρ h H D) isNoK ec
  refine ⟨ρ, es, h, z, h1, em, sl, e1, fun ρ1 vz H1 l1 em1 rz => ⟨ρ1, es, h1, x, h2, em1, sl.lat l1, e2, fun ρ2 vx H2 l2 em2 rx => ⟨ρ2, es, h2, y, h3, em2, (sl.lat l1).lat l2, e3, fun ρ3 vy H3 l3 em3 ry => ?_⟩⟩⟩
  exact fSet_ok em3 (((sl.lat l1).lat l2).lat l3) (rx.lat l3) ry ((rz.lat l2).lat l3) (KS.after (r := fSet x y z h3 .no fun h => .nx es h) ed ((l1.trans l2).trans l3))
end
end LV
end

/-! ##### _ren.lean -/
set_option Elab.async false
set_option linter.all false
set_option maxRecDepth 100000
set_option maxHeartbeats 4000000
set_option autoImplicit false
noncomputable section
namespace LV
open PySem PySem.Spec PyProof.Rows L2

/-! ## what is known of the program -/
structure Tb where
  G : GA
  mg : Str → Option Value
  fa : Nat → Addr
  fd : Nat → FuncData
  ps : Nat → List Str
  nf : Nat
def spC (T : Tb) (C : CF) (i : Nat) : Sp := fun vs H Q _ => vs.length = (T.ps i).length ∧ ∃ ρ h xs x h', Emb T.G ρ h H ∧ Reps T.G ρ h.n H xs vs ∧ C i xs h = .ok x h' ∧ KE T.G ρ h H x h' Q
structure XC (T : Tb) (C : CF) (N : List Str) (sc : Scope) (b : Bool) (k : Nat) (X : Cx) : Prop where
  n : X.N = N
  sc : X.env.scope = sc
  nd : N.Nodup
  K : X.K = T.G.K
  mg : X.mg = T.mg
  cal : X.calm = true
  own : PassesOwn (model X.prog X.w) X.A X.env X.xe
  room : Room (k + 1) X.A
  fn : ∀ i, FnOk X.prog X.w X.K X.mg X.base CX0 k (T.fa i) (T.fd i) (T.ps i) (spC T C i)
  fnx : b = true → ∀ x, X.fn x = true
  clen : ∀ i xs h x h', C i xs h = .ok x h' → xs.length = (T.ps i).length
  kp : ∀ i, i < T.nf → PySem.W.keepIn X.K (.ref (T.fa i)) = true
  bnd : ∀ i, i < T.nf → Binds X.K (T.fd i) (T.ps i) []
section
variable {T : Tb} {C : CF} {N : List Str} {sc : Scope} {b : Bool} {k : Nat} {X : Cx} (c : XC T C N sc b k X)
include c
theorem XC.blk (scope : Scope) (s : Shared) (H : Hp) (Ca : Addr) (cl : List (Str × Addr)) (fp : List Addr) : XC T C N (relS scope sc) false k (X.blk s H scope (compEnvC scope cl Ca X.env) fp) where
  n := c.n
  sc := by show relS scope X.env.scope = _; rw [c.sc]
  nd := c.nd
  K := c.K
  mg := c.mg
  cal := c.cal
  own := PassesOwn.never
  room := c.room
  fn := c.fn
  fnx := fun z => nomatch z
  clen := c.clen
  kp := c.kp
  bnd := c.bnd
theorem XC.g : (⟨X.K, T.G.gl, T.G.ca⟩ : GA) = T.G := by rw [c.K]
theorem XC.nN : X.N.Nodup := by rw [c.n]; exact c.nd
theorem XC.hn {i : Nat} {x : Str} (h : N[i]? = some x) : X.N[i]? = some x := by rw [c.n]; exact h
theorem XC.lk {x : Str} {kd : NameKind} (h : sc.names.lookup x = some kd) : X.env.scope.names.lookup x = some kd := by rw [c.sc]; exact h
theorem XC.gl {x : Str} (h : sc.names.lookup x = some .globalImplicit) : Gl X x := c.lk h
theorem XC.u1 : X.A.units + 1 < cLine := by have := c.room.un; omega
theorem XC.u0 : X.A.units < cLine := by have := c.room.un; omega
theorem XC.u65 : X.A.units + 65 < cLine := by have := c.room.un; omega
theorem XC.u64 : X.A.units + 64 < cLine := by have := c.room.un; omega
theorem XC.r : Room k X.A := c.room.mono (Nat.le_succ k)

/-! ### names, constants -/
theorem XC.var {i : Nat} {x : Str} {pos : Pos} (hi : N[i]? = some x) (hv : sc.names.lookup x = some .local ∨ sc.names.lookup x = some .cell ∨ sc.names.lookup x = some .free) (hd : (x == ("__debug__" : Str)) = false) (hcd : (x == ("__classdict__" : Str)) = false) :
    PE X (.Name x pos) (rdE T.G (eVar i)) :=
  q_var (c.hn hi) (by rcases hv with h | h | h; exact .inl (c.lk h); exact .inr (.inl (c.lk h)); exact .inr (.inr (c.lk h))) hd hcd
/-- a constant of the module: what stands for it at any time -/
structure Glo (T : Tb) (x : Str) (e : EV) : Prop where
  ex : ∃ v u, T.mg x = some u ∧ RelV v u ∧ ∀ ρ m H, Rep T.G ρ m H e v
theorem XC.glob {x : Str} {e : EV} {pos : Pos} (W : Glo T x e) (hg : sc.names.lookup x = some .globalImplicit) (hd : (x == ("__debug__" : Str)) = false) : PE X (.Name x pos) (rdE T.G (eC e)) := by
  obtain ⟨v, u, h1, h2, h3⟩ := W.ex
  exact q_c (pe_glob (c.gl hg) (by rw [c.mg]; exact h1) h2 hd) h3
omit c in
theorem k_int {i j pos} : PE X (.Constant (.int i) j pos) (rdE T.G (eC (.int i))) := q_c pe_int fun _ _ _ => .int i
omit c in
theorem k_str {x j pos} : PE X (.Constant (.str x) j pos) (rdE T.G (eC (.str x))) := q_c pe_str fun _ _ _ => .str x
omit c in
theorem k_bl {x j pos} : PE X (.Constant (.bool x) j pos) (rdE T.G (eC (.bl x))) := q_c pe_bl fun _ _ _ => .bl x
omit c in
theorem k_non {j pos} : PE X (.Constant .none j pos) (rdE T.G (eC .non)) := q_c pe_non fun _ _ _ => .non
def eNeg (d : DE) : DE := fun s h => (d s h).bd .no fun x h => onInt x .no fun i => frI (Int.neg i) fun j => .ok (.int j) h
omit c in
theorem k_neg {a : Expr} {d : DE} {pos : Pos} (ha : PE X a (rdE T.G d)) : PE X (.UnaryOp .USub a pos) (rdE T.G (eNeg d)) := by
  refine PE.weak (pe_un un_neg ha) ?_
  rintro σ H Q ⟨ρ, es, h, z, h', em, sl, e, k⟩
  obtain ⟨x, h1, e1, eb⟩ := R.bd_ok (P := Is z h') isNo e
  obtain ⟨i, rfl, ec⟩ := onInt_ok (P := Is z h') isNo eb
  have e9 : R.ok (.int (-i)) h1 = .ok z h' := (frI_eq _ _).symm.trans ec
  cases e9
  refine ⟨ρ, es, h, _, _, em, sl, e1, fun ρ1 v H1 l1 em1 rx => ?_⟩
  cases rx
  exact ⟨i, rfl, (k.after l1).here em1 (.int _)⟩

/-! ### operators, by the context -/
theorem XC.cast {e : Expr} {d : DE} (h : PE X e (rdE ⟨X.K, T.G.gl, T.G.ca⟩ d)) : PE X e (rdE T.G d) := by rw [c.g] at h; exact h
theorem XC.uncast {e : Expr} {d : DE} (h : PE X e (rdE T.G d)) : PE X e (rdE ⟨X.K, T.G.gl, T.G.ca⟩ d) := by rw [c.g]; exact h
theorem XC.ouncast {e : Option Expr} {d : DO} (h : PO X e (rdO T.G d)) : PO X e (rdO ⟨X.K, T.G.gl, T.G.ca⟩ d) := by rw [c.g]; exact h
theorem XC.auncast {e : List Expr} {d : DA} (h : PA X e (rdA T.G d)) : PA X e (rdA ⟨X.K, T.G.gl, T.G.ca⟩ d) := by rw [c.g]; exact h
variable {a d : Expr} {da db : DE} {pos : Pos}
theorem XC.add (ha : PE X a (rdE T.G da)) (hb : PE X d (rdE T.G db)) : PE X (.BinOp a .Add d pos) (rdE T.G (eOp fAdd da db)) := c.cast (q_op o_add s_add (c.uncast ha) (c.uncast hb))
theorem XC.sub (ha : PE X a (rdE T.G da)) (hb : PE X d (rdE T.G db)) : PE X (.BinOp a .Sub d pos) (rdE T.G (eOp fSub da db)) := q_op op_sub s_sub ha hb
theorem XC.mul (ha : PE X a (rdE T.G da)) (hb : PE X d (rdE T.G db)) : PE X (.BinOp a .Mult d pos) (rdE T.G (eOp fMul da db)) := c.cast (q_op o_mul s_mul (c.uncast ha) (c.uncast hb))
theorem XC.mod (ha : PE X a (rdE T.G da)) (hb : PE X d (rdE T.G db)) : PE X (.BinOp a .Mod d pos) (rdE T.G (eOp fMod da db)) := q_op op_mod s_mod ha hb
theorem XC.fdiv (ha : PE X a (rdE T.G da)) (hb : PE X d (rdE T.G db)) : PE X (.BinOp a .FloorDiv d pos) (rdE T.G (eOp fFdiv da db)) := q_op op_fdiv s_fdiv ha hb
theorem XC.lt (ha : PE X a (rdE T.G da)) (hb : PE X d (rdE T.G db)) : PE X (.Compare a [.Lt] [d] pos) (rdE T.G (eOp fLt da db)) := q_cmp op_lt s_lt ha hb (nomark _)
theorem XC.le (ha : PE X a (rdE T.G da)) (hb : PE X d (rdE T.G db)) : PE X (.Compare a [.LtE] [d] pos) (rdE T.G (eOp fLe da db)) := q_cmp op_le s_le ha hb (nomark _)
theorem XC.gt (ha : PE X a (rdE T.G da)) (hb : PE X d (rdE T.G db)) : PE X (.Compare a [.Gt] [d] pos) (rdE T.G (eOp fGt da db)) := q_cmp op_gt s_gt ha hb (nomark _)
theorem XC.ge (ha : PE X a (rdE T.G da)) (hb : PE X d (rdE T.G db)) : PE X (.Compare a [.GtE] [d] pos) (rdE T.G (eOp fGe da db)) := q_cmp op_ge s_ge ha hb (nomark _)
theorem XC.is (ha : PE X a (rdE T.G da)) (hb : PE X d (rdE T.G db)) : PE X (.Compare a [.Is] [d] pos) (rdE T.G (eOp fIs da db)) := q_cmp o_is s_is ha hb (nomark _)
theorem XC.isn (ha : PE X a (rdE T.G da)) (hb : PE X d (rdE T.G db)) : PE X (.Compare a [.IsNot] [d] pos) (rdE T.G (eOp fIsN da db)) := q_cmp o_isn s_isn ha hb (nomark _)
theorem XC.tlt (ha : PE X a (rdE T.G da)) (hb : PE X d (rdE T.G db)) : PT X (.Compare a [.Lt] [d] pos) (rdB T.G (bVal (eOp fLt da db))) := t_cmp op_lt s_lt ha hb (nomark _)
theorem XC.tle (ha : PE X a (rdE T.G da)) (hb : PE X d (rdE T.G db)) : PT X (.Compare a [.LtE] [d] pos) (rdB T.G (bVal (eOp fLe da db))) := t_cmp op_le s_le ha hb (nomark _)
theorem XC.tgt (ha : PE X a (rdE T.G da)) (hb : PE X d (rdE T.G db)) : PT X (.Compare a [.Gt] [d] pos) (rdB T.G (bVal (eOp fGt da db))) := t_cmp op_gt s_gt ha hb (nomark _)
theorem XC.tge (ha : PE X a (rdE T.G da)) (hb : PE X d (rdE T.G db)) : PT X (.Compare a [.GtE] [d] pos) (rdB T.G (bVal (eOp fGe da db))) := t_cmp op_ge s_ge ha hb (nomark _)
theorem XC.tis (ha : PE X a (rdE T.G da)) (hb : PE X d (rdE T.G db)) : PT X (.Compare a [.Is] [d] pos) (rdB T.G (bVal (eOp fIs da db))) := t_cmp o_is s_is ha hb (nomark _)
theorem XC.tisn (ha : PE X a (rdE T.G da)) (hb : PE X d (rdE T.G db)) : PT X (.Compare a [.IsNot] [d] pos) (rdB T.G (bVal (eOp fIsN da db))) := t_cmp o_isn s_isn ha hb (nomark _)
theorem XC.tcast {e : Expr} {d : DB} (h : PT X e (rdB ⟨X.K, T.G.gl, T.G.ca⟩ d)) : PT X e (rdB T.G d) := by rw [c.g] at h; exact h
theorem XC.in_ (ha : PE X a (rdE T.G da)) (hb : PE X d (rdE T.G db)) (hm : behindInMarks .In d = false) : PE X (.Compare a [.In] [d] pos) (rdE T.G (eOp fIn da db)) := c.cast (q_cmp (o_in c.u65) s_in (c.uncast ha) (c.uncast hb) hm)
theorem XC.nin (ha : PE X a (rdE T.G da)) (hb : PE X d (rdE T.G db)) (hm : behindInMarks .NotIn d = false) : PE X (.Compare a [.NotIn] [d] pos) (rdE T.G (eOp fNotIn da db)) := c.cast (q_cmp (o_notin c.u65) s_notin (c.uncast ha) (c.uncast hb) hm)
theorem XC.tin (ha : PE X a (rdE T.G da)) (hb : PE X d (rdE T.G db)) (hm : behindInMarks .In d = false) : PT X (.Compare a [.In] [d] pos) (rdB T.G (bVal (eOp fIn da db))) := c.tcast (t_cmp (o_in c.u65) s_in (c.uncast ha) (c.uncast hb) hm)
theorem XC.tnin (ha : PE X a (rdE T.G da)) (hb : PE X d (rdE T.G db)) (hm : behindInMarks .NotIn d = false) : PT X (.Compare a [.NotIn] [d] pos) (rdB T.G (bVal (eOp fNotIn da db))) := c.tcast (t_cmp (o_notin c.u65) s_notin (c.uncast ha) (c.uncast hb) hm)
theorem XC.ix (ha : PE X a (rdE T.G da)) (hb : PE X d (rdE T.G db)) (hs : PlainIx d) : PE X (.Subscript a d pos) (rdE T.G (eOp fIx da db)) := c.cast (q_ix c.u1 (c.uncast ha) (c.uncast hb) hs)
theorem XC.sl {lo hi : Option Expr} {p2 : Pos} {dl du : DO} (ha : PE X a (rdE T.G da)) (hl : PO X lo (rdO T.G dl)) (hu : PO X hi (rdO T.G du)) : PE X (.Subscript a (.Slice lo hi none p2) pos) (rdE T.G (eSl da dl du)) := c.cast (q_sl (c.uncast ha) (c.ouncast hl) (c.ouncast hu))
theorem XC.fld {f : Str} {cs : List Nat} (F : Fld T.G.K T.G.ca f cs) (ha : PE X a (rdE T.G da)) (hb : attributeBase a f X.env (eval a X.env) = eval a X.env) : PE X (.Attribute a f pos) (rdE T.G (eFld cs f da)) := c.cast (q_fld (by rw [c.K]; exact F) (c.uncast ha) hb)

/-! ### calls of built-ins -/
variable {x : Str} {p : Pos} {es : List Expr} {dA : DA}
theorem XC.cb {id : String} {r : List V → Hp → VK → Prop} {f : List EV → EH → R} (hc : CallR X (.builtin id) r) (hf : CallS T.G f r) (hm : T.mg x = none) (hv : bootBuiltins x = some (.builtin id)) (hg : sc.names.lookup x = some .globalImplicit) (ha : PA X (a :: es) (rdA T.G dA))
    (hn : x ≠ "__name__") (hdb : (x == ("__debug__" : Str)) = false) (he : starEach (a :: es) X.env = (false, eval a X.env) :: starEach es X.env) (hpl : (backTo pos (starEach es X.env)).any (·.1) = false) : PE X (.Call (.Name x p) (a :: es) [] pos) (rdE T.G (eCB f dA)) :=
  PE.weak (pe_callB hc (c.gl hg) (by rw [c.mg]; exact hm) hv ha hn hdb he hpl) fun σ H Q q => rd_cb hf σ H Q q
theorem XC.ct {Ty : String} {r : List V → Hp → VK → Prop} {f : List EV → EH → R} (hc : CallR X (.type Ty) r) (hf : CallS T.G f r) (hm : T.mg x = none) (hv : bootBuiltins x = some (.type Ty)) (hg : sc.names.lookup x = some .globalImplicit) (ha : PA X (a :: es) (rdA T.G dA))
    (hn : x ≠ "__name__") (hdb : (x == ("__debug__" : Str)) = false) (he : starEach (a :: es) X.env = (false, eval a X.env) :: starEach es X.env) (hpl : (backTo pos (starEach es X.env)).any (·.1) = false) : PE X (.Call (.Name x p) (a :: es) [] pos) (rdE T.G (eCB f dA)) :=
  PE.weak (pe_callTy hc (c.gl hg) (by rw [c.mg]; exact hm) hv ha hn hdb he hpl) fun σ H Q q => rd_cb hf σ H Q q
theorem XC.kx {r : PySem.W.Frag → List V → Hp → VK → Prop} {v : Value} (h : CallR X v (r X.K)) : CallR X v (r T.G.K) := by rw [c.K] at h; exact h

/-! ### calls of functions -/
theorem rd_call {i : Nat} {Q : VK} {H : Hp} {σ : L2.St} (q : rdE T.G (eCB (C i) dA) σ H Q) : tCall (spC T C i) [] E0 (rdA T.G dA) σ H Q := by
  obtain ⟨ρ, es, h, z, h', em, sl, e, k⟩ := q
  obtain ⟨xs, h1, e1, eb⟩ := RA.bd_ok (P := Is z h') isNo e
  refine ⟨ρ, es, h, xs, h1, em, sl, e1, fun ρ1 vs H1 l1 em1 rs => ?_⟩
  show spC T C i (vs ++ []) H1 Q E0
  rw [List.append_nil]
  exact ⟨by rw [← rs.length]; exact c.clen i xs h1 z h' eb, ρ1, h1, xs, z, h', em1, rs, eb, k.after l1⟩
theorem XC.call {i : Nat} (hm : T.mg x = some (.ref (T.fa i))) (hi : i < T.nf) (hg : sc.names.lookup x = some .globalImplicit) (ha : PA X (a :: es) (rdA T.G dA)) (hdb : (x == ("__debug__" : Str)) = false)
    (he : starEach (a :: es) X.env = (false, eval a X.env) :: starEach es X.env) (hpl : (backTo pos (starEach es X.env)).any (·.1) = false) : PE X (.Call (.Name x p) (a :: es) [] pos) (rdE T.G (eCB (C i) dA)) :=
  PE.weak (pe_call (c.fn i) c.r (c.gl hg) (by rw [c.mg]; exact hm) (c.kp i hi) (c.bnd i hi) .nil pass0 ha hdb he hpl) fun σ H Q q => rd_call c q
theorem XC.call0 {i : Nat} (hm : T.mg x = some (.ref (T.fa i))) (hi : i < T.nf) (hg : sc.names.lookup x = some .globalImplicit) (hdb : (x == ("__debug__" : Str)) = false) : PE X (.Call (.Name x p) [] [] pos) (rdE T.G (eCB (C i) aNil)) := by
  refine PE.weak (pe_call0 (c.fn i) c.r (c.gl hg) (by rw [c.mg]; exact hm) (c.kp i hi) (c.bnd i hi) .nil pass0 hdb) fun σ H Q q => ?_
  obtain ⟨ρ, es, h, z, h', em, sl, e, k⟩ := q
  exact ⟨by show 0 = _; have := c.clen i [] h z h' e; exact this, ρ, h, [], z, h', em, .nil, e, k⟩

/-! ### methods -/
def mAt (cs : List (Nat × Nat)) (n : Nat) : Option Nat := @List.rec (Nat × Nat) (fun _ => Option Nat) none (fun p _ ih => @Bool.rec (fun _ => Option Nat) ih (some p.2) (Nat.beq n p.1)) cs
structure Mth (T : Tb) (m : Str) (cs : List (Nat × Nat)) : Prop where
  ok : ∀ p ∈ cs, Cls T.G.K (T.G.ca p.1) ∧ Meth T.G.K (T.G.ca p.1) m (T.fa p.2) ∧ p.2 < T.nf
omit c in
theorem Mth.nil {m : Str} : Mth T m [] := ⟨fun _ h => by cases h⟩
omit c in
theorem Mth.cons {m : Str} {cl i : Nat} {cs : List (Nat × Nat)} (h1 : Cls T.G.K (T.G.ca cl)) (h2 : Meth T.G.K (T.G.ca cl) m (T.fa i)) (h3 : i < T.nf) (h : Mth T m cs) : Mth T m ((cl, i) :: cs) :=
  ⟨fun d hd => (List.mem_cons.mp hd).elim (fun e => by rw [e]; exact ⟨h1, h2, h3⟩) (h.ok d)⟩
omit c in
theorem mAt_ok {n i : Nat} : ∀ {cs : List (Nat × Nat)}, mAt cs n = some i → (n, i) ∈ cs
  | [], h => by cases h
  | (cl, j) :: cs, h => by
    have h1 : @Bool.rec (fun _ => Option Nat) (mAt cs n) (some j) (Nat.beq n cl) = some i := h
    cases q : Nat.beq n cl with
    | true => rw [q] at h1; cases h1; rw [Nat.eq_of_beq_eq_true q]; exact List.mem_cons_self
    | false => rw [q] at h1; exact List.mem_cons_of_mem _ (mAt_ok h1)
def isN (o : Option EV) : Bool := @Option.rec EV (fun _ => Bool) true (fun _ => false) o
def eMth (C : CF) (cs : List (Nat × Nat)) (m : Str) (o : DE) (d : DA) : DE := fun s h => (o s h).bd .no fun x h => onIns h x .no fun _ cl fs => onOpt (mAt cs cl) .no fun i => cnd (isN (fLook fs m)) ((d s h).bd .no fun xs h => C i (x :: xs) h) .no
/-- a method's call: which def it is, is seen at the object -/
def tMthA (K : PySem.W.Frag) (m : Str) (Sp : Addr → L2.Sp → Prop) (ta : TE) (t : TA) : TE := fun σ H Q => ta σ H fun x H1 => ∃ a C dx fs f sp, x = .ref a ∧ H1 a = some (.ins C dx fs) ∧ Cls K C ∧ Meth K C m f ∧ fs.lookup m = none ∧ Sp f sp ∧
  t σ H1 fun vs H2 => sp (x :: vs) H2 Q E0
theorem XC.mth {cs : List (Nat × Nat)} {m : Str} {o : Expr} {apos : Pos} {dO : DE} {pl : Sem Bool} (M : Mth T m cs) (ho : PE X o (rdE T.G dO)) (ha : PA X (a :: es) (rdA T.G dA))
    (hst : starEach (a :: es) X.env = (false, eval a X.env) :: starEach es X.env) (hpl : (backTo pos (starEach es X.env)).any (·.1) = false)
    (ht : eval (.Call (.Attribute o m apos) (a :: es) [] pos) X.env = (do
      let ov ← eval o X.env
      standAt apos.atName
      let (f, first) ← holding [ov] (getMethod ov m pl)
      callWith pos f first (backTo pos (starEach (a :: es) X.env)) (backToKw pos (keywordEach [] X.env)))) :
    PE X (.Call (.Attribute o m apos) (a :: es) [] pos) (rdE T.G (eMth C cs m dO dA)) := by
  refine ⟨fun pins s σ H Q I q => ?_⟩
  obtain ⟨ρ, ez, h, z, h', em, sl, e, k⟩ := q
  obtain ⟨x, h1, e1, eb⟩ := R.bd_ok (P := Is z h') isNo e
  obtain ⟨n, cl, fs, ex, g, ec⟩ := onIns_ok (P := Is z h') isNo eb
  obtain ⟨i, hi, ed⟩ := onOpt_ok (P := Is z h') isNo ec
  obtain ⟨hf, ee⟩ := cnd_ok (P := Is z h') isNo ed
  obtain ⟨xs, h2, e2, ef⟩ := RA.bd_ok (P := Is z h') isNo ee
  obtain ⟨c1, c2, c3⟩ := M.ok _ (mAt_ok hi)
  subst ex
  refine PySem.W.methodCall_KW (pl := pl) (thn (ho.run pins s σ H (fun v H1 => ∃ ρ1, Lat T.G ρ h H ρ1 h1 H1 ∧ Emb T.G ρ1 h1 H1 ∧ Rep T.G ρ1 h1.n H1 (.ref n) v) I ⟨ρ, ez, h, _, h1, em, sl, e1, fun ρ1 v H1 l1 em1 rx => ⟨ρ1, l1, em1, rx⟩⟩) fun u s1 ⟨v, H1, I1, rv, ρ1, l1, em1, rx⟩ => ?_) ht
  cases rx
  obtain ⟨dx, gs, g1, rf⟩ := ins_at em1 g
  obtain rfl : u = Value.ref (ρ1 n) := rv
  have hl : gs.lookup m = none := by
    rcases rf.look m with ⟨_, a2⟩ | ⟨y, v', a1, _, _⟩
    · exact a2
    · rw [a1] at hf; cases hf
  have c2' : Meth X.K (T.G.ca cl) m (T.fa i) := by rw [c.K]; exact c2
  refine getmeth_ok I1 g1 (by rw [c.K]; exact c1) c2' hl ?_
  refine PySem.W.callWith_K (first := [.ref (ρ1 n)]) (h₀ := X.base) I1.ok.mod.kin c2'.kp (thn (ha.run pos pins s1 σ H1 (fun vs H2 => spC T C i (.ref (ρ1 n) :: (vs ++ [])) H2 Q E0) I1 ⟨ρ1, ez, h1, xs, h2, em1, sl.lat l1, e2, fun ρ2 vs H2 l2 em2 rs => ?_⟩) fun us s2 ⟨vs, H2, I2, r, q2⟩ => ⟨I2.kIn, ?_⟩) hst hpl
  · show spC T C i (.ref (ρ1 n) :: (vs ++ [])) H2 Q E0
    rw [List.append_nil]
    have hρ : ρ2 n = ρ1 n := l2.sub n (em1.lt n _ g)
    refine ⟨by rw [List.length_cons, ← rs.length]; exact c.clen i _ h2 z h' ef, ρ2, h2, _, z, h', em2, .cons ?_ rs, ef, k.after (l1.trans l2)⟩
    rw [← hρ]
    exact .ref (Nat.lt_of_lt_of_le (em1.lt n _ g) l2.le)
  · exact run_fn (us := .ref (ρ1 n) :: us) (vs := .ref (ρ1 n) :: vs) (c.fn i) c.r (c.bnd i c3) .nil pass0 I2 (.cons rfl r) q2
theorem XC.mth0 {cs : List (Nat × Nat)} {m : Str} {o : Expr} {apos : Pos} {dO : DE} {pl : Sem Bool} (M : Mth T m cs) (ho : PE X o (rdE T.G dO))
    (ht : eval (.Call (.Attribute o m apos) [] [] pos) X.env = (do
      let ov ← eval o X.env
      standAt apos.atName
      let (f, first) ← holding [ov] (getMethod ov m pl)
      callWith pos f first (backTo pos (starEach [] X.env)) (backToKw pos (keywordEach [] X.env)))) :
    PE X (.Call (.Attribute o m apos) [] [] pos) (rdE T.G (eMth C cs m dO aNil)) := by
  refine ⟨fun pins s σ H Q I q => ?_⟩
  obtain ⟨ρ, ez, h, z, h', em, sl, e, k⟩ := q
  obtain ⟨x, h1, e1, eb⟩ := R.bd_ok (P := Is z h') isNo e
  obtain ⟨n, cl, fs, ex, g, ec⟩ := onIns_ok (P := Is z h') isNo eb
  obtain ⟨i, hi, ed⟩ := onOpt_ok (P := Is z h') isNo ec
  obtain ⟨hf, ee⟩ := cnd_ok (P := Is z h') isNo ed
  obtain ⟨c1, c2, c3⟩ := M.ok _ (mAt_ok hi)
  subst ex
  have e9 : C i [.ref n] h1 = .ok z h' := ee
  refine PySem.W.methodCall_KW (pl := pl) (thn (ho.run pins s σ H (fun v H1 => ∃ ρ1, Lat T.G ρ h H ρ1 h1 H1 ∧ Emb T.G ρ1 h1 H1 ∧ Rep T.G ρ1 h1.n H1 (.ref n) v) I ⟨ρ, ez, h, _, h1, em, sl, e1, fun ρ1 v H1 l1 em1 rx => ⟨ρ1, l1, em1, rx⟩⟩) fun u s1 ⟨v, H1, I1, rv, ρ1, l1, em1, rx⟩ => ?_) ht
  cases rx
  obtain ⟨dx, gs, g1, rf⟩ := ins_at em1 g
  obtain rfl : u = Value.ref (ρ1 n) := rv
  have hl : gs.lookup m = none := by
    rcases rf.look m with ⟨_, a2⟩ | ⟨y, v', a1, _, _⟩
    · exact a2
    · rw [a1] at hf; cases hf
  have c2' : Meth X.K (T.G.ca cl) m (T.fa i) := by rw [c.K]; exact c2
  refine getmeth_ok I1 g1 (by rw [c.K]; exact c1) c2' hl ?_
  refine PySem.W.callWith_K0 (first := [.ref (ρ1 n)]) I1.kIn c2'.kp (run_fn (us := [.ref (ρ1 n)]) (vs := [.ref (ρ1 n)]) (c.fn i) c.r (c.bnd i c3) .nil pass0 I1 (.cons rfl .nil) ?_)
  exact ⟨c.clen i _ h1 z h' e9, ρ1, h1, _, z, h', em1, .cons (.ref (em1.lt n _ g)) .nil, e9, k.after l1⟩

/-! ### classes made -/
def mkI (C : CF) (i cl : Nat) (xs : List EV) (h : EH) : R := h.new (.ins cl []) .no fun n h => (C i (.ref n :: xs) h).bd .no fun x h => x.cs (.ok (.ref n) h) (fun _ => .no) (fun _ => .no) (fun _ => .no) (fun _ => .no) (fun _ => .no) (fun _ => .no)
theorem mk_sp {i cl : Nat} {xs : List EV} {h h' : EH} {z : EV} {ρ : Nat → Addr} {H : Hp} {vs : List V} {Q : VK} (em : Emb T.G ρ h H) (rs : Reps T.G ρ h.n H xs vs) (e : mkI C i cl xs h = .ok z h') (k : KE T.G ρ h H z h' Q) :
    ∀ x dx, H x = none → H dx = none → dx ≠ x → spC T C i (.ref x :: (vs ++ [])) (upd (upd H dx (.own x)) x (.ins (T.G.ca cl) dx [])) (fun v H2 => v = .non ∧ Q (.ref x) H2) E0 := by
  intro x dx hx hdx hne
  obtain ⟨h2, hn, hg, eb⟩ := EH.new_ok (P := Is z h') isNo e
  obtain ⟨y, h3, e3, ec⟩ := R.bd_ok (P := Is z h') isNo eb
  cases y with
  | non =>
    have e9 : R.ok (.ref h.n) h3 = .ok z h' := ec
    cases e9
    have hx2 : upd H dx (.own x) x = none := by rw [upd_ne (Ne.symm hne)]; exact hx
    have em2 : Emb T.G (ext ρ h.n x) h2 (upd (upd H dx (.own x)) x (.ins (T.G.ca cl) dx [])) := (em.side hdx).made hx2 hn hg (.ins .nil)
    have l2 : Lat T.G ρ h H (ext ρ h.n x) h2 (upd (upd H dx (.own x)) x (.ins (T.G.ca cl) dx [])) := (Lat.side hdx).trans (Lat.made hx2 hn hg)
    have rx : Rep T.G (ext ρ h.n x) h2.n (upd (upd H dx (.own x)) x (.ins (T.G.ca cl) dx [])) (.ref h.n) (.ref x) := by
      have ec : x = ext ρ h.n x h.n := ext_same.symm
      conv => rhs; rw [ec]
      exact .ref (by omega)
    rw [List.append_nil]
    refine ⟨by rw [List.length_cons, ← rs.length]; exact c.clen i _ h2 _ _ e3, _, h2, _, _, _, em2, .cons rx (rs.lat l2), e3, fun ρ3 v H3 l3 em3 r3 => ?_⟩
    cases r3
    refine ⟨rfl, k ρ3 (.ref x) H3 (l2.trans l3) em3 ?_⟩
    have hρ : ρ3 h.n = x := (l3.sub h.n (by omega)).trans ext_same
    rw [← hρ]
    exact .ref (Nat.lt_of_lt_of_le (by omega) l3.le)
  | _ => cases ec
structure Mkr (T : Tb) (x : Str) (cl i : Nat) : Prop where
  made : Mk T.G.K (T.G.ca cl) (T.fa i)
  gl : T.mg x = some (.ref (T.G.ca cl))
  lt : i < T.nf
theorem XC.make {cl i : Nat} (M : Mkr T x cl i) (hg : sc.names.lookup x = some .globalImplicit) (ha : PA X (a :: es) (rdA T.G dA)) (hdb : (x == ("__debug__" : Str)) = false)
    (he : starEach (a :: es) X.env = (false, eval a X.env) :: starEach es X.env) (hpl : (backTo pos (starEach es X.env)).any (·.1) = false) : PE X (.Call (.Name x p) (a :: es) [] pos) (rdE T.G (eCB (mkI C i cl) dA)) := by
  refine PE.weak (pe_make (by rw [c.K]; exact M.made) (c.fn i) c.room (c.gl hg) (by rw [c.mg]; exact M.gl) (c.bnd i M.lt) .nil pass0 ha hdb he hpl) fun σ H Q q => ?_
  obtain ⟨ρ, es, h, z, h', em, sl, e, k⟩ := q
  obtain ⟨xs, h1, e1, eb⟩ := RA.bd_ok (P := Is z h') isNo e
  exact ⟨ρ, es, h, xs, h1, em, sl, e1, fun ρ1 vs H1 l1 em1 rs => mk_sp c em1 rs eb (k.after l1)⟩
theorem XC.make0 {cl i : Nat} (M : Mkr T x cl i) (hg : sc.names.lookup x = some .globalImplicit) (hdb : (x == ("__debug__" : Str)) = false) : PE X (.Call (.Name x p) [] [] pos) (rdE T.G (eCB (mkI C i cl) aNil)) := by
  refine PE.weak (pe_make0 (by rw [c.K]; exact M.made) (c.fn i) c.room (c.gl hg) (by rw [c.mg]; exact M.gl) (c.bnd i M.lt) .nil pass0 hdb) fun σ H Q q => ?_
  obtain ⟨ρ, es, h, z, h', em, sl, e, k⟩ := q
  exact mk_sp c em .nil (show mkI C i cl [] h = .ok z h' from e) k
end
end LV
end

/-! ##### _ren.lean -/
set_option Elab.async false
set_option linter.all false
set_option maxRecDepth 100000
set_option maxHeartbeats 4000000
set_option autoImplicit false
noncomputable section
namespace LV
open PySem PySem.Spec PyProof.Rows L2

/-! ## own == and != -/
section
open PySem.W
variable {prog : Program} {w : World} {A : Around} {E : Value → Shared → Prop} {s : Shared} {K : Frag} {x C L f : Addr} {h₀ : Heap} {m : Str → Option Value} {ox : Obj} {od : Option Obj} {name : Str} {b tb : Value}
theorem ifBound_B {M : Model} {id : String} {args : List Value} {Q : Option Value → Shared → Prop} (X : K.In s.heap) (I : InstAt s.heap x ox C od) (hs : findIn K (.ref C) name = some (some (.builtin id)))
    (hb : ∀ self, bindSpecial (.builtin id) self = pure (.builtin id, [self]))
    (h : wpAny M A (call (.builtin id) (.ref x :: args)) (fun v => Q (some v)) E s) : wpAny M A (callSpecialIfBound? (.ref x) name args) Q E s := by
  simp only [callSpecialIfBound?, bindSpecialIfBound?]
  refine wpAny_holding (wpAny_bind (wpAny_bind (wpAny_bind (I.type.here ((looks_findIn X hs).here ?_)))))
  refine wpAny_bind (wpAny_askSetting (wpAny_ite ?_))
  have fin : wpAny M A (call (.builtin id) ([.ref x] ++ args) >>= fun v => pure (some v)) Q E s := wpAny_bind (wpAny_mono h (fun v s' h' => wpAny_pure h') fun _ _ h' => h')
  split
  · exact wpAny_bind ((Looks.of_pure (hb _)).here (wpAny_pure (by exact fin)))
  · exact wpAny_tryCatch (wpAny_bind ((Looks.of_pure (hb _)).here (wpAny_pure (by exact fin))))
theorem ne_call {Q : Value → Shared → Prop} (hu : A.in1.units < cLine) (X : K.In s.heap) (I : InstAt s.heap x ox C od) (hm : mroIn K C (.type "object") = some true) (hr : findIn K (.ref C) "__eq__" = some (some (.ref f))) (hf : isFn K (.ref f) = true)
    (h : wpAny (model prog w) A.in1 (call (.ref f) [.ref x, b]) (fun v s' => ∃ r, v = .bool r ∧ Q (.bool (!r)) s') E s) : wpAny (model prog w) A (call (.builtin "object.__ne__") [.ref x, b]) Q E s := by
  refine wpAny_call (codeAny_call_builtin PySem.F.slot_object_ne.plain PySem.F.cmpEntry_ne (check_slot (i := "object.__ne__") (owner := "object") (n := "__ne__") (by decide +kernel) (by decide +kernel) (I.type.andThen (looks_mroIn X hm)) (PySem.F.cmpArgs_ne _ _) ?_))
  unfold Builtin.«object.__ne__»
  repeat (first
    | with_reducible refine wpAny_cRoomFor hu ?_
    | (refine wpAny_bind (m := callSpecialIfBound? (.ref x) (Str.ofString "__eq__") [b])
        (ifBound_K X I hr hf (wpAny_mono h (fun r s' hr => by
          obtain ⟨r, rfl, hq⟩ := hr
          repeat (first | exact hq | exact wpAny_pure hq | exact wpAny_truthy_bool hq | (refine wpAny_bind (m := truthy (.bool _)) (wpAny_truthy_bool ?_)) | wp_step)) fun _ _ e => e)))
    | wp_step)
theorem ne_K {Q : Value → Shared → Prop} (hu : A.units + 1 < cLine) (X : K.In s.heap) (I : InstAt s.heap x ox C od) (hb : Looks (model prog w) s.heap (typeOf b) tb) (hn : notFirst K C tb = true)
    (hne : findIn K (.ref C) "__ne__" = some (some (.builtin "object.__ne__"))) (hm : mroIn K C (.type "object") = some true) (hr : findIn K (.ref C) "__eq__" = some (some (.ref f))) (hf : isFn K (.ref f) = true)
    (h : wpAny (model prog w) A.in1 (call (.ref f) [.ref x, b]) (fun v s' => ∃ r, v = .bool r ∧ Q (.bool (!r)) s') E s) : wpAny (model prog w) A (richCompare .NotEq (.ref x) b) Q E s := by
  have one : wpAny (model prog w) A (tryCompare (.ref x) (cmpInfo .NotEq).2.1 b) (fun r s' => ∃ v, r = some v ∧ Q v s') E s := by
    unfold tryCompare
    refine wpAny_bind (ifBound_B X I hne PySem.F.slot_object_ne.bind (ne_call (Q := fun v s' => wpAny (model prog w) A (match some v with | some Value.notImplemented => pure none | none => pure none | some v => pure (some v)) (fun r s' => ∃ v, r = some v ∧ Q v s') E s') hu X I hm hr hf (wpAny_mono h (fun v s' hv => ?_) fun _ _ e => e)))
    obtain ⟨r, rfl, hq⟩ := hv
    refine ⟨r, rfl, ?_⟩
    exact wpAny_pure ⟨_, rfl, hq⟩
  unfold richCompare
  simp only [oneThing_ref]
  refine wpAny_holding (wpAny_bind (wpAny_cRoomFor (Nat.lt_of_succ_lt hu) ?_))
  refine wpAny_bind (I.type.here (wpAny_bind (hb.here ?_)))
  split
  · rename_i q
    have e : subIn K tb (.ref C) = some false := by
      rcases Bool.or_eq_true_iff.mp hn with e | e
      · rw [beq_iff_eq.mp e] at q; simp at q
      · exact beq_iff_eq.mp e
    refine wpAny_bind ((looks_subIn X e).here ?_)
    simp only [Bool.false_eq_true, if_false]
    refine wpAny_bind (wpAny_mono one (fun r s' z => ?_) fun _ _ e => e)
    obtain ⟨v, rfl, hq⟩ := z
    exact wpAny_pure hq
  · refine wpAny_bind (wpAny_pure ?_)
    simp only [Bool.false_eq_true, if_false]
    refine wpAny_bind (wpAny_mono one (fun r s' z => ?_) fun _ _ e => e)
    obtain ⟨v, rfl, hq⟩ := z
    exact wpAny_pure hq
end
end LV
end

/-! ##### _ren.lean -/
set_option Elab.async false
set_option linter.all false
set_option maxRecDepth 100000
set_option maxHeartbeats 4000000
set_option autoImplicit false
noncomputable section
namespace LV
open PySem PySem.Spec PyProof.Rows L2

/-! ## own == and != in the evaluator -/
def fInst (x y : EV) (h : EH) (no other : R) (k : Nat → R) : R := x.cs other (fun _ => other) (fun _ => other) (fun _ => other) (fun _ => other)
  (fun n => onOpt (h.get n) no fun o => o.cs (fun _ => other) (fun _ => other) (fun cl _ => onIns h y no fun _ cl2 _ => cnd (Nat.beq cl2 cl) (k cl) no)) (fun _ => no)
def fEqA (C : CF) (cs : List (Nat × Nat)) (x y : EV) (h : EH) : R := fInst x y h .no (fEq x y h) fun cl => onOpt (mAt cs cl) .no fun i => (C i [x, y] h).bd .no fun r h => onBl r .no fun b => .ok (.bl b) h
def fNeA (C : CF) (cs : List (Nat × Nat)) (x y : EV) (h : EH) : R := fInst x y h .no (fNe x y h) fun cl => onOpt (mAt cs cl) .no fun i => (C i [x, y] h).bd .no fun r h => onBl r .no fun b => .ok (.bl (@Bool.rec (fun _ => Bool) true false b)) h
structure OwnE (T : Tb) (cl i : Nat) : Prop where
  eq : PySem.W.findIn T.G.K (.ref (T.G.ca cl)) "__eq__" = some (some (.ref (T.fa i)))
  fn : PySem.W.isFn T.G.K (.ref (T.fa i)) = true
  ne : PySem.W.findIn T.G.K (.ref (T.G.ca cl)) "__ne__" = some (some (.builtin "object.__ne__"))
  mro : PySem.W.mroIn T.G.K (T.G.ca cl) (.type "object") = some true
  lt : i < T.nf
structure OwnEs (T : Tb) (cs : List (Nat × Nat)) : Prop where
  ok : ∀ p ∈ cs, OwnE T p.1 p.2
theorem OwnEs.nil {T : Tb} : OwnEs T [] := ⟨fun _ h => by cases h⟩
theorem OwnEs.cons {T : Tb} {cl i : Nat} {cs : List (Nat × Nat)} (h1 : OwnE T cl i) (h : OwnEs T cs) : OwnEs T ((cl, i) :: cs) :=
  ⟨fun d hd => (List.mem_cons.mp hd).elim (fun e => by rw [e]; exact h1) (h.ok d)⟩
/-- a two-place operation as the evaluator says it -/
def rdR (G : GA) (f : EV → EV → EH → R) : R2 := fun v w H Q => ∃ ρ h x y z h', Emb G ρ h H ∧ Rep G ρ h.n H x v ∧ Rep G ρ h.n H y w ∧ f x y h = .ok z h' ∧ KE G ρ h H z h' Q
theorem s_rdR {G : GA} {f : EV → EV → EH → R} : OpS G f (rdR G f) := fun ρ h H x y v w z h' Q em rx ry e k => ⟨ρ, h, x, y, z, h', em, rx, ry, e, k⟩
theorem fInst_ok {x y : EV} {h : EH} {other : R} {kk : Nat → R} {z : EV} {h' : EH} (e : fInst x y h .no other kk = .ok z h') : (other = .ok z h') ∨ ∃ n n2 cl fs fs2, x = .ref n ∧ y = .ref n2 ∧ h.get n = some (.ins cl fs) ∧ h.get n2 = some (.ins cl fs2) ∧ kk cl = .ok z h' := by
  cases x with
  | ref n =>
    obtain ⟨o, g, eb⟩ := onOpt_ok (P := Is z h') isNo e
    cases o with
    | lst _ => exact .inl eb
    | dic _ => exact .inl eb
    | ins cl fs =>
      obtain ⟨n2, cl2, fs2, ey, g2, ec⟩ := onIns_ok (P := Is z h') isNo eb
      obtain ⟨hc, ed⟩ := cnd_ok (P := Is z h') isNo ec
      have hc := Nat.eq_of_beq_eq_true hc
      subst hc
      exact .inr ⟨n, n2, cl2, fs, fs2, rfl, ey, g, g2, ed⟩
  | glo _ => cases e
  | _ => exact .inl e
section
variable {T : Tb} {C : CF} {N : List Str} {sc : Scope} {b : Bool} {k : Nat} {X : Cx} (c : XC T C N sc b k X)
include c
/-- a call one C level deeper -/
theorem XC.run_in1 {i : Nat} {pins : List (Addr × Obj)} {σ : L2.St} {H : Hp} {s : Shared} {Q : VK} {us : List Value} {vs : List V} (hi : i < T.nf) (I : Inv X pins σ H s) (r : Vals vs us) (h : spC T C i vs H Q E0) :
    wpAny (model X.prog X.w) X.A.in1 (PySem.call (.ref (T.fa i)) us) (EP X pins σ Q) X.xe s := by
  have hl : (us ++ []).length = (T.ps i).length := by rw [List.append_nil, ← r.length]; exact h.1
  have hb := c.bnd i hi s us I.kIn hl
  rw [List.append_nil] at hb
  refine wpAny_call (codeAny_mono ((c.fn i).run X.A.in1 X.stack s H ⟨us, []⟩ us vs Q E0 c.room.in1 I.env0.in1 hb r h) fun r s' hq => ?_)
  cases r with
  | error e => exact hq.elim
  | ok fl =>
    cases fl with
    | ret u => exact I.after hq
    | next => exact False.elim hq
    | brk => exact False.elim hq
    | cont => exact False.elim hq
theorem XC.o_eq {cs : List (Nat × Nat)} (W : OwnEs T cs) : OpR X (compareOp .Eq) (rdR T.G (fEqA C cs)) := by
  rintro pins s σ H v w u1 u2 Q I r1 r2 ⟨ρ, h, x, y, z, h', em, rx, ry, e, kk⟩
  rcases fInst_ok e with e | ⟨n, n2, cl, fs, fs2, ex, ey, g, g2, e⟩
  · have o := op_eqD (X := X) c.u64
    rw [c.K] at o
    exact o pins s σ H v w u1 u2 Q I r1 r2 (s_eq ρ h H x y v w z h' Q em rx ry e kk)
  · obtain ⟨i, hi, eb⟩ := onOpt_ok (P := Is z h') isNo e
    obtain ⟨rr, h1, e1, ec⟩ := R.bd_ok (P := Is z h') isNo eb
    obtain ⟨bb, ebb, ed⟩ := onBl_ok (P := Is z h') isNo ec
    cases ed
    have O := W.ok _ (mAt_ok hi)
    subst ex ey ebb
    cases rx; cases ry
    cases r1; cases r2
    obtain ⟨dx, gs, k1, _⟩ := ins_at em g
    obtain ⟨dx2, gs2, k2, _⟩ := ins_at em g2
    obtain ⟨mA, J, _⟩ := ins_get I.hok k1
    obtain ⟨mB, J', _⟩ := ins_get I.hok k2
    obtain ⟨od, J, _⟩ := J.look
    obtain ⟨od', J', _⟩ := J'.look
    obtain ⟨m, hF⟩ := I.fr
    have eqX := O.eq
    have fnX := O.fn
    rw [← c.K] at eqX fnX
    show wpAny (model X.prog X.w) X.A (richCompare .Eq (.ref (ρ n)) (.ref (ρ n2))) (EP X pins σ Q) X.xe s
    refine PySem.W.cmp_K (op := .Eq) (tb := .ref (T.G.ca cl)) c.u0 hF I.ok.mod.kin J J'.type (by simp [PySem.W.notFirst]) eqX fnX ?_
    have hsp : spC T C i [.ref (ρ n), .ref (ρ n2)] H (fun v H' => v = .bl bb ∧ Q v H') E0 :=
      ⟨c.clen i [.ref n, .ref n2] h _ _ e1, ρ, h, _, _, _, em, .cons (.ref (em.lt n _ g)) (.cons (.ref (em.lt n2 _ g2)) .nil), e1, fun ρ1 v1 H1 l1 em1 r1 => by
        cases r1
        exact ⟨rfl, (kk.after l1).here em1 (.bl _)⟩⟩
    refine thn (run_fn (us := [.ref (ρ n), .ref (ρ n2)]) (vs := [.ref (ρ n), .ref (ρ n2)]) (c.fn i) c.r (c.bnd i O.lt) .nil pass0 I (.cons rfl (.cons rfl .nil)) hsp) fun u s1 ⟨v1, H1, I1, rv, q1, q2⟩ => ?_
    subst q1
    cases rv
    exact ⟨.bl bb, H1, I1, rfl, q2⟩
theorem XC.o_ne {cs : List (Nat × Nat)} (W : OwnEs T cs) : OpR X (compareOp .NotEq) (rdR T.G (fNeA C cs)) := by
  rintro pins s σ H v w u1 u2 Q I r1 r2 ⟨ρ, h, x, y, z, h', em, rx, ry, e, kk⟩
  rcases fInst_ok e with e | ⟨n, n2, cl, fs, fs2, ex, ey, g, g2, e⟩
  · have o := op_neD (X := X) c.u64
    rw [c.K] at o
    exact o pins s σ H v w u1 u2 Q I r1 r2 (s_ne ρ h H x y v w z h' Q em rx ry e kk)
  · obtain ⟨i, hi, eb⟩ := onOpt_ok (P := Is z h') isNo e
    obtain ⟨rr, h1, e1, ec⟩ := R.bd_ok (P := Is z h') isNo eb
    obtain ⟨bb, ebb, ed⟩ := onBl_ok (P := Is z h') isNo ec
    cases ed
    have O := W.ok _ (mAt_ok hi)
    subst ex ey ebb
    cases rx; cases ry
    cases r1; cases r2
    obtain ⟨dx, gs, k1, _⟩ := ins_at em g
    obtain ⟨dx2, gs2, k2, _⟩ := ins_at em g2
    obtain ⟨mA, J, _⟩ := ins_get I.hok k1
    obtain ⟨mB, J', _⟩ := ins_get I.hok k2
    obtain ⟨od, J, _⟩ := J.look
    obtain ⟨od', J', _⟩ := J'.look
    have eqX := O.eq
    have fnX := O.fn
    have neX := O.ne
    have mroX := O.mro
    rw [← c.K] at eqX fnX neX mroX
    show wpAny (model X.prog X.w) X.A (richCompare .NotEq (.ref (ρ n)) (.ref (ρ n2))) (EP X pins σ Q) X.xe s
    refine ne_K (tb := .ref (T.G.ca cl)) c.u1 I.kIn J J'.type (by simp [PySem.W.notFirst]) neX mroX eqX fnX ?_
    have hsp : spC T C i [.ref (ρ n), .ref (ρ n2)] H (fun v H' => v = .bl bb ∧ Q (.bl (!bb)) H') E0 :=
      ⟨c.clen i [.ref n, .ref n2] h _ _ e1, ρ, h, _, _, _, em, .cons (.ref (em.lt n _ g)) (.cons (.ref (em.lt n2 _ g2)) .nil), e1, fun ρ1 v1 H1 l1 em1 r1 => by
        cases r1
        refine ⟨rfl, ?_⟩
        have := (kk.after l1).here em1 (.bl _)
        cases bb <;> exact this⟩
    refine thn (c.run_in1 (us := [.ref (ρ n), .ref (ρ n2)]) (vs := [.ref (ρ n), .ref (ρ n2)]) O.lt I (.cons rfl (.cons rfl .nil)) hsp) fun u s1 ⟨v1, H1, I1, rv, q1, q2⟩ => ?_
    subst q1
    cases rv
    exact ⟨bb, rfl, .bl (!bb), H1, I1, rfl, q2⟩
variable {a d : Expr} {da db : DE} {pos : Pos}
theorem XC.eq {cs : List (Nat × Nat)} (W : OwnEs T cs) (ha : PE X a (rdE T.G da)) (hb : PE X d (rdE T.G db)) : PE X (.Compare a [.Eq] [d] pos) (rdE T.G (eOp (fEqA C cs) da db)) := q_cmp (c.o_eq W) s_rdR ha hb (nomark _)
theorem XC.ne {cs : List (Nat × Nat)} (W : OwnEs T cs) (ha : PE X a (rdE T.G da)) (hb : PE X d (rdE T.G db)) : PE X (.Compare a [.NotEq] [d] pos) (rdE T.G (eOp (fNeA C cs) da db)) := q_cmp (c.o_ne W) s_rdR ha hb (nomark _)
theorem XC.teq {cs : List (Nat × Nat)} (W : OwnEs T cs) (ha : PE X a (rdE T.G da)) (hb : PE X d (rdE T.G db)) : PT X (.Compare a [.Eq] [d] pos) (rdB T.G (bVal (eOp (fEqA C cs) da db))) := t_cmp (c.o_eq W) s_rdR ha hb (nomark _)
theorem XC.tne {cs : List (Nat × Nat)} (W : OwnEs T cs) (ha : PE X a (rdE T.G da)) (hb : PE X d (rdE T.G db)) : PT X (.Compare a [.NotEq] [d] pos) (rdB T.G (bVal (eOp (fNeA C cs) da db))) := t_cmp (c.o_ne W) s_rdR ha hb (nomark _)
/-- a < b < c, as a value and as a test -/
def eChn (f g : EV → EV → EH → R) (a b c : DE) : DE := fun s h => (a s h).bd .no fun x h => (b s h).bd .no fun y h => (f x y h).bd .no fun z h => onBl z .no fun t => @Bool.rec (fun _ => R) (.ok (.bl false) h) ((c s h).bd .no fun w h => g y w h) t
omit c in
theorem rd_chn {f g : EV → EV → EH → R} {r r' : R2} {dx : DE} (hf : OpS T.G f r) (hg : OpS T.G g r') (σ : L2.St) (H : Hp) (Q : VK) (q : rdE T.G (eChn f g da db dx) σ H Q) : tChain r r' (rdE T.G da) (rdE T.G db) (rdE T.G dx) σ H Q := by
  obtain ⟨ρ, es, h, z, h', em, sl, e, k⟩ := q
  obtain ⟨x, h1, e1, eb⟩ := R.bd_ok (P := Is z h') isNo e
  obtain ⟨y, h2, e2, ec⟩ := R.bd_ok (P := Is z h') isNo eb
  obtain ⟨t, h3, e3, ed⟩ := R.bd_ok (P := Is z h') isNo ec
  obtain ⟨tb, et, ee⟩ := onBl_ok (P := Is z h') isNo ed
  subst et
  refine ⟨ρ, es, h, x, h1, em, sl, e1, fun ρ1 v H1 l1 em1 rx => ⟨ρ1, es, h1, y, h2, em1, sl.lat l1, e2, fun ρ2 w H2 l2 em2 ry => ?_⟩⟩
  refine hf ρ2 h2 H2 x y v w _ h3 _ em2 (rx.lat l2) ry e3 fun ρ3 v3 H3 l3 em3 r3 => ?_
  cases r3
  refine ⟨tb, rfl, ?_⟩
  cases tb with
  | false =>
    have e9 : R.ok (.bl false) h3 = .ok z h' := ee
    cases e9
    exact (k.after ((l1.trans l2).trans l3)).here em3 (.bl _)
  | true =>
    obtain ⟨u, h4, e4, e9⟩ := R.bd_ok (r := dx es h3) (k := fun w h => g y w h) (P := Is z h') isNo ee
    rw [if_pos rfl]
    exact ⟨ρ3, es, h3, u, h4, em3, ((sl.lat l1).lat l2).lat l3, e4, fun ρ4 v4 H4 l4 em4 r4 => hg ρ4 h4 H4 y u w v4 z h' Q em4 ((ry.lat l3).lat l4) r4 e9 (k.after (((l1.trans l2).trans l3).trans l4))⟩
omit c in
theorem q_chn {op op' : CmpOp} {e : Expr} {f g : EV → EV → EH → R} {r r' : R2} {dx : DE} (ho : OpR X (compareOp op) r) (ho' : OpR X (compareOp op') r') (hf : OpS T.G f r) (hg : OpS T.G g r') (ha : PE X a (rdE T.G da)) (hb : PE X d (rdE T.G db)) (he : PE X e (rdE T.G dx)) (hm : lastMarks [op, op'] [d, e] = false) :
    PE X (.Compare a [op, op'] [d, e] pos) (rdE T.G (eChn f g da db dx)) := PE.weak (pe_chain ho ho' ha hb he hm) fun σ H Q q => rd_chn hf hg σ H Q q
omit c in
theorem t_chn {op op' : CmpOp} {e : Expr} {f g : EV → EV → EH → R} {r r' : R2} {dx : DE} (ho : OpR X (compareOp op) r) (ho' : OpR X (compareOp op') r') (hf : OpS T.G f r) (hg : OpS T.G g r') (ha : PE X a (rdE T.G da)) (hb : PE X d (rdE T.G db)) (he : PE X e (rdE T.G dx)) (hm : lastMarks [op, op'] [d, e] = false) :
    PT X (.Compare a [op, op'] [d, e] pos) (rdB T.G (bVal (eChn f g da db dx))) := by
  refine PT.weak (pt_chain ho ho' ha hb he hm) fun σ H Q q => ?_
  obtain ⟨ρ, es, h, z, h', em, sl, e, k⟩ := rd_val σ H Q q
  exact rd_chn hf hg σ H _ ⟨ρ, es, h, z, h', em, sl, e, k⟩
end

/-! ## isinstance -/
def tyE (h : EH) (x : EV) : Option Nat := x.cs (some 0) (fun _ => some 1) (fun _ => some 2) (fun _ => some 3) (fun _ => some 4)
  (fun n => onOpt (h.get n) none fun o => o.cs (fun _ => some 5) (fun _ => some 6) (fun cl _ => some (Nat.add 7 cl))) (fun _ => none)
def tyV (T : Tb) (t : Nat) : Value := if t = 0 then .type "NoneType" else if t = 1 then .type "bool" else if t = 2 then .type "int" else if t = 3 then .type "str" else if t = 4 then .type "tuple" else if t = 5 then .type "list" else if t = 6 then .type "dict" else .ref (T.G.ca (t - 7))
def clV (T : Tb) (t : Nat) : V := if t = 0 then .ty "NoneType" else if t = 1 then .ty "bool" else if t = 2 then .ty "int" else if t = 3 then .ty "str" else if t = 4 then .ty "tuple" else if t = 5 then .ty "list" else if t = 6 then .ty "dict" else .ref (T.G.ca (t - 7))
theorem clV_ok {T : Tb} (t : Nat) : ClsV (clV T t) (tyV T t) := by
  unfold clV tyV
  repeat (split; exact .ty _)
  exact .own _
structure ClsF (K : PySem.W.Frag) (C : Addr) : Prop where
  cls : Cls K C
  ha : PySem.W.findIn K (.ref C) "__class__" = some (some (.builtin "object.__class__"))
  hn : PySem.W.specialIn K (.builtin "object.__class__") "__get__" = some (some (.builtin "getset_descriptor.__get__"))
  htk : PySem.W.takesIn K (.builtin "object.__class__") = some true
  hm : PySem.W.mroIn K C (.type "object") = some true
structure Kit (T : Tb) (c : Nat) (kt : List Bool) : Prop where
  ok : ∀ t b, kt[t]? = some b → PySem.W.kitOne T.G.K (tyV T t) (tyV T c) = some b
structure Own (T : Tb) (n : Nat) : Prop where
  ok : ∀ cl, cl < n → ClsF T.G.K (T.G.ca cl)
theorem ty_ok {T : Tb} {n : Nat} (W : Own T n) {ρ : Nat → Addr} {h : EH} {H : Hp} {x : EV} {v : V} {t : Nat} (em : Emb T.G ρ h H) (r : Rep T.G ρ h.n H x v) (e : tyE h x = some t) (hn : t < 7 + n) : TyX T.G.K H v (tyV T t) := by
  cases x with
  | non => cases e; cases r; exact .base .non
  | bl _ => cases e; cases r; exact .base (.bl _)
  | int _ => cases e; cases r; exact .base (.int _)
  | str _ => cases e; cases r; exact .base (.str _)
  | glo _ => cases e
  | tup xs =>
    cases e
    cases r with
    | tup q _ =>
      rcases q with (q | ⟨ob, q⟩) | ⟨o, its, n, h1, h2, _⟩
      · exact .base (.tup q)
      · exact .fTuple q
      · exact .kTuple h1 h2
  | ref m =>
    obtain ⟨o, g, eb⟩ := onOpt_ok (P := fun z => z = some t) (by simp) e
    cases r
    cases o with
    | lst xs =>
      cases eb
      obtain ⟨vs, h1, _⟩ := lst_at em g
      exact .base (.lst h1)
    | dic kvs =>
      cases eb
      obtain ⟨ks, h1, _⟩ := dic_at em g
      exact .base (.dK h1)
    | ins cl fs =>
      cases eb
      obtain ⟨dx, gs, h1, _⟩ := ins_at em g
      have e1 : tyV T (Nat.add 7 cl) = .ref (T.G.ca cl) := by
        show tyV T (7 + cl) = _
        unfold tyV
        rw [if_neg (by omega), if_neg (by omega), if_neg (by omega), if_neg (by omega), if_neg (by omega), if_neg (by omega), if_neg (by omega)]
        congr 2
        omega
      rw [e1]
      have hn : 7 + cl < 7 + n := hn
      have F := W.ok cl (by omega)
      exact .base (.ins h1 F.cls F.ha F.hn F.htk F.hm)
def anyT (kts : List (List Bool)) (t : Nat) : Option Bool := @List.rec (List Bool) (fun _ => Option Bool) (some false) (fun kt _ ih => onOpt (nth kt t) none fun b => @Bool.rec (fun _ => Option Bool) ih (some true) b) kts
def eIsi (kts : List (List Bool)) (n : Nat) (d : DE) : DE := fun s h => (d s h).bd .no fun x h => onOpt (tyE h x) .no fun t => cnd (Nat.blt t (Nat.add 7 n)) (onOpt (anyT kts t) .no fun b => .ok (.bl b) h) .no
structure Kits (T : Tb) (cs : List Nat) (kts : List (List Bool)) : Prop where
  ok : ∀ t b, anyT kts t = some b → PySem.W.kitAny T.G.K (tyV T t) (cs.map (tyV T)) = some b
theorem Kits.nil {T : Tb} : Kits T [] [] := ⟨fun t b h => by cases h; exact kitAny_nil⟩
theorem Kits.cons {T : Tb} {c : Nat} {cs : List Nat} {kt : List Bool} {kts : List (List Bool)} (K : Kit T c kt) (h : Kits T cs kts) : Kits T (c :: cs) (kt :: kts) := ⟨fun t b e => by
  obtain ⟨x, hx, eb⟩ := onOpt_ok (o := nth kt t) (k := fun b => @Bool.rec (fun _ => Option Bool) (anyT kts t) (some true) b) (P := fun z => z = some b) (by simp) e
  rw [nth_eq] at hx
  have k1 := K.ok t x hx
  cases x with
  | true => cases eb; exact kitAny_cons k1 (fun z => nomatch z) fun _ => rfl
  | false => exact kitAny_cons k1 (fun _ => h.ok t b eb) fun z => nomatch z⟩
/-- classes as expressions -/
structure ClsX (X : Cx) (T : Tb) (e : Expr) (c : Nat) : Prop where
  ev : PE X e (tC (clV T c))
section
variable {T : Tb} {C : CF} {N : List Str} {sc : Scope} {b : Bool} {k : Nat} {X : Cx} (c : XC T C N sc b k X) {a e2 : Expr} {da : DE} {p pos q3 : Pos}
include c
theorem XC.clsT {x : Str} {t : Nat} {u : Value} (hm : T.mg x = none) (hg : sc.names.lookup x = some .globalImplicit) (hv : bootBuiltins x = some u) (hr : RelV (clV T t) u) (hn : x ≠ "__name__") (hd : (x == ("__debug__" : Str)) = false) : ClsX X T (.Name x p) t :=
  ⟨pe_bltn (c.gl hg) (by rw [c.mg]; exact hm) hv hr hn hd⟩
theorem XC.clsO {x : Str} {cl : Nat} (hm : T.mg x = some (.ref (T.G.ca cl))) (hg : sc.names.lookup x = some .globalImplicit) (hd : (x == ("__debug__" : Str)) = false) : ClsX X T (.Name x p) (7 + cl) := by
  refine ⟨pe_glob (c.gl hg) (by rw [c.mg]; exact hm) ?_ hd⟩
  have : clV T (7 + cl) = .ref (T.G.ca cl) := by
    unfold clV
    rw [if_neg (by omega), if_neg (by omega), if_neg (by omega), if_neg (by omega), if_neg (by omega), if_neg (by omega), if_neg (by omega)]
    congr 2
    omega
  rw [this]; rfl
theorem XC.isi {cc n : Nat} {kt : List Bool} (W : Own T n) (K : Kit T cc kt) (hc : ClsX X T e2 cc) (hm : T.mg "isinstance" = none) (hv : bootBuiltins "isinstance" = some (.builtin "isinstance")) (hg : sc.names.lookup ("isinstance" : Str) = some .globalImplicit) (ha : PE X a (rdE T.G da))
    (he : starEach [a, e2] X.env = (false, eval a X.env) :: starEach [e2] X.env) (he2 : starEach [e2] X.env = (false, eval e2 X.env) :: starEach [] X.env) (hpl : (backTo pos (starEach [e2] X.env)).any (·.1) = false) : PE X (.Call (.Name "isinstance" p) [a, e2] [] pos) (rdE T.G (eIsi [kt] n da)) := by
  refine PE.weak (pe_callB call_isi (c.gl hg) (by rw [c.mg]; exact hm) hv (pa_cons ha (pa_cons hc.ev pa_nil he2) he) (by decide) (by decide) he hpl) ?_
  rintro σ H Q ⟨ρ, es, h, z, h', em, sl, e, k⟩
  obtain ⟨x, h1, e1, eb⟩ := R.bd_ok (P := Is z h') isNo e
  obtain ⟨t, et, ec⟩ := onOpt_ok (P := Is z h') isNo eb
  obtain ⟨hlt, ed⟩ := cnd_ok (P := Is z h') isNo ec
  obtain ⟨bb, ebt, ee⟩ := onOpt_ok (P := Is z h') isNo ed
  cases ee
  refine ⟨ρ, es, h, x, _, em, sl, e1, fun ρ1 v H1 l1 em1 rx => ?_⟩
  have K1 := (Kits.cons K Kits.nil).ok t bb ebt
  have k1 : PySem.W.kitOne T.G.K (tyV T t) (tyV T cc) = some bb := by
    obtain ⟨y, hy, e9⟩ := onOpt_ok (o := nth kt t) (k := fun b => @Bool.rec (fun _ => Option Bool) (anyT [] t) (some true) b) (P := fun z => z = some bb) (by simp) ebt
    rw [nth_eq] at hy
    have := K.ok t y hy
    cases y <;> (cases e9; exact this)
  refine ⟨v, clV T cc, tyV T t, tyV T cc, bb, rfl, clV_ok cc, ?_, by rw [c.K]; exact k1, (k.after l1).here em1 (.bl _)⟩
  rw [c.K]
  exact ty_ok W em1 rx et (Nat.le_of_ble_eq_true hlt)
theorem XC.isi2 {c1 c2 n : Nat} {kt1 kt2 : List Bool} {e3 : Expr} {kk : Nat} (W : Own T n) (K1 : Kit T c1 kt1) (K2 : Kit T c2 kt2) (hc1 : ClsX X T e2 c1) (hc2 : ClsX X T e3 c2) (hm : T.mg "isinstance" = none) (hv : bootBuiltins "isinstance" = some (.builtin "isinstance"))
    (hg : sc.names.lookup ("isinstance" : Str) = some .globalImplicit) (ha : PE X a (rdE T.G da)) (he : starEach [a, .Tuple [e2, e3] kk q3] X.env = (false, eval a X.env) :: starEach [.Tuple [e2, e3] kk q3] X.env)
    (he2 : starEach [.Tuple [e2, e3] kk q3] X.env = (false, eval (.Tuple [e2, e3] kk q3) X.env) :: starEach [] X.env) (hpl : (backTo pos (starEach [.Tuple [e2, e3] kk q3] X.env)).any (·.1) = false)
    (he3 : starEach [e2, e3] X.env = (false, eval e2 X.env) :: starEach [e3] X.env) (he4 : starEach [e3] X.env = (false, eval e3 X.env) :: starEach [] X.env) :
    PE X (.Call (.Name "isinstance" p) [a, .Tuple [e2, e3] kk q3] [] pos) (rdE T.G (eIsi [kt1, kt2] n da)) := by
  refine PE.weak (pe_callB call_isiT (c.gl hg) (by rw [c.mg]; exact hm) hv (pa_cons ha (pa_cons (pe_tup (pa_cons hc1.ev (pa_cons hc2.ev pa_nil he4) he3)) pa_nil he2) he) (by decide) (by decide) he hpl) ?_
  rintro σ H Q ⟨ρ, es, h, z, h', em, sl, e, k⟩
  obtain ⟨x, h1, e1, eb⟩ := R.bd_ok (P := Is z h') isNo e
  obtain ⟨t, et, ec⟩ := onOpt_ok (P := Is z h') isNo eb
  obtain ⟨hlt, ed⟩ := cnd_ok (P := Is z h') isNo ec
  obtain ⟨bb, ebt, ee⟩ := onOpt_ok (P := Is z h') isNo ed
  cases ee
  refine ⟨ρ, es, h, x, _, em, sl, e1, fun ρ1 v H1 l1 em1 rx => ?_⟩
  refine ⟨by show 2 ≤ sizeLine; decide, fun tp htp => ?_⟩
  have K9 := (Kits.cons K1 (Kits.cons K2 Kits.nil)).ok t bb ebt
  have l2 : Lat T.G ρ1 h' H1 ρ1 h' (upd H1 tp (.tup [clV T c1, clV T c2])) := Lat.side htp
  refine ⟨v, tp, [clV T c1, clV T c2], tyV T t, [tyV T c1, tyV T c2], bb, rfl, upd_same, .cons (clV_ok c1) (.cons (clV_ok c2) .nil), ?_, by rw [c.K]; exact K9, (k.after (l1.trans l2)).here (em1.side htp) (.bl _)⟩
  rw [c.K]
  exact ty_ok W (em1.side htp) (rx.lat l2) et (Nat.le_of_ble_eq_true hlt)
end
end LV
end

/-! ##### _ren.lean -/
set_option Elab.async false
set_option linter.all false
set_option maxRecDepth 100000
set_option maxHeartbeats 4000000
set_option autoImplicit false
noncomputable section
namespace LV
open PySem PySem.Spec PyProof.Rows L2

/-! ## tuple of a dict -/
section
variable {prog : Program} {w : World} {A : Around} {E : Value → Shared → Prop} {s : Shared} {Ty : String} {r d : Addr} {n : Nat} {P : Nat → Value → Prop} {OK : Heap → Prop}
theorem collect_kdl {Q : List Value → Shared → Prop} (hh : A.handled = none) (K : PySem.W.KdlSrc prog w Ty r d n P OK) (hok : OK s.heap) (hn : n ≤ sizeLine)
    (hQ : ∀ (h' : Heap) (tk : Nat) (acc : Array Value), (∀ b o, s.heap.get? b = some o → h'.get? b = some o) → ItemsOf P acc n → Q acc.toList { s with heap := h', toks := tk }) :
    wpAny (model prog w) A (collect (.ref r)) Q E s := by
  unfold collect
  refine wpAny_bind (wpAny_runValue (codeAny_builtin F.entry_proto_collect ?_))
  rw [Around.under_plainId F.plain_proto_collect _]
  show wpAny _ A.in1 (newList [] >>= fun l => again (.builtin "list.__iadd__" ⟨[l, .ref r], []⟩)) _ _ s
  refine wpAny_bind (wpAny_newObj_type ?_)
  refine wpAny_pure ⟨plainId_quiet F.plain_list_iadd _, codeAny_builtin F.entry_list_iadd ?_⟩
  rw [Around.under_plainId F.plain_list_iadd _]
  show wpAny _ A.in1 (Builtin.List.listExtendWith (.ref s.heap.objs.size) (.ref r) (.ref s.heap.objs.size)) _ _ _
  have hS : (s.heap.push { cls := .type "list", data := .seq ([] : List Value).toArray }).get? s.heap.objs.size = some { cls := .type "list", data := .seq #[] 0 } := Heap.get?_push_size _ rfl
  have lt := K.there _ hok
  refine wpAny_mono (PySem.W.kdl_extend (A := A) (R := fun rr s' => rr = .ok (.ret (.ref s.heap.objs.size)) ∧ ∃ (h' : Heap) (tk : Nat) (acc : Array Value) (c' : Nat), s' = { s with heap := h', toks := tk } ∧
      (∀ b o, s.heap.get? b = some o → h'.get? b = some o) ∧ h'.get? s.heap.objs.size = some { cls := .type "list", dict := none, data := .seq acc c', slots := #[] } ∧ ItemsOf P acc n)
    (s := { s with heap := s.heap.push { cls := .type "list", data := .seq ([] : List Value).toArray } }) K hh (K.keep _ _ hok fun b _ o q => Heap.get?_push_of_some _ q) s.heap.objs.size (Nat.ne_of_gt lt.1) (Nat.ne_of_gt lt.2) _ 0 hS
    (fun h' tk acc c' hk e hi => ⟨rfl, h', tk, acc, c', rfl, fun b o q => hk b o (Nat.ne_of_lt (Heap.lt_size q)) (Heap.get?_push_of_some _ q), e, hi⟩) hn) (fun fin s' h => ?_) (fun e s' h => ?_)
  · cases fin with
    | done f =>
      obtain ⟨e, h', tk, acc, c', rfl, hk, hS', hi⟩ := h
      cases e
      show wpAny _ A (load s.heap.objs.size >>= _) _ _ _
      exact wpAny_bind (wpAny_load hS' (wpAny_pure (hQ h' tk acc hk hi)))
    | again c' =>
      refine ⟨h.1, codeAny_mono h.2 fun rr s'' hr' => ?_⟩
      obtain ⟨rfl, h', tk, acc, c', rfl, hk, hS', hi⟩ := hr'
      show wpAny _ A (load s.heap.objs.size >>= _) _ _ _
      exact wpAny_bind (wpAny_load hS' (wpAny_pure (hQ h' tk acc hk hi)))
  · exact absurd h.1 (by simp)
theorem code_tuple_new_kdl {Q₁ : Value → Shared → Prop} (hh : A.handled = none) (K : PySem.W.KdlSrc prog w "dict" r d n P OK) (hok : OK s.heap) (hn : n ≤ sizeLine)
    (h : ∀ (h' : Heap) (tk : Nat) (acc : Array Value), (∀ b o, s.heap.get? b = some o → h'.get? b = some o) → ItemsOf P acc n →
      Q₁ (.ref h'.objs.size) { s with heap := h'.push { cls := .type "tuple", data := .seq acc }, toks := tk }) :
    codeAny (model prog w) A (.call (.builtin "tuple.__new__") ⟨[.type "tuple", .ref r], []⟩) (wants Q₁ E) s := by
  refine codeAny_of_tree ?_
  show wpAny _ A.in1 (do checkBuiltinCall "tuple.__new__" ⟨[.type "tuple", .ref r], []⟩; again (.builtin "tuple.__new__" ⟨[.type "tuple", .ref r], []⟩)) _ _ s
  refine wpAny_bind (wpAny_of_eq (F.newCall_tuple_1 _) (wpAny_pure ⟨plainId_quiet F.plain_tuple_new _, codeAny_builtin F.entry_tuple_new ?_⟩))
  rw [Around.under_plainId F.plain_tuple_new _]
  have hsub := sub_tuple_self
  have hinit := init_tuple_lookup
  have hmh := madeHere_tuple
  have hTI : s.TypeIs (.ref r) "dict" := K.type s hok
  have hh1 : A.in1.handled = none := hh
  wp_walk using wpAny_typeOf hTI, collect_kdl (A := A.in1) hh1 K hok hn
  intro h' tk acc hk hacc
  show wpAny _ _ (Builtin.Tuple.tupleExact acc.toList.toArray >>= fun v => ret v) _ _ _
  unfold Builtin.Tuple.tupleExact
  refine wpAny_bind (wpAny_newObj_type ?_ (by show acc.toList.toArray.size ≤ sizeLine; simp only [Array.toArray_toList]; rw [hacc.1]; exact hn))
  refine wpAny_pure ?_
  have e : acc.toList.toArray = acc := by simp
  rw [e]
  exact h h' tk acc hk hacc
end
def rTupleD : List V → Hp → VK → Prop := fun xs H Q => ∃ p kvs, xs = [.ref p] ∧ H p = some (.dK kvs) ∧ ∀ q, H q = none → Q (.ref q) (upd H q (.tup (kvs.map fun kv => kV kv.1)))
theorem call_tuple_dK {X : Cx} (hc : X.calm = true) : CallR X (.type "tuple") rTupleD := by
  intro pins s σ H xs us Q I r h
  obtain ⟨p, kvs, e, hk, q⟩ := h
  subst e
  obtain ⟨u, eu, rx⟩ := vals1 r
  subst eu
  obtain rfl : u = Value.ref p := rx
  obtain ⟨z, lo, vs, rk, hd⟩ := (show ObjOk X.prog X.w H s.heap p (.dK kvs) from I.hok p _ hk)
  obtain ⟨ep, hat⟩ := hd.dictAt
  have hl : kvs.length = vs.length := Paired.length rk
  refine callType_codes (Q₁ := fun obj s₁ => s₁.TypeIs obj "tuple" ∧ EP X pins σ Q obj s₁) F.called_tuple (F.typeCall_tuple_1 _) F.entry_object_init
    (code_tuple_new_kdl (A := X.A.in1) (I.ok.hd hc) (PySem.W.kdl_dict (knd := mixKind X.prog X.w) (kvs := vs) (ep := ep) lo) hat (by rw [← hl]; exact z) fun h' tk acc hkeep hacc => ⟨⟨_, Heap.get?_push_size _ rfl, rfl⟩, ?_⟩) fun obj s₁ h₁ => ?_
  · have I1 : Inv X pins σ H { s with heap := h', toks := tk } := I.kept hkeep
    refine ⟨.ref h'.objs.size, upd H h'.objs.size (.tup (kvs.map fun kv => kV kv.1)), I1.laid (t' := tk) (fun b o q => Heap.get?_push_of_some _ q) (Nat.le_refl _) (show ObjOk X.prog X.w _ _ _ (.tup (kvs.map fun kv => kV kv.1)) from ⟨?_, acc.toList, ?_, ?_⟩), rfl, q _ (I1.hok.fresh (Nat.le_refl _))⟩
    · rw [List.length_map]; exact z
    · have el : acc.toList.length = acc.size := by simp
      refine vals_of_at (by rw [List.length_map, el, hacc.1, hl]) fun j x w h1 h2 => ?_
      obtain ⟨k, y, hky, hi⟩ := hacc.2 j w (by rw [← Array.getElem?_toList]; exact h2)
      have e1 : (kvs.map (·.1))[j]? = some k := by
        rw [KV.keys rk, List.getElem?_map, hky] <;> rfl
      have e2 : (kvs.map fun kv => kV kv.1)[j]? = some (kV k) := by
        have e3 : (kvs.map fun kv => kV kv.1) = (kvs.map (·.1)).map kV := by rw [List.map_map] <;> rfl
        rw [e3, List.getElem?_map, e1] <;> rfl
      rw [e2] at h1
      cases h1
      exact keyIs_rel hi
    · exact ⟨_, Heap.get?_push_size _ rfl, rfl, 0, by simp⟩
  · exact ⟨h₁.1, F.args_object_init_2 obj _, object_init_meets F.called_tuple.init.lookup F.called_tuple.made (by decide) X.prog X.w X.A.in1 _ s₁ ⟨h₁.1, rfl, h₁.2⟩⟩

def fTupleA (xs : List EV) (h : EH) : R := on1 xs .no fun x => x.cs .no (fun _ => .no) (fun _ => .no) (fun _ => .no) (fun xs => .ok (.tup xs) h)
  (fun n => onOpt (h.get n) .no fun o => o.cs (fun xs => .ok (.tup xs) h) (fun kvs => .ok (.tup (keysE kvs)) h) (fun _ _ => .no)) (fun _ => .no)
def rTupleAD (K : PySem.W.Frag) : List V → Hp → VK → Prop := fun xs H Q => rTupleA K xs H Q ∨ rTupleD xs H Q
theorem c_tupleA {X : Cx} (hc : X.calm = true) : CallR X (.type "tuple") (rTupleAD X.K) := CallR.or call_tuple_of (call_tuple_dK hc)
theorem s_tupleA {G : GA} : CallS G fTupleA (rTupleAD G.K) := fun ρ h H xs vs z h' Q em rs e k => by
  obtain ⟨x, rfl, eb⟩ := on1_ok (P := Is z h') isNo e
  obtain ⟨v, rfl, r⟩ := rs.one
  cases x with
  | non => cases eb
  | bl _ => cases eb
  | int _ => cases eb
  | glo _ => cases eb
  | str s => cases eb
  | tup xs =>
    cases eb
    cases r with
    | tup q r => exact .inl ⟨_, _, rfl, .inr ⟨q, k.here em (.tup q r)⟩⟩
  | ref n =>
    obtain ⟨o, g, ec⟩ := onOpt_ok (P := Is z h') isNo eb
    cases r
    cases o with
    | lst xs =>
      cases ec
      obtain ⟨us, h1, rs⟩ := lst_at em g
      exact .inl ⟨_, _, rfl, .inl ⟨.of h1, k.tup em rs⟩⟩
    | dic kvs =>
      cases ec
      obtain ⟨ks, h1, rs⟩ := dic_at em g
      exact .inr ⟨_, _, rfl, h1, k.tup em rs.keys⟩
    | ins _ _ => cases ec

/-! ## a try whose body does not raise -/
section
variable {G : GA} {X : Cx} {pos : Pos}
theorem s_try {body : List Stmt} {h0 : ExceptHandler} {hs : List ExceptHandler} {d : DS} (hb : PSs X body (rdS G d)) (hx : X.xe = fun _ _ => False) : PS X (.Try body (h0 :: hs) [] [] pos) (rdS G d) := by
  refine ⟨fun pins s σ H D I q => wpAny_Try_except (wpAny_mono (hb.run pins s σ H D I q) (fun f s1 z => ?_) fun e s1 z => ?_)⟩
  · cases f with
    | next => exact wpAny_execs_nil z
    | brk => exact z
    | cont => exact z
    | ret u => exact z
  · rw [hx] at z; exact z.elim

/-! ## dict displays -/
abbrev DPs := List (DE × DE)
def prE (ps : DPs) : ES → EH → RK := @List.rec (DE × DE) (fun _ => ES → EH → RK) (fun _ h => .ok [] h) (fun p _ ih s h => (p.1 s h).bd .no fun x h => (p.2 s h).bd .no fun y h => cnd (isKey x) ((ih s h).bd .no fun r h => .ok ((x, y) :: r) h) .no) ps
def mgE (acc : List (EV × EV)) (ps : List (EV × EV)) : List (EV × EV) := @List.rec (EV × EV) (fun _ => List (EV × EV) → List (EV × EV)) (fun acc => acc) (fun p _ ih acc => ih (dPut acc p.1 p.2)) ps acc
def eDic (ps : DPs) : DE := fun s h => (prE ps s h).bd .no fun kvs h => mkD (mgE [] kvs) h
theorem mgE_reps {ρ : Nat → Addr} {m : Nat} {H : Hp} {ps : List (EV × EV)} {ks : List (Key × V)} (r1 : KReps G ρ m H ps ks) : ∀ {acc : List (EV × EV)} {as : List (Key × V)}, KReps G ρ m H acc as → KReps G ρ m H (mgE acc ps) (mergeK as ks) := by
  induction r1 with
  | nil => intro acc as r; exact r
  | @cons k x v kvs ks a t ih => intro acc as r; exact ih (r.put k a)
theorem pr_ok {ps : DPs} : ∀ {σ : L2.St} {H : Hp} {ρ : Nat → Addr} {es : ES} {h : EH} {kvs : List (EV × EV)} {h' : EH} {Q : List (V × V) → Hp → Prop}, Emb G ρ h H → Slots G ρ h.n H es σ → prE ps es h = .ok kvs h' →
    (∀ ρ' H' ks, Lat G ρ h H ρ' h' H' → Emb G ρ' h' H' → KReps G ρ' h'.n H' kvs ks → ks.length = ps.length → Q (ks.map fun kv => (kV kv.1, kv.2)) H') → tPairs (ps.map fun p => (rdE G p.1, rdE G p.2)) σ H Q := by
  induction ps with
  | nil =>
    intro σ H ρ es h kvs h' Q em sl e k
    have e9 : RK.ok [] h = .ok kvs h' := e
    cases e9
    exact k ρ H [] Lat.refl em .nil rfl
  | cons p ps ih =>
    intro σ H ρ es h kvs h' Q em sl e k
    obtain ⟨x, h1, e1, q1⟩ := R.bd_ok (r := p.1 es h) (k := fun x h => (p.2 es h).bd RK.no fun y h => cnd (isKey x) ((prE ps es h).bd RK.no fun r h => RK.ok ((x, y) :: r) h) RK.no) (P := IsKK kvs h') isNoKK e
    obtain ⟨y, h2, e2, q2⟩ := R.bd_ok (P := IsKK kvs h') isNoKK q1
    obtain ⟨hk, q3⟩ := cnd_ok (P := IsKK kvs h') isNoKK q2
    obtain ⟨rs, h3, e3, q4⟩ := RK.bd_ok (P := IsKK kvs h') isNoKK q3
    cases q4
    obtain ⟨key, rfl⟩ := isKey_ok hk
    refine ⟨ρ, es, h, _, h1, em, sl, e1, fun ρ1 v H1 l1 em1 rx => ⟨ρ1, es, h1, y, h2, em1, sl.lat l1, e2, fun ρ2 w H2 l2 em2 ry => ?_⟩⟩
    refine ih em2 ((sl.lat l1).lat l2) e3 fun ρ3 H3 ks l3 em3 rk hl => ?_
    have ev := keyE_rep rx
    have := k ρ3 H3 ((key, w) :: ks) ((l1.trans l2).trans l3) em3 (.cons (ry.lat l3) rk) (by rw [List.length_cons, hl]; rfl)
    rw [ev]
    exact this
theorem pp_nil {pos : Pos} : PPs X pos [] [] (([] : DPs).map fun p => (rdE G p.1, rdE G p.2)) := pps_nil
theorem pp_cons {k v : Expr} {ks : List (Option Expr)} {vs : List Expr} {dk dv : DE} {ps : DPs} (hk : PE X k (rdE G dk)) (hv : PE X v (rdE G dv)) (hr : PPs X pos ks vs (ps.map fun p => (rdE G p.1, rdE G p.2))) :
    PPs X pos (some k :: ks) (v :: vs) (((dk, dv) :: ps).map fun p => (rdE G p.1, rdE G p.2)) := pps_cons hk hv hr
theorem Slots.side {m : Nat} {H : Hp} {ρ : Nat → Addr} {es : ES} {σ : L2.St} {h : EH} {p : Addr} {o : HO} (s : Slots G ρ h.n H es σ) (hp : H p = none) : Slots G ρ h.n (upd H p o) es σ := s.lat (Lat.side hp)
theorem q_dic {keys : List (Option Expr)} {values : List Expr} {ps : DPs} (h : PPs X pos keys values (ps.map fun p => (rdE G p.1, rdE G p.2))) (hall : keys.all (·.isSome) = true) (hl : keys.length = values.length) (h0 : keys ≠ []) (h15 : keys.length ≤ 15) (hp15 : Nat.ble (lLen ps) 15 = true) :
    PE X (.Dict keys values pos) (rdE G (eDic ps)) := by
  refine PE.weak (pe_disp h hall hl h0 h15) ?_
  rintro σ H Q ⟨ρ, es, h, z, h', em, sl, e, k⟩
  obtain ⟨kvs, h1, e1, eb⟩ := RK.bd_ok (P := Is z h') isNo e
  intro p hpn
  refine pr_ok (em.side hpn) (sl.side (m := 0) hpn) e1 fun ρ1 H1 ks l1 em1 rk hl1 => ?_
  have lp := Nat.le_of_ble_eq_true hp15
  rw [lLen_eq] at lp
  have nx : ∀ n, n < h.n → ρ n ≠ p := fun n hn q => by
    obtain ⟨u, hu⟩ := em.full n hn
    rw [q, hpn] at hu; cases hu
  obtain ⟨hp1, hx1⟩ := l1.besides (upd_same (H := H) (a := p) (o := HO.dK [])) nx
  refine ⟨hp1, ks, rfl, by omega, ?_⟩
  have n1 : ∀ xs, HO.dK ([] : List (Key × V)) ≠ .tup xs := fun _ z => nomatch z
  have n2 : ∀ ob u, HO.dK ([] : List (Key × V)) ≠ .frz ob u := fun _ _ z => nomatch z
  have l0 : Lat G ρ h H ρ1 h1 H1 := (Lat.side hpn).trans l1
  have l2 : Lat G ρ h H ρ1 h1 (upd H1 p (.dK (mergeK [] ks))) := Lat.aside hpn l0 hp1 n1 n2
  have em2 : Emb G ρ1 h1 (upd H1 p (.dK (mergeK [] ks))) := em1.aside hp1 n1 n2 hx1
  have rk2 : KReps G ρ1 h1.n (upd H1 p (.dK (mergeK [] ks))) (mgE [] kvs) (mergeK [] ks) := KReps.aside (mgE_reps rk .nil) hp1 n1 n2
  obtain ⟨h2, hn, hg, ec⟩ := EH.new_ok (P := Is z h') isNo eb
  cases ec
  refine k (ext ρ1 h1.n p) _ _ (Lat.take hpn l2 hn hg hx1) (em2.take upd_same hx1 hn hg (.dic rk2)) ?_
  have ec : p = ext ρ1 h1.n p h1.n := ext_same.symm
  conv => rhs; rw [ec]
  exact .ref (by omega)
theorem q_dic0 : PE X (.Dict [] [] pos) (rdE G (eDic [])) := by
  refine PE.weak pe_dnewK ?_
  rintro σ H Q ⟨ρ, es, h, z, h', em, sl, e, k⟩
  exact fun p hp => k.mkD (show LV.mkD [] h = .ok z h' from e) em .nil p hp
end
end LV
end

/-! ##### _ren.lean -/
set_option Elab.async false
set_option linter.all false
set_option maxRecDepth 100000
set_option maxHeartbeats 4000000
set_option autoImplicit false
noncomputable section
namespace LV
open PySem PySem.Spec PyProof.Rows L2

/-! ## o[i] op= v of a list of ints (or dict) -/
def rGetL (K : PySem.W.Frag) : V → V → Hp → VK → Prop := fun x y H Q => (∃ p xs i v, x = .ref p ∧ y = .int i ∧ SqL K H p xs ∧ atI xs i = some v ∧ Q v H) ∨ ∃ a v, x = .ref a ∧ DGet H a y (some v) ∧ Q v H
theorem get_any {X : Cx} (hu : X.A.units + 1 < cLine) : PGet X (rGetL X.K) := by
  intro pins s σ H x y v u Q I rx ry h
  rcases h with ⟨p, xs, i, z, rfl, rfl, hq, he, q⟩ | ⟨a, w, rfl, g, q⟩
  · cases rx
    obtain ⟨t, rfl⟩ := ry
    obtain ⟨its, r, pl, hz⟩ := I.list hq
    obtain ⟨j, h1, h2, h3, h4, h5⟩ := atI_get he
    obtain ⟨w, ew, rw'⟩ := r.get h2
    have hl := r.length
    have hn := line63
    have fin : EP X pins σ Q w s := ⟨z, H, I, rw', q⟩
    by_cases h0 : 0 ≤ i
    · have hj : i.toNat = j := by
        rw [seqIndex_of h0 h5] at h1
        exact Option.some.inj h1
      exact wpAny_mono (wpAny_getItem_list (Q := fun r s' => r = w ∧ EP X pins σ Q r s') pl.isList h0 (by omega) (by rw [hj]; simpa using ew) ⟨rfl, fin⟩) (fun _ _ z => z.2) fun _ _ z => z
    · have hj : (i + its.length).toNat = j := by
        rw [hl] at h1
        rw [seqIndex_neg (by omega) (by omega)] at h1
        exact Option.some.inj h1
      exact wpAny_mono (wpAny_getItem_list_neg (Q := fun r s' => r = w ∧ EP X pins σ Q r s') pl.isList (by omega) (by rw [List.size_toArray] <;> omega) (by omega) (by rw [List.size_toArray, hj]; simpa using ew) ⟨rfl, fin⟩) (fun _ _ z => z.2) fun _ _ z => z
  · cases rx
    exact d_getItem hu I g ry fun w' s' I' rw' => ⟨w, H, I', rw', q⟩

section
variable {G : GA} {X : Cx} {pos : Pos}
theorem get_ok {n : Nat} {y u : EV} {h h2 : EH} {ρ : Nat → Addr} {H : Hp} {vx vy : V} (em : Emb G ρ h H) (rx : Rep G ρ h.n H (.ref n) vx) (ry : Rep G ρ h.n H y vy) (e : fIx (.ref n) y h = .ok u h2) : h2 = h ∧ ∀ Q : VK, (∀ v, Rep G ρ h.n H u v → Q v H) → rGetL G.K vx vy H Q := by
  obtain ⟨o, g, eb⟩ := onOpt_ok (P := Is u h2) isNo e
  cases rx
  cases o with
  | lst xs =>
    obtain ⟨i, rfl, ec⟩ := onInt_ok (P := Is u h2) isNo eb
    obtain ⟨c, g3, ed⟩ := onOpt_ok (P := Is u h2) isNo ec
    cases ed
    cases ry
    obtain ⟨vs, h1, rs⟩ := lst_at em g
    obtain ⟨w, g1, r1⟩ := ixE_reps rs g3
    exact ⟨rfl, fun Q q => .inl ⟨_, _, i, w, rfl, rfl, .of h1, g1, q w r1⟩⟩
  | dic kvs =>
    obtain ⟨f1, ee⟩ := cnd_ok (P := Is u h2) isNo eb
    obtain ⟨c, g3, ef⟩ := onOpt_ok (P := Is u h2) isNo ee
    cases ef
    obtain ⟨j, rfl⟩ := isKey_ok f1
    obtain ⟨ks, h1, rs⟩ := dic_at em g
    rcases rs.get j with ⟨e1, _⟩ | ⟨x', v', e1, e2, r1⟩
    · rw [e1] at g3; cases g3
    · rw [e1] at g3; cases g3
      refine ⟨rfl, fun Q q => .inr ⟨_, v', rfl, ?_, q v' r1⟩⟩
      rw [ry.key, ← e2]; exact DGet.k h1
  | ins _ _ => cases eb
def sSubAg (g : Int → Int → Int) (o i v : DE) : DS := fun s h => (o s h).bd .no fun x h => (i s h).bd .no fun y h => onRef x .no fun n => (fIx (.ref n) y h).bd .no fun u h => onInt u .no fun a => (v s h).bd .no fun w h => onInt w .no fun b => frI (g a b) fun k => fSet (.ref n) y (.int k) h .no fun h => .nx s h
theorem s_subAg {o i e : Expr} {tpos : Pos} {op : Operator} {g : Int → Int → Int} {dO di dv : DE} (hu : X.A.units + 1 < cLine) (hp : PIp X op (ipI g)) (ho : PE X o (rdE ⟨X.K, G.gl, G.ca⟩ dO)) (hi : PE X i (rdE ⟨X.K, G.gl, G.ca⟩ di)) (he : PE X e (rdE ⟨X.K, G.gl, G.ca⟩ dv))
    (ha : ∀ ov iv new, augStore i ov iv new = (do holding [new, ov, iv] (setItem ov iv new); release [new, ov, iv] []; pure .next)) : PS X (.AugAssign (.Subscript o i tpos) op e pos) (rdS ⟨X.K, G.gl, G.ca⟩ (sSubAg g dO di dv)) := by
  refine PS.weak (ps_augS ho hi (get_any hu) he hp (set_any hu) ha) ?_
  rintro D σ H ⟨ρ, es, h, em, sl, e⟩
  obtain ⟨x, h1, e1, eb⟩ := R.bd_ok (P := IsK ⟨X.K, G.gl, G.ca⟩ ρ h H D) isNoK e
  obtain ⟨y, h2, e2, ec⟩ := R.bd_ok (P := IsK ⟨X.K, G.gl, G.ca⟩ ρ h H D) isNoK eb
  obtain ⟨n, ex, ed⟩ := onRef_ok (P := IsK ⟨X.K, G.gl, G.ca⟩ ρ h H D) isNoK ec
  obtain ⟨u, h3, e3, ee⟩ := R.bd_ok (P := IsK ⟨X.K, G.gl, G.ca⟩ ρ h H D) isNoK ed
  obtain ⟨a, eu, ef⟩ := onInt_ok (P := IsK ⟨X.K, G.gl, G.ca⟩ ρ h H D) isNoK ee
  obtain ⟨w, h4, e4, eg⟩ := R.bd_ok (P := IsK ⟨X.K, G.gl, G.ca⟩ ρ h H D) isNoK ef
  obtain ⟨b, ew, eh⟩ := onInt_ok (P := IsK ⟨X.K, G.gl, G.ca⟩ ρ h H D) isNoK eg
  have e9 : KS ⟨X.K, G.gl, G.ca⟩ ρ h H D (fSet (.ref n) y (.int (g a b)) h4 .no fun h => .nx es h) := by
    have := eh
    rw [show frI (g a b) (fun k => fSet (.ref n) y (.int k) h4 .no fun h => .nx es h) = fSet (.ref n) y (.int (g a b)) h4 .no fun h => .nx es h from frI_eq _ _] at this
    exact this
  subst ex eu ew
  refine ⟨ρ, es, h, _, h1, em, sl, e1, fun ρ1 vx H1 l1 em1 rx => ⟨ρ1, es, h1, y, h2, em1, sl.lat l1, e2, fun ρ2 vy H2 l2 em2 ry => ?_⟩⟩
  obtain ⟨rfl, gk⟩ := get_ok em2 (rx.lat l2) ry e3
  refine gk _ fun vu ru => ⟨ρ2, es, h3, _, h4, em2, (sl.lat l1).lat l2, e4, fun ρ4 vw H4 l4 em4 rw4 => ?_⟩
  cases ru; cases rw4
  refine ⟨a, b, rfl, rfl, ?_⟩
  exact fSet_ok em4 (((sl.lat l1).lat l2).lat l4) ((rx.lat l2).lat l4) (ry.lat l4) (.int _) (KS.after (r := fSet (.ref n) y (.int (g a b)) h4 .no fun h => .nx es h) e9 ((l1.trans l2).trans l4))
/-- name op= v -/
def sAugN (i : Nat) (f : EV → EV → EH → R) (d : DE) : DS := fun s h => onOpt (nth s i) .no fun o => onOpt o .no fun x => (d s h).bd .no fun y h => (f x y h).bd .no fun z h => .nx (setN s i (some z)) h
theorem s_augN {i : Nat} {x : Str} {e : Expr} {op : Operator} {f : EV → EV → EH → R} {t : TIp} {d : DE} {pos' : Pos} (hN : X.N.Nodup) (hi : X.N[i]? = some x) (hx : Loc X.env.scope x) (hf : X.fn x = true ∨ X.env.scope.names.lookup x = some .local) (ho : PIp X op t) (hs : OpS G f t) (he : PE X e (rdE G d)) :
    PS X (.AugAssign (.Name x pos') op e pos) (rdS G (sAugN i f d)) := by
  refine PS.weak (ps_aug hN hi hx he ho hf) ?_
  rintro D σ H ⟨ρ, es, h, em, sl, e⟩
  obtain ⟨o, e0, eb⟩ := onOpt_ok (P := IsK G ρ h H D) isNoK e
  obtain ⟨x, ex, ec⟩ := onOpt_ok (P := IsK G ρ h H D) isNoK eb
  obtain ⟨y, h1, e1, ed⟩ := R.bd_ok (P := IsK G ρ h H D) isNoK ec
  obtain ⟨z, h2, e2, ee⟩ := R.bd_ok (P := IsK G ρ h H D) isNoK ed
  rw [nth_eq] at e0
  subst ex
  have e9 : KS G ρ h H D (.nx (setN es i (some z)) h2) := ee
  obtain ⟨v, e3, r⟩ := sl.at_ i x e0
  refine ⟨v, e3, ρ, es, h, y, h1, em, sl, e1, fun ρ1 w H1 l1 em1 ry => hs ρ1 h1 H1 x y v w z h2 _ em1 (r.lat l1) ry e2 fun ρ2 u H2 l2 em2 rz => e9 ρ2 _ H2 (l1.trans l2) em2 ?_⟩
  rw [setN_eq]
  exact ((sl.lat l1).lat l2).set i rz
theorem s_ipI {g : Int → Int → Int} : OpS G (fI2 g) (ipI g) := s_i2
def fIAdd (x y : EV) (h : EH) : R := x.cs .no (fun _ => .no) (fun i => onInt y .no fun j => frI (Int.add i j) fun k => .ok (.int k) h)
  (fun s => onStr y .no fun t => cnd (Nat.ble (Nat.add (lLen s.cps.toList) (lLen t.cps.toList)) LIM) (.ok (.str (sMk (cat s.cps.toList t.cps.toList))) h) .no) (fun _ => .no) (fun _ => .no) (fun _ => .no)
def rIAdd : R2 := fun x y H Q => rI0 (fun i j => .int (i + j)) x y H Q ∨ (fun x y H Q => ∃ i j, x = .str i ∧ y = .str j ∧ i.length + j.length ≤ sizeLine ∧ Q (.str (i ++ j)) H : R2) x y H Q
theorem p_iadd : PIp X .Add rIAdd := OpR.or iop_add iop_add_str
theorem s_iadd : OpS G fIAdd rIAdd := fun ρ h H x y v w z h' Q em rx ry e k => by
  cases x with
  | int i =>
    obtain ⟨j, rfl, eb⟩ := onInt_ok (P := Is z h') isNo e
    have e9 : R.ok (.int (i + j)) h = .ok z h' := (frI_eq _ _).symm.trans eb
    cases e9; cases rx; cases ry
    exact .inl ⟨i, j, rfl, rfl, k.here em (.int _)⟩
  | str s =>
    obtain ⟨t, rfl, ec⟩ := onStr_ok (P := Is z h') isNo e
    obtain ⟨hl, ed⟩ := cnd_ok (P := Is z h') isNo ec
    cases ed; cases rx; cases ry
    have hl := Nat.le_of_ble_eq_true hl
    have hl : lLen s.cps.toList + lLen t.cps.toList ≤ LIM := hl
    rw [sLen, sLen] at hl
    refine .inr ⟨s, t, rfl, rfl, Nat.le_trans hl lim_line, ?_⟩
    rw [← sMk_cat]
    exact k.here em (.str _)
  | _ => cases e
/-- name = {..} by a comprehension on one line -/
theorem s_setDc {i : Nat} {y : Str} {py spos : Pos} {kx vx tg iter : Expr} {ifs : List Expr} {scope : Scope} {own : List (Str × Nat)} {it : DI} {g : DG} {t : DB} {ek e : DE} (hc : X.calm = true) (hN : X.N.Nodup) (hy : X.N[i]? = some y) (hyl : X.env.scope.names.lookup y = some .local)
    (hsw : swapsWith (.DictComp kx vx [⟨tg, iter, ifs, 0⟩] scope pos) (some (.Name y py)) spos.line X.env = pure true) (hi : PI X tg iter (rdI G it)) (ok : BlkOk X.N X.env.scope scope own)
    (hg : ∀ (s : Shared) (H : Hp) (C : Addr) (cl : List (Str × Addr)) (fp : List Addr), PG (X.blk s H scope (compEnvC scope cl C X.env) fp) tg (rdG G (own.map (·.2)) g)) (ht : ∀ (s : Shared) (H : Hp) (C : Addr) (cl : List (Str × Addr)) (fp : List Addr), PTs (X.blk s H scope (compEnvC scope cl C X.env) fp) ifs (rdB G t))
    (hk : ∀ (s : Shared) (H : Hp) (C : Addr) (cl : List (Str × Addr)) (fp : List Addr), PE (X.blk s H scope (compEnvC scope cl C X.env) fp) kx (rdE G ek))
    (he : ∀ (s : Shared) (H : Hp) (C : Addr) (cl : List (Str × Addr)) (fp : List Addr), PE (X.blk s H scope (compEnvC scope cl C X.env) fp) vx (rdE G e)) (hs : ∀ x, foldedSetIterable iter X.env x = pure x) :
    PS X (.Assign [.Name y py] (.DictComp kx vx [⟨tg, iter, ifs, 0⟩] scope pos) spos) (rdS G (sAsg (eDc it g t ek e (own.map (·.2))) (gNm i))) := by
  refine ⟨fun pins s σ H D I q => ?_⟩
  rw [exec_Assign_Name_used _ _ _ _ hsw]
  refine wpAny_bind (wpAny_standAt (wpAny_bind ?_))
  show wpAny _ X.A (do let _ ← comprehension (.DictComp kx vx [⟨tg, iter, ifs, 0⟩] scope pos) scope X.env (firstIterPos [⟨tg, iter, ifs, 0⟩] pos) newDict false (eval iter X.env) (some (assign (.Name y py) X.env))) _ _ s
  have h : tDc (rdI G it) (rdG G (own.map (·.2)) g) (rdB G t) (rdE G ek) (rdE G e) (own.map (·.2)) σ H (fun x H1 => gName i x σ H1 D.nx) := by
    obtain ⟨ρ, es, h, em, sl, q1⟩ := q
    obtain ⟨x, h1, e1, q2⟩ := R.bd_ok (P := IsK G ρ h H D) isNoK q1
    have q2 : KS G ρ h H D (.nx (setN es i (some x)) h1) := q2
    refine rd_dc σ H _ ⟨ρ, es, h, x, h1, em, sl, e1, fun ρ1 v H1 l1 em1 rx => q2 ρ1 _ H1 l1 em1 ?_⟩
    rw [setN_eq]; exact (sl.lat l1).set i rx
  refine wpAny_bind (thn (dc_core (Qf := fun _ s' => SP X pins D .next s') hc hN I hi ok hg ht hk he hs h fun L C s' m H' I' q hn f => ?_) fun _ s' hq => wpAny_pure (wpAny_pure hq))
  show wpAny _ _ (assign (.Name y py) X.env (.ref L)) _ _ _
  refine wpAny_assign_Name (store_ok2 (v := V.ref L) I' hN hy (.inl hyl) rfl (fun s2 I2 ⟨a, sb, ha⟩ => ?_) (.inr hyl))
  obtain ⟨f0, f1, f2, f3, f4, f5⟩ := f
  have haC : C ≠ a := by
    rcases ha with z | z
    · rw [z]; exact f1
    · exact fun e => f4 y a z e.symm
  refine ⟨m, hn.sameBut sb haC, fun h3 sb3 => ?_⟩
  exact ⟨_, H', I2.turned (t' := s2.toks) (fun b o hb e => (sb3.2 b hb).trans e) f0 f1 f3 f4 f5, q⟩
theorem sw_trueD {kx vx : Expr} {gs : List Comprehension} {scope : Scope} {pos py : Pos} {y : Str} {l : Nat} {env : Env} (hk : env.scope.kind = .function) (hy : env.scope.names.lookup y = some .local) (hl : (py.line == pos.line) = true)
    (ha : (scope.names.any fun (n, k) => n == y && (k == .local || k == .cell)) = false) : swapsWith (.DictComp kx vx gs scope pos) (some (.Name y py)) l env = pure true := by
  have ky : env.kindOf y = some .local := hy
  have hb : env.blockKind = .function := by unfold Env.blockKind; rw [hk]; rfl
  unfold swapsWith
  simp only [hb, ky, ha, Expr.pos, hl]
  rfl
end
end LV
end

/-! ##### _ren.lean -/
set_option Elab.async false
set_option linter.all false
set_option maxRecDepth 100000
set_option maxHeartbeats 4000000
set_option autoImplicit false
noncomputable section
namespace LV
open PySem PySem.Spec PyProof.Rows L2

section
variable {T : Tb} {C : CF} {N : List Str} {sc : Scope} {b : Bool} {k : Nat} {X : Cx} (c : XC T C N sc b k X) {a o : Expr} {es : List Expr} {dO : DE} {dA : DA} {p pos apos : Pos}
include c
/-! ## methods of built-in types -/
theorem XC.bm {ty : EH → EV → Bool} {Ty id : String} {name : Str} {f : EV → List EV → EH → R} {r : PySem.W.Frag → V → List V → Hp → VK → Prop} (pa : PlainAttrs Ty) (slot : Slot Ty name id) (hty : typeOf (.builtin id) = pure (.type "method_descriptor")) (hm : MtR X id (r X.K)) (hf : MtS T.G ty Ty f (r T.G.K))
    (ho : PE X o (rdE T.G dO)) (ha : PA X (a :: es) (rdA T.G dA)) (hbase : attributeBase o name X.env (eval o X.env) = eval o X.env)
    (hfew : ((backTo pos (starEach (a :: es) X.env)).all (fun x => !x.1) && (backToKw pos (keywordEach [] X.env)).all (fun x => x.1.isSome)
      && decide ((a :: es).length + ([] : List Keyword).length + (if ([] : List Keyword).isEmpty then 0 else 1) < 30)) = true)
    (hline : (apos.endLine == pos.line) = true) (hs : starEach (a :: es) X.env = (false, eval a X.env) :: starEach es X.env) (hplain : (backTo pos (starEach es X.env)).any (·.1) = false) :
    PE X (.Call (.Attribute o name apos) (a :: es) [] pos) (rdE T.G (eBM ty f dO dA)) := by
  refine PE.weak (pe_bm pa slot hty hm ho ha hbase hfew hline hs hplain) fun σ H Q q => ?_
  rw [c.K]
  exact rd_bm hf σ H Q q
theorem XC.bm0 {ty : EH → EV → Bool} {Ty id : String} {name : Str} {f : EV → List EV → EH → R} {r : PySem.W.Frag → V → List V → Hp → VK → Prop} (pa : PlainAttrs Ty) (slot : Slot Ty name id) (hty : typeOf (.builtin id) = pure (.type "method_descriptor")) (hm : MtR X id (r X.K)) (hf : MtS T.G ty Ty f (r T.G.K))
    (ho : PE X o (rdE T.G dO)) (hbase : attributeBase o name X.env (eval o X.env) = eval o X.env) (hline : (apos.endLine == pos.line) = true) :
    PE X (.Call (.Attribute o name apos) [] [] pos) (rdE T.G (eBM ty f dO aNil)) := by
  refine PE.weak (pe_bm0 pa slot hty hm ho hbase hline) fun σ H Q q => ?_
  rw [c.K]
  exact rd_bm0 hf σ H Q q

/-! ## a table of the module: T.get(k, x), the key there -/
def kLook (tb : List (Str × EV)) (z : Str) : Option EV := fLook tb z
def eKGet (g : Nat) (tb : List (Str × EV)) (o : DE) (d : DA) : DE := fun s h => (o s h).bd .no fun x h => onGlo x .no fun j => cnd (Nat.beq j g) ((d s h).bd .no fun xs h => on2 xs .no fun y _ => onStr y .no fun z => onOpt (kLook tb z) .no fun v => .ok v h) .no
structure KTab (T : Tb) (w : World) (g : Nat) (tb : List (Str × EV)) : Prop where
  there : ∃ es n, T.G.K.lookup (T.G.gl g) = some ⟨.type "dict", none, .dict es n, #[]⟩ ∧ PySem.W.KeysLit w.params es.toList ∧ (T.G.gl g == sysModules) = false
  val : ∀ z e, kLook tb z = some e → ∃ v u, PySem.W.nsIn T.G.K (T.G.gl g) z = some (some u) ∧ RelV v u ∧ ∀ ρ m H, Rep T.G ρ m H e v
theorem XC.kget {g : Nat} {tb : List (Str × EV)} (W : KTab T X.w g tb) (ho : PE X o (rdE T.G dO)) (ha : PA X (a :: es) (rdA T.G dA)) (hbase : attributeBase o "get" X.env (eval o X.env) = eval o X.env)
    (hfew : ((backTo pos (starEach (a :: es) X.env)).all (fun x => !x.1) && (backToKw pos (keywordEach [] X.env)).all (fun x => x.1.isSome)
      && decide ((a :: es).length + ([] : List Keyword).length + (if ([] : List Keyword).isEmpty then 0 else 1) < 30)) = true)
    (hline : (apos.endLine == pos.line) = true) (hs : starEach (a :: es) X.env = (false, eval a X.env) :: starEach es X.env) (hplain : (backTo pos (starEach es X.env)).any (·.1) = false) :
    PE X (.Call (.Attribute o "get" apos) (a :: es) [] pos) (rdE T.G (eKGet g tb dO dA)) := by
  refine ⟨fun pins s σ H Q I q => ?_⟩
  obtain ⟨ρ, ez, h, z, h', em, sl, e, k⟩ := q
  obtain ⟨x, h1, e1, eb⟩ := R.bd_ok (P := Is z h') isNo e
  obtain ⟨j, ex, ec⟩ := onGlo_ok (P := Is z h') isNo eb
  obtain ⟨hj, ed⟩ := cnd_ok (P := Is z h') isNo ec
  obtain ⟨xs, h2, e2, ee⟩ := RA.bd_ok (P := Is z h') isNo ed
  obtain ⟨y, dd, exs, ef⟩ := on2_ok (P := Is z h') isNo ee
  obtain ⟨zs, ey, eg⟩ := onStr_ok (P := Is z h') isNo ef
  obtain ⟨evv, el, eh⟩ := onOpt_ok (P := Is z h') isNo eg
  cases eh
  have hj := Nat.eq_of_beq_eq_true hj
  subst ex exs ey hj
  obtain ⟨es', n, lk, kl, low⟩ := W.there
  obtain ⟨v0, u0, hu0, r0, rep0⟩ := W.val zs _ el
  have lkX : X.K.lookup (T.G.gl j) = some ⟨.type "dict", none, .dict es' n, #[]⟩ := by rw [c.K]; exact lk
  refine wpAny_Call_method_late hbase hfew hline rfl (thn (ho.run pins s σ H (fun v H1 => ∃ ρ1, Lat T.G ρ h H ρ1 h1 H1 ∧ Emb T.G ρ1 h1 H1 ∧ Rep T.G ρ1 h1.n H1 (.glo j) v) I ⟨ρ, ez, h, _, h1, em, sl, e1, fun ρ1 v H1 l1 em1 rx => ⟨ρ1, l1, em1, rx⟩⟩) fun u s1 ⟨v, H1, I1, rv, ρ1, l1, em1, rx⟩ => ?_)
  cases rx
  obtain rfl : u = Value.ref (T.G.gl j) := rv
  have hmp := PySem.W.mapOf_K (prog := X.prog) (w := X.w) I1.kIn lkX kl
  refine ⟨"dict", _, PySem.F.plainAttrs_dict, PySem.F.slot_dict_get, PySem.F.type_dict_get, hmp.typeIs, fun q hq => (by cases hq; exact ⟨_, I1.kIn _ _ lkX, rfl⟩), ?_⟩
  have hA := ha.run pos pins s1 σ H1 (fun vs H2 => ∃ ρ2, Lat T.G ρ1 h1 H1 ρ2 _ H2 ∧ Emb T.G ρ2 _ H2 ∧ Reps T.G ρ2 _ H2 [.str zs, dd] vs) I1 ⟨ρ1, ez, h1, _, _, em1, sl.lat l1, e2, fun ρ2 vs H2 l2 em2 rs => ⟨ρ2, l2, em2, rs⟩⟩
  rw [hs] at hA ⊢
  refine Calls.callWith_builtin (by show (false || (backTo pos (starEach es X.env)).any (·.1)) = false; rw [hplain] <;> rfl) (Calls.evalArgs_plain ?_)
  refine thn hA fun us s2 ⟨vs, H2, I2, r2, ρ2, l2, em2, rs⟩ => ?_
  obtain ⟨v1, v2, rfl, ra, rb⟩ := rs.two
  obtain ⟨u1, u2, rfl, q1, q2⟩ := vals2 r2
  cases ra
  obtain ⟨t, rfl⟩ := q1
  have hm2 := PySem.W.mapOf_K (prog := X.prog) (w := X.w) I2.kIn lkX kl
  refine call_meetsIn PySem.F.slot_dict_get hm2.typeIs PySem.F.entry_dict_get (PySem.F.args_dict_get_3 _ _ _) (meets_dict_get_default (strKind X.prog X.w) (T.G.gl j) (strKind_is X.prog X.w zs t) low u2) ⟨_, hm2, ?_⟩
  rw [PySem.W.find_K lkX (by rw [c.K]; exact hu0)]
  exact ⟨v0, H2, I2.tok _, r0, (k.after (l1.trans l2)).here em2 (rep0 _ _ _)⟩

/-! ## a class method, called at its class -/
structure CMt (T : Tb) (m : Str) (cl g i : Nat) : Prop where
  ex : ∃ mc p, ClX.CRead T.G.K (T.G.ca cl) mc ∧ ClX.CMet T.G.K (T.G.ca cl) mc m p (T.fa i)
  gl : T.G.gl g = T.G.ca cl
  lt : i < T.nf
def eCMt (C : CF) (g i : Nat) (o : DE) (d : DA) : DE := fun s h => (o s h).bd .no fun x h => onGlo x .no fun j => cnd (Nat.beq j g) ((d s h).bd .no fun xs h => C i (.glo g :: xs) h) .no
theorem XC.fnR (i : Nat) (hi : i < T.nf) : FnR X.prog X.w X.K X.mg X.base CX0 k (T.fa i) (spC T C i) := fun A outer s H us vs Q E hr e0 r hs => by
  have hl : (us ++ []).length = (T.ps i).length := by rw [List.append_nil, ← r.length]; exact hs.1
  have kin : X.K.In s.heap := e0.mod.kin.keeps fun b o e => (e0.bs b o e).1
  have hb := c.bnd i hi s us kin hl
  rw [List.append_nil] at hb
  exact (c.fn i).run A outer s H ⟨us, []⟩ us vs Q E hr e0 hb r hs
theorem XC.cmt {m : Str} {cl g i : Nat} {pl : Sem Bool} (W : CMt T m cl g i) (ho : PE X o (rdE T.G dO)) (ha : PA X (a :: es) (rdA T.G dA))
    (hst : starEach (a :: es) X.env = (false, eval a X.env) :: starEach es X.env) (hpl : (backTo pos (starEach es X.env)).any (·.1) = false)
    (ht : eval (.Call (.Attribute o m apos) (a :: es) [] pos) X.env = (do
      let ov ← eval o X.env
      standAt apos.atName
      let (f, first) ← holding [ov] (getMethod ov m pl)
      callWith pos f first (backTo pos (starEach (a :: es) X.env)) (backToKw pos (keywordEach [] X.env)))) :
    PE X (.Call (.Attribute o m apos) (a :: es) [] pos) (rdE T.G (eCMt C g i dO dA)) := by
  obtain ⟨mc, p, h1, h2⟩ := W.ex
  refine PE.weak (ClX.pe_cmeth ho (by rw [c.K]; exact h1) (by rw [c.K]; exact h2) (XC.fnR c i W.lt) c.r pass0 ha hst hpl ht) ?_
  rintro σ H Q ⟨ρ, es, h, z, h', em, sl, e, k⟩
  obtain ⟨x, h1, e1, eb⟩ := R.bd_ok (P := Is z h') isNo e
  obtain ⟨j, ex, ec⟩ := onGlo_ok (P := Is z h') isNo eb
  obtain ⟨hj, ed⟩ := cnd_ok (P := Is z h') isNo ec
  obtain ⟨xs, h2, e2, ee⟩ := RA.bd_ok (P := Is z h') isNo ed
  have hj := Nat.eq_of_beq_eq_true hj
  subst ex hj
  refine ⟨ρ, es, h, _, h1, em, sl, e1, fun ρ1 v H1 l1 em1 rx => ?_⟩
  cases rx
  refine ⟨by rw [W.gl], ρ1, es, h1, xs, h2, em1, sl.lat l1, e2, fun ρ2 vs H2 l2 em2 rs => ?_⟩
  rw [← W.gl]
  exact ⟨by rw [List.length_cons, ← rs.length]; exact c.clen i _ h2 z h' ee, ρ2, h2, _, z, h', em2, .cons (.glo j) rs, ee, k.after (l1.trans l2)⟩

/-! ## a local that holds a class, called -/
def eMkL (C : CF) (sl g cl i : Nat) (d : DA) : DE := fun s h => onOpt (nth s sl) .no fun o => onOpt o .no fun x => onGlo x .no fun j => cnd (Nat.beq j g) ((d s h).bd .no fun xs h => mkI C i cl xs h) .no
structure MkL (T : Tb) (g cl i : Nat) : Prop where
  made : Mk T.G.K (T.G.ca cl) (T.fa i)
  gl : T.G.gl g = T.G.ca cl
  lt : i < T.nf
theorem XC.mkl {x : Str} {j g cl i : Nat} (W : MkL T g cl i) (hi : N[j]? = some x) (hv : sc.names.lookup x = some .local) (ha : PA X (a :: es) (rdA T.G dA)) (hd : (x == ("__debug__" : Str)) = false) (hcd : (x == ("__classdict__" : Str)) = false)
    (he : starEach (a :: es) X.env = (false, eval a X.env) :: starEach es X.env) (hpl : (backTo pos (starEach es X.env)).any (·.1) = false) : PE X (.Call (.Name x p) (a :: es) [] pos) (rdE T.G (eMkL C j g cl i dA)) := by
  refine ⟨fun pins s σ H Q I q => ?_⟩
  obtain ⟨ρ, ez, h, z, h', em, sl, e, k⟩ := q
  obtain ⟨o, e0, eb⟩ := onOpt_ok (P := Is z h') isNo e
  obtain ⟨x, ex, ec⟩ := onOpt_ok (P := Is z h') isNo eb
  obtain ⟨g', eg, ed⟩ := onGlo_ok (P := Is z h') isNo ec
  obtain ⟨hj, ee⟩ := cnd_ok (P := Is z h') isNo ed
  obtain ⟨xs, h2, e2, ef⟩ := RA.bd_ok (P := Is z h') isNo ee
  have hj := Nat.eq_of_beq_eq_true hj
  rw [nth_eq] at e0
  subst ex eg hj
  obtain ⟨v, e3, r⟩ := sl.at_ j _ e0
  cases r
  have Mx : Mk X.K (T.G.ca cl) (T.fa i) := by rw [c.K]; exact W.made
  refine wpAny_Call_Name_kw (thn ((pe_var (pos := p) (c.hn hi) (.inl (c.lk hv)) hd hcd).run pins s σ H (fun v H1 => v = .ref (T.G.ca cl) ∧ H1 = H) I ⟨_, e3, by rw [W.gl], rfl⟩) fun u s1 ⟨v, H1, I1, r1, q1⟩ => ?_)
  obtain ⟨rfl, rfl⟩ := q1
  cases r1
  refine PySem.W.callWith_K (h₀ := X.base) I.ok.mod.kin Mx.kp (thn (ha.run pos pins s1 σ H1 (fun vs H2 => ∀ x dx, H2 x = none → H2 dx = none → dx ≠ x → spC T C i (.ref x :: (vs ++ [])) (upd (upd H2 dx (.own x)) x (.ins (T.G.ca cl) dx [])) (fun v H3 => v = .non ∧ Q (.ref x) H3) E0) I1
    ⟨ρ, ez, h, xs, h2, em, sl, e2, fun ρ1 vs H2 l1 em1 rs => mk_sp c em1 rs ef (k.after l1)⟩) fun us s2 ⟨vs, H2, I2, r, q⟩ => ⟨I2.kIn, ?_⟩) he hpl
  exact run_make Mx (c.fn i) c.room (c.bnd i W.lt) .nil pass0 I2 r q
end

/-! ## the functions, level by level -/
def padE (n : Nat) : List EV → ES := @Nat.rec (fun _ => List EV → ES) (fun _ => []) (fun _ ih xs => @List.rec EV (fun _ => ES) (none :: ih []) (fun x r _ => some x :: ih r) xs) n
def RS.fin (r : RS) : R := @RS.rec (fun _ => R) .no (fun _ h => .ok .non h) (fun x h => .ok x h) (fun _ _ => .no) (fun _ _ => .no) r
def bodyG (ar n : Nat) (b : DS) (xs : List EV) (h : EH) : R := cnd (Nat.beq (lLen xs) ar) (b (padE n xs) h).fin .no
theorem pad_slots {G : GA} {ρ : Nat → Addr} {m : Nat} {H : Hp} : ∀ (n : Nat) {xs : List EV} {vs : List V}, Reps G ρ m H xs vs → xs.length ≤ n → Slots G ρ m H (padE n xs) (vs.map some ++ List.replicate (n - vs.length) none)
  | 0, _, _, .nil, _ => ⟨rfl, fun i x q => absurd (show ([] : ES)[i]? = some (some x) from q) (by simp)⟩
  | n + 1, _, _, .nil, _ => by
    have ih := pad_slots (G := G) (ρ := ρ) (m := m) (H := H) n .nil (Nat.zero_le n)
    refine ⟨?_, fun i x q => ?_⟩
    · show (padE n []).length + 1 = _
      rw [ih.len]; simp
    · cases i with
      | zero => cases q
      | succ i =>
        obtain ⟨v, h1, _⟩ := ih.at_ i x q
        simp [List.getElem?_replicate] at h1
  | n + 1, _, _, .cons (x := x) (v := v) (xs := xs) (vs := vs) a t, hl => by
    have ih := pad_slots n t (by simpa using hl)
    refine ⟨?_, fun i y q => ?_⟩
    · show (padE n xs).length + 1 = _
      rw [ih.len]; simp only [List.map_cons, List.cons_append, List.length_cons, List.length_append, List.length_map, List.length_replicate]; omega
    · have e : (n + 1 - (v :: vs).length) = n - vs.length := by rw [List.length_cons]; omega
      rw [e]
      cases i with
      | zero => cases q; exact ⟨v, rfl, a⟩
      | succ i =>
        obtain ⟨w, h1, h2⟩ := ih.at_ i y q
        exact ⟨w, by simpa using h1, h2⟩
abbrev FE := CF → List EV → EH → R
def spG (T : Tb) (n : Nat) (g : List EV → EH → R) : Sp := fun vs H Q _ => vs.length = n ∧ ∃ ρ h xs x h', Emb T.G ρ h H ∧ Reps T.G ρ h.n H xs vs ∧ g xs h = .ok x h' ∧ KE T.G ρ h H x h' Q
structure Lvl (T : Tb) (P : Program) (w : World) (base : Heap) (C : CF) (k : Nat) : Prop where
  fn : ∀ i, FnOk P w T.G.K T.mg base CX0 k (T.fa i) (T.fd i) (T.ps i) (spC T C i)
  len : ∀ i xs h x h', C i xs h = .ok x h' → xs.length = (T.ps i).length
structure Ent (T : Tb) (w : World) (i : Nat) (f : FE) : Prop where
  ok : ∀ (C : CF) (k : Nat) (P : Program) (base : Heap), Lvl T P w base C k → FnOk P w T.G.K T.mg base CX0 (k + 2) (T.fa i) (T.fd i) (T.ps i) (spG T (T.ps i).length (f C))
  len : ∀ C xs h x h', f C xs h = .ok x h' → xs.length = (T.ps i).length
def fNone : FE := fun _ _ _ => .no
theorem ent_none {T : Tb} {w : World} {i : Nat} : Ent T w i fNone := ⟨fun C k P base L => ⟨fun vs H Q E h => h.1, fun A outer s H args us vs Q E _ _ _ _ h => by
  obtain ⟨_, _, _, _, _, _, _, _, e, _⟩ := h
  cases e⟩, fun C xs h x h' e => by cases e⟩
structure Kept (T : Tb) : Prop where
  kp : ∀ i, i < T.nf → PySem.W.keepIn T.G.K (.ref (T.fa i)) = true
  bnd : ∀ i, i < T.nf → Binds T.G.K (T.fd i) (T.ps i) []
theorem ent_of {T : Tb} {w : World} (W : Kept T) {i : Nat} {name qual : Str} {params : Arguments} {body : List Stmt} {scope : Scope} {N : List Str} {sh : CF → DS} {ar n : Nat} (F : FunD T.G.K name qual params body scope [] [] (T.fa i) (T.fd i)) (S : FnScope N (T.ps i) scope)
    (ha : (T.ps i).length = ar) (hn : N.length = n) (hw : ∀ (C : CF) (k : Nat) (X : Cx), X.w = w → X.xe = (fun _ _ => False) → XC T C N scope true k X → PSs X body (rdS T.G (sh C))) : Ent T w i fun C xs h => bodyG ar n (sh C) xs h := by
  subst ha hn
  refine ⟨fun C k P base L => ?_, fun C xs h x h' e => ?_⟩
  · refine F.ok S (fun vs H Q E h => h.1) fun cdv A outer s H vs Q E hr h => ⟨rdS T.G (sh C), PSs.nox (hw C k _ rfl rfl ?_), ?_⟩
    · exact ⟨rfl, rfl, S.nd, rfl, rfl, rfl, PassesOwn.never, hr, L.fn, fun _ _ => rfl, L.len, W.kp, W.bnd⟩
    · obtain ⟨hl, ρ, h, xs, x, h', em, rs, e, k⟩ := h
      obtain ⟨hx, eb⟩ := cnd_ok (P := Is x h') isNo e
      have hpl : (T.ps i).length ≤ N.length := by have := congrArg List.length S.pre; rw [List.length_take] at this; omega
      have hxl : xs.length ≤ N.length := by rw [rs.length, hl]; exact hpl
      refine ⟨ρ, padE N.length xs, h, em, pad_slots N.length rs hxl, ?_⟩
      cases q : sh C (padE N.length xs) h with
      | no => rw [q] at eb; cases eb
      | nx s1 h1 =>
        rw [q] at eb
        have e9 : R.ok .non h1 = .ok x h' := eb
        cases e9
        exact fun ρ' σ' H' l em' sl => k ρ' .non H' l em' .non
      | rt y h1 =>
        rw [q] at eb
        have e9 : R.ok y h1 = .ok x h' := eb
        cases e9
        exact fun ρ' v H' l em' r => k ρ' v H' l em' r
      | bk s1 h1 => rw [q] at eb; cases eb
      | ct s1 h1 => rw [q] at eb; cases eb
  · obtain ⟨hx, ec⟩ := cnd_ok (P := Is x h') isNo e
    have := Nat.eq_of_beq_eq_true hx
    rwa [lLen_eq] at this
/-- the functions by number -/
inductive DT where
  | lf (i : Nat) (f : FE) | nd (m : Nat) (l r : DT)
def DT.get (t : DT) (k : Nat) : FE := @DT.rec (fun _ => FE) (fun i f => cnd (Nat.beq k i) f fNone) (fun m _ _ l r => cnd (Nat.blt k m) l r) t
def DT.All (T : Tb) (w : World) : DT → Prop
  | .lf i f => Ent T w i f
  | .nd _ l r => l.All T w ∧ r.All T w
theorem DT.ent {T : Tb} {w : World} (k : Nat) : ∀ {t : DT}, t.All T w → Ent T w k (t.get k)
  | .lf i f, h => by
    show Ent T w k (cnd (Nat.beq k i) f fNone)
    cases q : Nat.beq k i with
    | true => rw [Nat.eq_of_beq_eq_true q]; exact h
    | false => exact ent_none
  | .nd m l r, h => by
    show Ent T w k (cnd (Nat.blt k m) (l.get k) (r.get k))
    cases q : Nat.blt k m with
    | true => exact DT.ent k h.1
    | false => exact DT.ent k h.2
def callN (t : DT) (d : Nat) : CF := @Nat.rec (fun _ => CF) (fun _ _ _ => .no) (fun _ ih i xs h => t.get i ih xs h) d
theorem level {T : Tb} {w : World} {t : DT} (h : t.All T w) (P : Program) (base : Heap) : ∀ d, Lvl T P w base (callN t d) (2 * d)
  | 0 => ⟨fun i => ⟨fun vs H Q E h => h.1, fun A outer s H args us vs Q E _ _ _ _ h => by
      obtain ⟨_, _, _, _, _, _, _, _, e, _⟩ := h
      cases e⟩, fun i xs h x h' e => by cases e⟩
  | d + 1 => by
    have L := level h P base d
    exact ⟨fun i => (DT.ent i h).ok _ _ P base L, fun i xs hh x h' e => (DT.ent i h).len _ xs hh x h' e⟩
end LV
end

/-! ##### _ren.lean -/
set_option Elab.async false
set_option linter.all false
set_option maxRecDepth 100000
set_option maxHeartbeats 4000000
set_option autoImplicit false
noncomputable section
namespace LV
open PySem PySem.Spec PyProof.Rows L2
section
variable {T : Tb} {C : CF} {N : List Str} {sc : Scope} {b : Bool} {k : Nat} {X : Cx} (c : XC T C N sc b k X)
include c
theorem XC.icast {tg e : Expr} {d : DI} (h : PI X tg e (rdI ⟨X.K, T.G.gl, T.G.ca⟩ d)) : PI X tg e (rdI T.G d) := by rw [c.g] at h; exact h
theorem XC.gcast {e : Expr} {vs : List Nat} {d : DG} (h : PG X e (rdG ⟨X.K, T.G.gl, T.G.ca⟩ vs d)) : PG X e (rdG T.G vs d) := by rw [c.g] at h; exact h
theorem XC.gsun {e : List Expr} {vs : List Nat} {d : DGs} (h : PGs X e (rdGs T.G vs d)) : PGs X e (rdGs ⟨X.K, T.G.gl, T.G.ca⟩ vs d) := by rw [c.g]; exact h
theorem XC.scast {st : Stmt} {d : DS} (h : PS X st (rdS ⟨X.K, T.G.gl, T.G.ca⟩ d)) : PS X st (rdS T.G d) := by rw [c.g] at h; exact h
theorem XC.mgn {x : Str} (h : T.mg x = none) : X.mg x = none := by rw [c.mg]; exact h
theorem XC.bok {scope : Scope} {own : List (Str × Nat)} (h : blkC N sc scope own = true) : BlkOk X.N X.env.scope scope own := by rw [c.n, c.sc]; exact blkOk_by h
theorem XC.Sq {tg e : Expr} {d : DE} (h : PE X e (rdE T.G d)) : PI X tg e (rdI T.G (iSq d)) := c.icast (i_sq (c.uncast h))
theorem XC.En {e : Expr} {d : DA} {p pos tpos : Pos} {elts : List Expr} {kk : Nat} (hg : sc.names.lookup ("enumerate" : Str) = some .globalImplicit) (hm : T.mg "enumerate" = none) (ha : PA X [e] (rdA T.G d)) (hs : starEach [e] X.env = [(false, eval e X.env)]) :
    PI X (.Tuple elts kk tpos) (.Call (.Name "enumerate" p) [e] [] pos) (rdI T.G (iEn d)) := c.icast (i_en (c.gl hg) (c.mgn hm) (c.auncast ha) hs)
theorem XC.Zp {e e2 : Expr} {d : DA} {p pos tpos : Pos} {elts : List Expr} {kk : Nat} (hg : sc.names.lookup ("zip" : Str) = some .globalImplicit) (hm : T.mg "zip" = none) (ha : PA X [e, e2] (rdA T.G d)) (hs : starEach [e, e2] X.env = (false, eval e X.env) :: starEach [e2] X.env) (hpl : (backTo pos (starEach [e2] X.env)).any (·.1) = false) :
    PI X (.Tuple elts kk tpos) (.Call (.Name "zip" p) [e, e2] [] pos) (rdI T.G (iZp d)) := c.icast (i_zp (c.gl hg) (c.mgn hm) (c.auncast ha) hs hpl)
theorem XC.tp {vs : List Nat} {es : List Expr} {kk n : Nat} {r : DGs} {pos : Pos} (h : PGs X es (rdGs T.G vs r)) (hn : (assignEach es X.env).length = n) (hst : (assignEach es X.env).findIdx? (·.1) = none) : PG X (.Tuple es kk pos) (rdG T.G vs (gTp n r)) :=
  c.gcast (g_tp c.cal (c.gsun h) hn hst)
theorem XC.nmL {i : Nat} {x : Str} {vs : List Nat} {pos : Pos} (hi : N[i]? = some x) (hx : sc.names.lookup x = some .local) (hv : i ∈ vs) : PG X (.Name x pos) (rdG T.G vs (gNm i)) := g_nm c.nN (c.hn hi) (.inl (c.lk hx)) (.inr (c.lk hx)) hv
theorem XC.nmC {i : Nat} {x : Str} {vs : List Nat} {pos : Pos} (hb : b = true) (hi : N[i]? = some x) (hx : sc.names.lookup x = some .cell) (hv : i ∈ vs) : PG X (.Name x pos) (rdG T.G vs (gNm i)) := g_nm c.nN (c.hn hi) (.inr (c.lk hx)) (.inl (c.fnx hb x)) hv
theorem XC.setL {i : Nat} {x : Str} {e : Expr} {d : DE} {pos pos' : Pos} (hi : N[i]? = some x) (hx : sc.names.lookup x = some .local) (he : PE X e (rdE T.G d)) (hs : swapsWith e (some (.Name x pos')) pos.line X.env = pure false) : PS X (.Assign [.Name x pos'] e pos) (rdS T.G (sAsg d (gNm i))) :=
  s_set c.nN (c.hn hi) (.inl (c.lk hx)) (.inr (c.lk hx)) he hs
theorem XC.setC {i : Nat} {x : Str} {e : Expr} {d : DE} {pos pos' : Pos} (hb : b = true) (hi : N[i]? = some x) (hx : sc.names.lookup x = some .cell) (he : PE X e (rdE T.G d)) (hs : swapsWith e (some (.Name x pos')) pos.line X.env = pure false) : PS X (.Assign [.Name x pos'] e pos) (rdS T.G (sAsg d (gNm i))) :=
  s_set c.nN (c.hn hi) (.inr (c.lk hx)) (.inl (c.fnx hb x)) he hs
theorem XC.kindF (h : sc.kind = .function) : X.env.scope.kind = .function := by rw [c.sc]; exact h
theorem XC.augL {i : Nat} {x : Str} {e : Expr} {op : Operator} {f : EV → EV → EH → R} {t : TIp} {d : DE} {pos pos' : Pos} (ho : PIp X op t) (hs : OpS T.G f t) (hi : N[i]? = some x) (hx : sc.names.lookup x = some .local) (he : PE X e (rdE T.G d)) : PS X (.AugAssign (.Name x pos') op e pos) (rdS T.G (sAugN i f d)) :=
  s_augN c.nN (c.hn hi) (.inl (c.lk hx)) (.inr (c.lk hx)) ho hs he
theorem XC.augC {i : Nat} {x : Str} {e : Expr} {op : Operator} {f : EV → EV → EH → R} {t : TIp} {d : DE} {pos pos' : Pos} (hb : b = true) (ho : PIp X op t) (hs : OpS T.G f t) (hi : N[i]? = some x) (hx : sc.names.lookup x = some .cell) (he : PE X e (rdE T.G d)) : PS X (.AugAssign (.Name x pos') op e pos) (rdS T.G (sAugN i f d)) :=
  s_augN c.nN (c.hn hi) (.inr (c.lk hx)) (.inl (c.fnx hb x)) ho hs he
theorem XC.sfld {o value : Expr} {f f' : Str} {cs : List Nat} {pos po : Pos} {dO dv : DE} (hf : f = f') (F : Fld T.G.K T.G.ca f cs) (ho : PE X o (rdE T.G dO)) (hv : PE X value (rdE T.G dv)) (hs : swapsWith value (some (.Attribute o f po)) pos.line X.env = pure false) : PS X (.Assign [.Attribute o f po] value pos) (rdS T.G (sFldS cs f' dO dv)) := by
  subst hf
  exact c.scast (s_fld (by rw [c.K]; exact F) (c.uncast ho) (c.uncast hv) hs)
theorem XC.sfldA {o value : Expr} {f f' : Str} {cs : List Nat} {pos po : Pos} {dO dv : DE} (hf : f = f') (F : Fld T.G.K T.G.ca f cs) (ho : PE X o (rdE T.G dO)) (hv : PE X value (rdE T.G dv)) : PS X (.AugAssign (.Attribute o f po) .Add value pos) (rdS T.G (sFldAg cs f' Int.add dO dv)) := by
  subst hf
  exact c.scast (s_fldAg (g := Int.add) in_add (by rw [c.K]; exact F) (c.uncast ho) (c.uncast hv))
theorem XC.sfldM {o value : Expr} {f f' : Str} {cs : List Nat} {pos po : Pos} {dO dv : DE} (hf : f = f') (F : Fld T.G.K T.G.ca f cs) (ho : PE X o (rdE T.G dO)) (hv : PE X value (rdE T.G dv)) : PS X (.AugAssign (.Attribute o f po) .Sub value pos) (rdS T.G (sFldAg cs f' Int.sub dO dv)) := by
  subst hf
  exact c.scast (s_fldAg (g := Int.sub) in_sub (by rw [c.K]; exact F) (c.uncast ho) (c.uncast hv))
theorem XC.ssubA {o i e : Expr} {tpos pos : Pos} {dO di dv : DE} (ho : PE X o (rdE T.G dO)) (hi : PE X i (rdE T.G di)) (he : PE X e (rdE T.G dv))
    (ha : ∀ ov iv new, augStore i ov iv new = (do holding [new, ov, iv] (setItem ov iv new); release [new, ov, iv] []; pure .next)) : PS X (.AugAssign (.Subscript o i tpos) .Add e pos) (rdS T.G (sSubAg Int.add dO di dv)) :=
  c.scast (s_subAg (g := Int.add) c.u1 ip_add (c.uncast ho) (c.uncast hi) (c.uncast he) ha)
theorem XC.fldS {a : Expr} {f f' : Str} {cs : List Nat} {da : DE} {pos : Pos} (hf : f = f') (F : Fld T.G.K T.G.ca f cs) (ha : PE X a (rdE T.G da)) (hb : attributeBase a f X.env (eval a X.env) = eval a X.env) : PE X (.Attribute a f pos) (rdE T.G (eFld cs f' da)) := by
  subst hf
  exact c.fld F ha hb
end
theorem k_strS {T : Tb} {X : Cx} {x x' : Str} {j pos} (h : x = x') : PE X (.Constant (.str x) j pos) (rdE T.G (eC (.str x'))) := by subst h; exact k_str
end LV
end

/-! ##### _ren.lean -/
set_option Elab.async false
set_option linter.all false
set_option maxRecDepth 100000
set_option maxHeartbeats 4000000
set_option autoImplicit false
noncomputable section
namespace LV
open PySem PySem.Spec PyProof.Rows L2

theorem XC.mthS {T : Tb} {C : CF} {N : List Str} {sc : Scope} {b : Bool} {k : Nat} {X : Cx} (c : XC T C N sc b k X) {a : Expr} {es : List Expr} {dA : DA} {pos : Pos} {cs : List (Nat × Nat)} {m m' : Str} {o : Expr} {apos : Pos} {dO : DE} {pl : Sem Bool} (hm : m = m') (M : Mth T m cs) (ho : PE X o (rdE T.G dO)) (ha : PA X (a :: es) (rdA T.G dA))
    (hst : starEach (a :: es) X.env = (false, eval a X.env) :: starEach es X.env) (hpl : (backTo pos (starEach es X.env)).any (·.1) = false)
    (ht : eval (.Call (.Attribute o m apos) (a :: es) [] pos) X.env = (do
      let ov ← eval o X.env
      standAt apos.atName
      let (f, first) ← holding [ov] (getMethod ov m pl)
      callWith pos f first (backTo pos (starEach (a :: es) X.env)) (backToKw pos (keywordEach [] X.env)))) :
    PE X (.Call (.Attribute o m apos) (a :: es) [] pos) (rdE T.G (eMth C cs m' dO dA)) := by subst hm; exact c.mth M ho ha hst hpl ht
theorem XC.mthS0 {T : Tb} {C : CF} {N : List Str} {sc : Scope} {b : Bool} {k : Nat} {X : Cx} (c : XC T C N sc b k X) {pos : Pos} {cs : List (Nat × Nat)} {m m' : Str} {o : Expr} {apos : Pos} {dO : DE} {pl : Sem Bool} (hm : m = m') (M : Mth T m cs) (ho : PE X o (rdE T.G dO))
    (ht : eval (.Call (.Attribute o m apos) [] [] pos) X.env = (do
      let ov ← eval o X.env
      standAt apos.atName
      let (f, first) ← holding [ov] (getMethod ov m pl)
      callWith pos f first (backTo pos (starEach [] X.env)) (backToKw pos (keywordEach [] X.env)))) :
    PE X (.Call (.Attribute o m apos) [] [] pos) (rdE T.G (eMth C cs m' dO aNil)) := by subst hm; exact c.mth0 M ho ht

/-! ## the head: defs at any address, facts as one Bool, tables -/
structure VD where
  adr : PySem.W.Frag → Addr
  name : Str
  qual : Str
  params : Arguments
  body : List Stmt
  scope : Scope
def fnV (K : PySem.W.Frag) (a : Addr) : He.FnW := match K.lookup a with
  | some ⟨_, _, .func fd, _⟩ => some (fd.name, fd.qualname, fd.params, fd.body, fd.scope, fd.globals, fd.closure, fd.builtins)
  | _ => none
def VD.val (d : VD) : He.FnW := some (d.name, d.qual, d.params, .stmts d.body, d.scope, mainGlobals, [], builtinsNs)
def VD.ok (K : PySem.W.Frag) (d : VD) : Bool := PySem.W.keepIn K (.ref (d.adr K)) && (match K.lookup (d.adr K) with
  | some ⟨_, _, .func fd, _⟩ => PySem.W.codeIn K fd.code d.qual && (He.dflB K fd.defaults [] && He.kwdB K fd.kwdefaults [])
  | _ => false)
theorem VD.funD {K : PySem.W.Frag} {d : VD} (e : fnV K (d.adr K) = d.val) (c : d.ok K = true) : ∃ fd, FunD K d.name d.qual d.params d.body d.scope [] [] (d.adr K) fd := by
  obtain ⟨kp, c2⟩ := He.ba c
  unfold fnV at e
  cases q : K.lookup (d.adr K) with
  | none =>
    rw [q] at c2
    cases c2
  | some o =>
    obtain ⟨oc, od, dt, osl⟩ := o
    rw [q] at c2 e
    cases dt with
    | func fd =>
      obtain ⟨n1, n2, n3, n4, n5, n6, n7, n8, n9, n10, n11, n12, n13, n14, n15⟩ := fd
      have e2 : (some (n1, n2, n3, n4, n5, n6, n7, n15) : He.FnW) = some (d.name, d.qual, d.params, .stmts d.body, d.scope, mainGlobals, [], builtinsNs) := e
      simp only [Option.some.injEq, Prod.mk.injEq] at e2
      obtain ⟨h1, h2, h3, h4, h5, h6, h7, h8⟩ := e2
      subst h1 h2 h3 h4 h5 h6 h7 h8
      have c3 : (PySem.W.codeIn K n13 d.qual && (He.dflB K n8 [] && He.kwdB K n9 [])) = true := c2
      obtain ⟨k1, k2⟩ := He.ba c3
      obtain ⟨k3, k4⟩ := He.ba k2
      exact ⟨_, ⟨oc, od, n8, n9, n10, n11, n12, n13, n14, osl, rfl, q, k1, He.dflB_ok k3, He.kwdB_ok k4⟩, kp⟩
    | _ => cases c2
abbrev AlV : Type := Bool × List He.FnW × List (Option (List (Option (Str × Int))))
def obsV (ex : PySem.W.Frag → Bool) (fn : List VD) (ts : List He.Tab) (K : PySem.W.Frag) : AlV := (ex K && fn.all fun d => d.ok K, fn.map fun d => fnV K (d.adr K), ts.map fun t => He.dicW K (t.1 K))
def valV (fn : List VD) (ts : List He.Tab) (w : World) : AlV := (true, fn.map VD.val, ts.map fun t => some (He.keysIn w.params t.2))
def SaysV (ex : PySem.W.Frag → Bool) (fn : List VD) (ts : List He.Tab) (w : World) (K : PySem.W.Frag) : Prop := obsV ex fn ts K = valV fn ts w
/-- what a class, a table, a function reaches, so many steps -/
def reachN (g : Addr → Option Obj) (n : Nat) : Addr → List Addr := @Nat.rec (fun _ => Addr → List Addr) (fun a => [a]) (fun _ ih a => a :: (match g a with
  | some o => (match o.data with
    | .seq its _ => its.toList.flatMap fun v => (He.refV v).flatMap ih
    | .dict es _ => es.toList.flatMap fun e => (He.refV e.val).flatMap ih
    | .func fd => He.refV fd.code ++ (He.refV fd.defaults ++ He.refV fd.kwdefaults)
    | .cls cd => ih cd.ns
    | .fields vs => vs.toList.flatMap fun v => (He.refV v).flatMap ih
    | _ => [])
  | none => [])) n
def selN (names : List Str) (g : Addr → Option Obj) : List Addr := mainGlobals :: cStatics :: (match g mainGlobals with
  | some o => (match o.data with
    | .dict es _ => names.flatMap fun x => (match es.toList.find? (fun e => e.key.isStr x) with
      | some e => (He.refV e.val).flatMap (reachN g 4)
      | none => [])
    | _ => [])
  | none => [])
def obsVG (n : List Str) (ex : PySem.W.Frag → Bool) (fn : List VD) (ts : List He.Tab) (g : Addr → Option Obj) : AlV := obsV ex fn ts (He.frG g (selN n g))
def hookV (n : List Str) (ex : PySem.W.Frag → Bool) (fn : List VD) (ts : List He.Tab) : PySem.W.Hook where
  α := AlV
  obs := fun s => obsVG n ex fn ts s.heap.get?
  val := fun w => valV fn ts w
  says := fun w h => ∃ K : PySem.W.Frag, K.In h ∧ SaysV ex fn ts w K
  of := fun _ _ e => ⟨_, He.frG_in, e⟩
  keeps := fun _ _ _ ⟨K, hK, c⟩ k => ⟨K, PySem.W.Frag.In.keeps hK k, c⟩
theorem obsVG_eq {n : List Str} {ex : PySem.W.Frag → Bool} {fn : List VD} {ts : List He.Tab} {g : Addr → Option Obj} {s : Shared} (h : ∀ a, g a = s.heap.get? a) : obsVG n ex fn ts g = (hookV n ex fn ts).obs s := by
  have e : g = s.heap.get? := funext h
  rw [e] <;> rfl
section
variable {ex : PySem.W.Frag → Bool} {fn : List VD} {ts : List He.Tab} {w : World} {K : PySem.W.Frag}
theorem SaysV.facts (c : SaysV ex fn ts w K) : ex K = true := (He.ba (show (ex K && fn.all fun d => d.ok K) = true from congrArg (fun z : AlV => z.1) c)).1
theorem SaysV.def_ (c : SaysV ex fn ts w K) (i : Nat) {d : VD} (h : fn[i]? = some d) : ∃ fd, FunD K d.name d.qual d.params d.body d.scope [] [] (d.adr K) fd := by
  have c2 := (He.ba (show (ex K && fn.all fun d => d.ok K) = true from congrArg (fun z : AlV => z.1) c)).2
  have e : fn.map (fun d => fnV K (d.adr K)) = fn.map VD.val := congrArg (fun z : AlV => z.2.1) c
  have e2 : (fn.map fun d => fnV K (d.adr K))[i]? = (fn.map VD.val)[i]? := by rw [e]
  rw [List.getElem?_map, List.getElem?_map, h] at e2
  exact VD.funD (Option.some.inj e2) (List.all_eq_true.mp c2 d (List.mem_of_getElem? h))
theorem SaysV.tab (c : SaysV ex fn ts w K) (i : Nat) {t : He.Tab} (h : ts[i]? = some t) : ∃ es n, KDict K w (t.1 K) es n := by
  have e : ts.map (fun t => He.dicW K (t.1 K)) = ts.map fun t => some (He.keysIn w.params t.2) := congrArg (fun z : AlV => z.2.2) c
  have e2 : (ts.map fun t => He.dicW K (t.1 K))[i]? = (ts.map fun t => some (He.keysIn w.params t.2))[i]? := by rw [e]
  rw [List.getElem?_map, List.getElem?_map, h] at e2
  exact He.dicW_ok (Option.some.inj e2)
end
/-- a class's def behind a classmethod -/
def cmA (x m : Str) (K : PySem.W.Frag) : Addr := match PySem.W.recIn K (He.ma K (He.ga K x) m) "classmethod" with
  | some (.ref g :: _) => g
  | _ => 0
/-- facts, many -/
def allF (l : List (PySem.W.Frag → Bool)) (K : PySem.W.Frag) : Bool := l.all fun f => f K
theorem allF_at {l : List (PySem.W.Frag → Bool)} {K : PySem.W.Frag} (h : allF l K = true) (i : Nat) {f : PySem.W.Frag → Bool} (e : l[i]? = some f) : f K = true := List.all_eq_true.mp h f (List.mem_of_getElem? e)
end LV
end

/-! ##### _ren.lean -/
set_option Elab.async false
set_option linter.all false
set_option maxRecDepth 100000
set_option maxHeartbeats 4000000
set_option autoImplicit false
noncomputable section
namespace LV
open PySem PySem.Spec PyProof.Rows L2
abbrev rJoinA (K : PySem.W.Frag) : V → List V → Hp → VK → Prop := fun x xs H Q => ∃ a p, ∃ ys : List Str, x = .str a ∧ xs = [.ref p] ∧ (SqL K H p (ys.map V.str) ∨ SqT K H p (ys.map V.str)) ∧ (ys.map (·.length)).sum + ys.length * a.length ≤ 16777216 ∧ Q (.str (Txt.join a ys)) H
abbrev rSplitA : V → List V → Hp → VK → Prop := fun x xs H Q => ∃ a b, x = .str a ∧ xs = [.str b] ∧ (b.length == 0) = false ∧ a.length + 2 ≤ sizeLine ∧ rNewStrs (Txt.split a b) H Q
def isStr : Expr → Bool
  | .Starred .. => true
  | _ => false
def swG (x y : Str) (px py : Pos) (a b : Expr) : Bool := !isStr a && !isStr b && (py.line == px.line) && !(x == y) && !(foldedForSure 8 a && foldedForSure 8 b) && !(constantsAlone 8 a && constantsAlone 8 b)
theorem swp {env : Env} {x y : Str} {px py : Pos} {kt k2 pt pt2} {a b : Expr} (hk : env.scope.kind = .function) (hx : env.scope.names.lookup x = some .local) (hy : env.scope.names.lookup y = some .local) (h : swG x y px py a b = true) :
    swappedStores [.Tuple [.Name x px, .Name y py] kt pt] (.Tuple [a, b] k2 pt2) env = pure (some [x, y]) := by
  have kx : env.kindOf x = some .local := hx
  have ky : env.kindOf y = some .local := hy
  have hb : env.blockKind = .function := by unfold Env.blockKind; rw [hk]; rfl
  unfold swG at h
  simp only [Bool.and_eq_true, Bool.not_eq_true'] at h
  obtain ⟨⟨⟨⟨⟨h1, h2⟩, h3⟩, h4⟩, h5⟩, h6⟩ := h
  have h3' : py.line = px.line := by simpa using h3
  have hne : y ≠ x := fun z => by subst z; simp at h4
  have st : ∀ e : Expr, (match e with | .Starred .. => true | _ => false) = isStr e := fun e => by cases e <;> rfl
  have pl : (Expr.Name x px).pos.line = px.line := rfl
  have e3 : ([x, y] : List Str).eraseDups = [x, y] := by
    simp [List.eraseDups_cons, hne]
  unfold swappedStores
  refine (if_neg ?c1).trans ((if_neg ?c2).trans ((if_neg ?c3).trans ((if_neg ?c4).trans ((if_neg ?c5).trans ?e))))
  case c1 => simp [hb]
  case c2 =>
    intro z
    rcases List.any_eq_true.mp z with ⟨e, he, hs⟩
    rcases List.mem_cons.mp he with rfl | he
    · cases e <;> first | exact nomatch (show false = true from hs) | exact nomatch (show true = false from h1)
    · rcases List.mem_cons.mp he with rfl | he
      · cases e <;> first | exact nomatch (show false = true from hs) | exact nomatch (show true = false from h2)
      · cases he
  case c3 => simp [List.filterMap_cons, kx, ky, pl, h3', e3]
  case c4 => simp only [List.all_cons, List.all_nil, Bool.and_true]; rw [h5]; simp
  case c5 => simp only [List.all_cons, List.all_nil, Bool.and_true]; rw [h6]; simp
  case e => simp [List.filterMap_cons, kx, ky, pl, h3']
/-- from a to b -/
inductive AllN (P : Nat → Prop) : Nat → Nat → Prop where
  | nil (a : Nat) : AllN P a a
  | cons {a b : Nat} : P a → AllN P (a + 1) b → AllN P a b
theorem AllN.at_ {P : Nat → Prop} {a b : Nat} (h : AllN P a b) : ∀ i, a ≤ i → i < b → P i := by
  induction h with
  | nil a => intro i h1 h2; omega
  | @cons a b p t ih =>
    intro i h1 h2
    by_cases c : i = a
    · rw [c]; exact p
    · exact ih i (by omega) h2
end LV
end

/-! ##### _ren.lean -/
set_option Elab.async false
set_option linter.all false
set_option maxRecDepth 100000
set_option maxHeartbeats 4000000
set_option autoImplicit false
noncomputable section
namespace LV
open PySem PySem.Spec PyProof.Rows L2
section
variable {T : Tb} {C : CF} {N : List Str} {sc : Scope} {b : Bool} {k : Nat} {X : Cx} (c : XC T C N sc b k X) {pos : Pos} {tg iter : Expr} {ifs : List Expr} {scope : Scope} {own : List (Str × Nat)} {it : DI} {g : DG} {t : DB} {ek e : DE}
include c
theorem XC.lc {elt : Expr} (hi : PI X tg iter (rdI T.G it)) (h : blkC N sc scope own = true) (hg : ∀ X', XC T C N (relS scope sc) false k X' → PG X' tg (rdG T.G (own.map (·.2)) g)) (ht : ∀ X', XC T C N (relS scope sc) false k X' → PTs X' ifs (rdB T.G t))
    (he : ∀ X', XC T C N (relS scope sc) false k X' → PE X' elt (rdE T.G e)) (hs : ∀ x, foldedSetIterable iter X.env x = pure x) : PE X (.ListComp elt [⟨tg, iter, ifs, 0⟩] scope pos) (rdE T.G (eLc it g t e (own.map (·.2)))) :=
  q_lc c.cal c.nN hi (c.bok h) (fun s H Ca cl fp => hg _ (c.blk scope s H Ca cl fp)) (fun s H Ca cl fp => ht _ (c.blk scope s H Ca cl fp)) (fun s H Ca cl fp => he _ (c.blk scope s H Ca cl fp)) hs
theorem XC.dc {kx vx : Expr} (hi : PI X tg iter (rdI T.G it)) (h : blkC N sc scope own = true) (hg : ∀ X', XC T C N (relS scope sc) false k X' → PG X' tg (rdG T.G (own.map (·.2)) g)) (ht : ∀ X', XC T C N (relS scope sc) false k X' → PTs X' ifs (rdB T.G t))
    (hk : ∀ X', XC T C N (relS scope sc) false k X' → PE X' kx (rdE T.G ek)) (he : ∀ X', XC T C N (relS scope sc) false k X' → PE X' vx (rdE T.G e)) (hs : ∀ x, foldedSetIterable iter X.env x = pure x) : PE X (.DictComp kx vx [⟨tg, iter, ifs, 0⟩] scope pos) (rdE T.G (eDc it g t ek e (own.map (·.2)))) :=
  q_dc c.cal c.nN hi (c.bok h) (fun s H Ca cl fp => hg _ (c.blk scope s H Ca cl fp)) (fun s H Ca cl fp => ht _ (c.blk scope s H Ca cl fp)) (fun s H Ca cl fp => hk _ (c.blk scope s H Ca cl fp)) (fun s H Ca cl fp => he _ (c.blk scope s H Ca cl fp)) hs
theorem XC.setLc {elt : Expr} {i : Nat} {y : Str} {py spos : Pos} (hy : N[i]? = some y) (hyl : sc.names.lookup y = some .local) (hk : sc.kind = .function) (hl : (py.line == pos.line) = true) (ha : (scope.names.any fun (n, k) => n == y && (k == .local || k == .cell)) = false)
    (hi : PI X tg iter (rdI T.G it)) (h : blkC N sc scope own = true) (hg : ∀ X', XC T C N (relS scope sc) false k X' → PG X' tg (rdG T.G (own.map (·.2)) g)) (ht : ∀ X', XC T C N (relS scope sc) false k X' → PTs X' ifs (rdB T.G t))
    (he : ∀ X', XC T C N (relS scope sc) false k X' → PE X' elt (rdE T.G e)) (hs : ∀ x, foldedSetIterable iter X.env x = pure x) : PS X (.Assign [.Name y py] (.ListComp elt [⟨tg, iter, ifs, 0⟩] scope pos) spos) (rdS T.G (sAsg (eLc it g t e (own.map (·.2))) (gNm i))) :=
  s_setLc c.cal c.nN (c.hn hy) (c.lk hyl) (sw_true (c.kindF hk) (c.lk hyl) hl ha) hi (c.bok h) (fun s H Ca cl fp => hg _ (c.blk scope s H Ca cl fp)) (fun s H Ca cl fp => ht _ (c.blk scope s H Ca cl fp)) (fun s H Ca cl fp => he _ (c.blk scope s H Ca cl fp)) hs
theorem XC.setDc {kx vx : Expr} {i : Nat} {y : Str} {py spos : Pos} (hy : N[i]? = some y) (hyl : sc.names.lookup y = some .local) (hkf : sc.kind = .function) (hl : (py.line == pos.line) = true) (ha : (scope.names.any fun (n, k) => n == y && (k == .local || k == .cell)) = false)
    (hi : PI X tg iter (rdI T.G it)) (h : blkC N sc scope own = true) (hg : ∀ X', XC T C N (relS scope sc) false k X' → PG X' tg (rdG T.G (own.map (·.2)) g)) (ht : ∀ X', XC T C N (relS scope sc) false k X' → PTs X' ifs (rdB T.G t))
    (hk : ∀ X', XC T C N (relS scope sc) false k X' → PE X' kx (rdE T.G ek)) (he : ∀ X', XC T C N (relS scope sc) false k X' → PE X' vx (rdE T.G e)) (hs : ∀ x, foldedSetIterable iter X.env x = pure x) : PS X (.Assign [.Name y py] (.DictComp kx vx [⟨tg, iter, ifs, 0⟩] scope pos) spos) (rdS T.G (sAsg (eDc it g t ek e (own.map (·.2))) (gNm i))) :=
  s_setDc c.cal c.nN (c.hn hy) (c.lk hyl) (sw_trueD (c.kindF hkf) (c.lk hyl) hl ha) hi (c.bok h) (fun s H Ca cl fp => hg _ (c.blk scope s H Ca cl fp)) (fun s H Ca cl fp => ht _ (c.blk scope s H Ca cl fp)) (fun s H Ca cl fp => hk _ (c.blk scope s H Ca cl fp)) (fun s H Ca cl fp => he _ (c.blk scope s H Ca cl fp)) hs
end
end LV
end

/-! ##### _ren.lean -/
set_option Elab.async false
set_option linter.all false
set_option maxRecDepth 100000
set_option maxHeartbeats 4000000
set_option autoImplicit false
noncomputable section
namespace LV
open PySem PySem.Spec PyProof.Rows L2
def zipE (xs : List EV) : List EV → List EV := @List.rec EV (fun _ => List EV → List EV) (fun _ => []) (fun x _ ih ys => @List.rec EV (fun _ => List EV) [] (fun y r _ => .tup [x, y] :: ih r) ys) xs
def eLz (d : DA) : DE := fun s h => (d s h).bd .no fun xs h => on2 xs .no fun x y => onTup x .no fun as => onTup y .no fun bs => cnd (Nat.ble (lLen as) 1000) (cnd (Nat.ble (lLen bs) 1000) (mkL (zipE as bs) h) .no) .no
/-! ## texts walked, too -/
def nxStr (s : Str) : NX := fun i h => onOpt (nth s.cps.toList i) .dn fun c => .it (.str (sMk [c])) h
def iSqA (d : DE) : DI := fun s h => (d s h).bd .no fun x h => onStr x (onOpt (seqE h x) .no fun _ => .ok (nxSq x) h) fun st => .ok (nxStr st) h
section
variable {G : GA} {X : Cx} {ρ : Nat → Addr} {h : EH} {H : Hp}
theorem it_str {s : Str} : ItOk G (Its s) (nxStr s) ρ h H := by
  refine ⟨fun i ρ1 h1 H1 l em e => ?_, fun i ρ1 h1 H1 y h2 l em e => ?_⟩
  · rcases onOpt_dn e with ⟨q, _⟩ | ⟨x, q, e⟩
    · rw [nth_eq] at q
      have := List.getElem?_eq_none_iff.mp q
      show s.cps.size ≤ i
      simpa using this
    · cases e
  · rcases onOpt_it e with ⟨_, q⟩ | ⟨c, q, e⟩
    · cases q
    · cases e
      rw [nth_eq] at q
      have hl := (List.getElem?_eq_some_iff.mp q).1
      refine ⟨by show i < s.cps.size; simpa using hl, fun v H' y => ?_⟩
      obtain ⟨rfl, c', hc, rfl⟩ := y
      rw [← Array.getElem?_toList, q] at hc
      cases hc
      exact ⟨ρ1, Lat.refl, em, .str _⟩
def iSqVA (K : PySem.W.Frag) (tl : TE) : TI := fun σ H R => tl σ H fun x H1 => (∃ (a : Addr) (k : Bool), x = .ref a ∧ (∃ xs, SqK k K H1 a xs) ∧ R (ItsK k K a) H1) ∨ ∃ s, x = .str s ∧ R (Its s) H1
theorem pi_sqA {tg l : Expr} {tl : TE} (hl : PE X l tl) : PI X tg l (iSqVA X.K tl) := by
  refine ⟨fun pins s σ H R I h => ?_⟩
  refine thn (hl.run pins s σ H _ I h) fun v s1 ⟨x, H1, I1, r1, q1⟩ => ?_
  rcases q1 with ⟨a, k, e, ⟨xs, hq⟩, q⟩ | ⟨x, ex, q⟩
  · subst e
    cases r1
    cases k with
    | false =>
      obtain ⟨its, rv, p, hz⟩ := I1.list hq
      refine wpAny_pyIter_list p.isList ?_
      refine ⟨s1.heap.objs.size, [s1.heap.objs.size], _, _, H1, rfl, I1.kept (t' := s1.toks) fun b o e => Heap.get?_push_of_some _ e, turn_list a _, ⟨_, Heap.get?_push_size _ rfl, rfl, rfl⟩, fun b hb => ?_, q⟩
      have e : b = s1.heap.objs.size := by simpa using hb
      subst e
      exact I1.fpOk (Nat.le_refl _) (I1.hok.fresh (Nat.le_refl _))
    | true =>
      obtain ⟨its, rv, p, hz⟩ := I1.tuple hq
      refine wpAny_pyIter_tuple (show s1.heap.IsTuple a its.toArray from p) ?_
      refine ⟨s1.heap.objs.size, [s1.heap.objs.size], _, _, H1, rfl, I1.kept (t' := s1.toks) fun b o e => Heap.get?_push_of_some _ e, turn_tuple a _, ⟨_, Heap.get?_push_size _ rfl, rfl, rfl⟩, fun b hb => ?_, q⟩
      have e : b = s1.heap.objs.size := by simpa using hb
      subst e
      exact I1.fpOk (Nat.le_refl _) (I1.hok.fresh (Nat.le_refl _))
  · subst ex
    obtain ⟨t, rfl⟩ := r1
    cases ha : x.cps.all (· < 128)
    · exact wpAny_pyIter_wide ha (pi_one (tk := s1.toks) I1 _ (turn_str _ x t "str_iterator" (.inr rfl)) ⟨_, Heap.get?_push_size _ rfl, rfl, rfl⟩ q)
    · exact wpAny_pyIter_ascii ha (pi_one (tk := s1.toks) I1 _ (turn_str _ x t "str_ascii_iterator" (.inl rfl)) ⟨_, Heap.get?_push_size _ rfl, rfl, rfl⟩ q)
theorem i_sqA {tg l : Expr} {d : DE} (hl : PE X l (rdE ⟨X.K, G.gl, G.ca⟩ d)) : PI X tg l (rdI ⟨X.K, G.gl, G.ca⟩ (iSqA d)) := by
  refine PI.weak (pi_sqA hl) ?_
  rintro σ H RR ⟨ρ, es, h, nx, h', em, sl, e, k⟩
  obtain ⟨x, h1, e1, eb⟩ := R.bd_ok (P := IsT nx h') isNoT e
  have ec : (∃ s, x = .str s ∧ RT.ok (nxStr s) h1 = .ok nx h') ∨ onOpt (seqE h1 x) RT.no (fun _ => .ok (nxSq x) h1) = .ok nx h' := by
    cases x <;> first | exact .inr eb | exact .inl ⟨_, rfl, eb⟩
  rcases ec with ⟨s, ex, e9⟩ | e9
  · cases e9
    subst ex
    refine ⟨ρ, es, h, _, _, em, sl, e1, fun ρ1 v H1 l1 em1 rx => ?_⟩
    cases rx
    exact .inr ⟨s, rfl, k _ ρ1 H1 l1 em1 it_str⟩
  · obtain ⟨xs, e2, e8⟩ := onOpt_ok (P := IsT nx h') isNoT e9
    cases e8
    refine ⟨ρ, es, h, x, _, em, sl, e1, fun ρ1 v H1 l1 em1 rx => ?_⟩
    obtain ⟨a, vs, ev, q, rs⟩ := seq_at em1 rx e2
    exact .inl ⟨a, kE x, ev, ⟨vs, q⟩, k _ ρ1 H1 l1 em1 (it_sq rx ev)⟩
end
theorem XC.SqA {T : Tb} {C : CF} {N : List Str} {sc : Scope} {b : Bool} {k : Nat} {X : Cx} (c : XC T C N sc b k X) {tg e : Expr} {d : DE} (h : PE X e (rdE T.G d)) : PI X tg e (rdI T.G (iSqA d)) := c.icast (i_sqA (c.uncast h))
end LV
end

/-! ##### _ren.lean -/
set_option Elab.async false
set_option linter.all false
set_option maxRecDepth 100000
set_option maxHeartbeats 4000000
set_option autoImplicit false
noncomputable section
namespace LV
open PySem PySem.Spec PyProof.Rows L2
open Sem (wp)
/-! ## list(zip(x, y)) of two tuples -/
theorem ne_lt {a b N : Nat} (h : a < N) (h2 : N ≤ b) : b ≠ a := by omega
theorem ne_ltj {a b j N : Nat} (h : a < N) (h2 : N ≤ b) : b + j ≠ a := by omega
section
variable {prog : Program} {w : World} {A : Around} {E : Value → Shared → Prop} {s : Shared} {z TI TO i1 i2 : Addr} {fp1 fp2 : List Addr} {n1 n2 i : Nat} {P1 P2 : Nat → Value → Prop} {St1 St2 : Nat → Heap → Prop} {a1 a2 : Value}
theorem zipH_item {T : Addr} {f : Bool} {oT : Obj} {Q : Value → Shared → Prop} (S : ZipSep2 z TI TO i1 i2 fp1 fp2) (D1 : Draws prog w A i1 fp1 n1 P1 St1) (D2 : Draws prog w A i2 fp2 n2 P2 St2)
    (hz : IsZipHeld s.heap z TI TO T f) (hT : s.heap.get? T = some oT) (hTI : IsTupOf2 s.heap TI (.ref i1) (.ref i2)) (st1 : St1 i s.heap) (st2 : St2 i s.heap) (hlt1 : i < n1) (hlt2 : i < n2)
    (hQ : ∀ x1 x2 h' tk, P1 i x1 → P2 i x2 → IsZipHeld h' z TI TO T true → St1 (i + 1) h' → St2 (i + 1) h' → IsTupOf2 h' s.heap.objs.size x1 x2 → h'.objs.size = s.heap.objs.size + 1 →
      (∀ c o, c ≠ z → c ≠ i1 → c ≠ i2 → s.heap.get? c = some o → h'.get? c = some o) → Q (.ref s.heap.objs.size) { s with heap := h', toks := tk }) :
    wpAny (model prog w) A (Builtin.«zip.__next__» ⟨[.ref z], []⟩) (fun fin s' => ∃ v, fin = .done (.ret v) ∧ Q v s') E s := by
  obtain ⟨hp, g, d, tk0, os⟩ := s
  show wpAny _ _ (field (.ref z) 2 >>= _) _ _ _
  refine wpAny_bind (wpAny_field hz rfl (x := .bool false) rfl ?_)
  show wpAny _ _ (field (.ref z) 3 >>= _) _ _ _
  refine wpAny_bind (wpAny_field hz rfl (x := .ref TI) rfl ?_)
  refine wpAny_bind (wpAny_seqItems hTI rfl ?_)
  show wpAny _ _ (Builtin.SmallTypes.ownedTupleIsFree (.ref z) >>= _) _ _ _
  refine wpAny_bind (wpAny_tupleHeld_zip hz hT fun g0 hz0 hs0 => ?_)
  replace hs0 : Heap.SameBut z hp g0 := hs0
  simp only [Bool.false_eq_true, if_false]
  refine wpAny_bind ?_
  rw [← Array.forIn_toList]
  simp only [List.forIn_cons, List.forIn_nil]
  refine wpAny_bind (wpAny_bind (wpAny_holding ?_))
  show wpAny _ _ (Builtin.SmallTypes.nextOf (.ref i1) >>= _) _ _ ⟨g0, g, d, tk0, os⟩
  refine wpAny_bind (D1.item i _ _ _ hlt1 (D1.over st1 hs0 S.zf1) fun x1 p1 tk1 hx1 sn1 hp1 => wpAny_pure ?_)
  replace hp1 : Heap.SameBut i1 g0 p1 := hp1
  refine wpAny_pure ?_
  refine wpAny_bind (wpAny_bind (wpAny_holding ?_))
  show wpAny _ _ (Builtin.SmallTypes.nextOf (.ref i2) >>= _) _ _ ⟨p1, g, d, tk1, os⟩
  refine wpAny_bind (D2.item i _ _ _ hlt2 (D2.over (D2.over st2 hs0 S.zf2) hp1 S.sep1_2) fun x2 p2 tk2 hx2 sn2 hp2 => wpAny_pure ?_)
  replace hp2 : Heap.SameBut i2 p1 p2 := hp2
  refine wpAny_pure (wpAny_pure ?_)
  show wpAny _ _ (newTuple [x1, x2] >>= _) _ _ ⟨p2, g, d, tk2, os⟩
  refine wpAny_bind (wpAny_newTuple ?_)
  have hsz : p2.objs.size = hp.objs.size := by rw [hp2.1, hp1.1, hs0.1]
  have hzz : IsZipHeld p2 z TI TO T true := hp2.extBut _ _ S.zi2 (hp1.extBut _ _ S.zi1 hz0)
  have hkk : ∀ c o, c ≠ z → c ≠ i1 → c ≠ i2 → hp.get? c = some o → p2.get? c = some o := fun c o cz c1 c2 e => hp2.extBut _ _ c2 (hp1.extBut _ _ c1 (hs0.extBut _ _ cz e))
  have hj1 : St1 (i + 1) p2 := D1.over sn1 hp2 S.sep2_1
  have up : ∀ c o, p2.get? c = some o → (p2.push { cls := .type "tuple", data := .seq #[x1, x2] }).get? c = some o := fun c o e => Heap.get?_push_of_some _ e
  refine wpAny_pure ⟨_, rfl, ?_⟩
  show Q (.ref p2.objs.size) ⟨p2.push { cls := .type "tuple", data := .seq #[x1, x2] }, g, d, tk2, os⟩
  have hT2 : IsTupOf2 (p2.push { cls := .type "tuple", data := .seq #[x1, x2] }) p2.objs.size x1 x2 := Heap.get?_push_size _ rfl
  have hz4 : (p2.push { cls := .type "tuple", data := .seq #[x1, x2] }).objs.size = p2.objs.size + 1 := Heap.size_push ..
  rw [hsz] at hT2 hz4 ⊢
  exact hQ x1 x2 _ tk2 hx1 hx2 (up _ _ hzz) (D1.frame _ _ _ hj1 fun b hb o e => up b o e) (D2.frame _ _ _ sn2 fun b hb o e => up b o e) hT2 hz4 fun c o cz c1 c2 e => up c o (hkk c o cz c1 c2 e)
theorem zipH_end {T : Addr} {f : Bool} {oT : Obj} {Q : Fin → Shared → Prop} (S : ZipSep2 z TI TO i1 i2 fp1 fp2) (D1 : Draws prog w A i1 fp1 n1 P1 St1) (D2 : Draws prog w A i2 fp2 n2 P2 St2)
    (hz : IsZipHeld s.heap z TI TO T f) (hT : s.heap.get? T = some oT) (hTI : IsTupOf2 s.heap TI (.ref i1) (.ref i2)) (st1 : St1 i s.heap) (st2 : St2 i s.heap) (hle1 : i ≤ n1) (hle2 : i ≤ n2) (hend : i = n1 ∨ i = n2)
    (hE : ∀ h' tk e, (∀ c o, c ≠ z → c ≠ i1 → c ≠ i2 → s.heap.get? c = some o → h'.get? c = some o) → (∃ o, h'.get? e = some o ∧ o.cls = .type "StopIteration") → E (.ref e) { s with heap := h', toks := tk }) :
    wpAny (model prog w) A (Builtin.«zip.__next__» ⟨[.ref z], []⟩) Q E s := by
  obtain ⟨hp, g, d, tk0, os⟩ := s
  show wpAny _ _ (field (.ref z) 2 >>= _) _ _ _
  refine wpAny_bind (wpAny_field hz rfl (x := .bool false) rfl ?_)
  show wpAny _ _ (field (.ref z) 3 >>= _) _ _ _
  refine wpAny_bind (wpAny_field hz rfl (x := .ref TI) rfl ?_)
  refine wpAny_bind (wpAny_seqItems hTI rfl ?_)
  show wpAny _ _ (Builtin.SmallTypes.ownedTupleIsFree (.ref z) >>= _) _ _ _
  refine wpAny_bind (wpAny_tupleHeld_zip hz hT fun g0 hz0 hs0 => ?_)
  replace hs0 : Heap.SameBut z hp g0 := hs0
  simp only [Bool.false_eq_true, if_false]
  refine wpAny_bind ?_
  rw [← Array.forIn_toList]
  simp only [List.forIn_cons, List.forIn_nil]
  refine wpAny_bind (wpAny_bind (wpAny_holding ?_))
  show wpAny _ _ (Builtin.SmallTypes.nextOf (.ref i1) >>= _) _ _ ⟨g0, g, d, tk0, os⟩
  by_cases hlt1 : i < n1
  · refine wpAny_bind (D1.item i _ _ _ hlt1 (D1.over st1 hs0 S.zf1) fun x1 p1 tk1 hx1 sn1 hp1 => wpAny_pure ?_)
    replace hp1 : Heap.SameBut i1 g0 p1 := hp1
    have hi2 : i = n2 := by omega
    refine wpAny_pure ?_
    refine wpAny_bind (wpAny_bind (wpAny_holding ?_))
    show wpAny _ _ (Builtin.SmallTypes.nextOf (.ref i2) >>= _) _ _ ⟨p1, g, d, tk1, os⟩
    refine wpAny_bind (D2.done ⟨p1, g, d, tk1, os⟩ _ _ (by rw [← hi2]; exact (D2.over (D2.over st2 hs0 S.zf2) hp1 S.sep1_2)) fun q e hq he => ?_)
    replace hq : Heap.ExtBut i2 p1 q := hq
    exact hE q tk1 e (fun c o cz c1 c2 x => hq _ _ c2 (hp1.extBut _ _ c1 (hs0.extBut _ _ cz x))) he
  · have hi1 : i = n1 := by omega
    refine wpAny_bind (D1.done ⟨g0, g, d, tk0, os⟩ _ _ (by rw [← hi1]; exact (D1.over st1 hs0 S.zf1)) fun q e hq he => ?_)
    replace hq : Heap.ExtBut i1 g0 q := hq
    exact hE q tk0 e (fun c o cz c1 c2 x => hq _ _ c1 (hs0.extBut _ _ cz x)) he
theorem zipH_next_item {T : Addr} {f : Bool} {oT : Obj} {Q : Option Value → Shared → Prop} (S : ZipSep2 z TI TO i1 i2 fp1 fp2) (D1 : Draws prog w A.in1 i1 fp1 n1 P1 St1) (D2 : Draws prog w A.in1 i2 fp2 n2 P2 St2)
    (hz : IsZipHeld s.heap z TI TO T f) (hT : s.heap.get? T = some oT) (hTI : IsTupOf2 s.heap TI (.ref i1) (.ref i2)) (st1 : St1 i s.heap) (st2 : St2 i s.heap) (hlt1 : i < n1) (hlt2 : i < n2)
    (hQ : ∀ x1 x2 h' tk, P1 i x1 → P2 i x2 → IsZipHeld h' z TI TO T true → St1 (i + 1) h' → St2 (i + 1) h' → IsTupOf2 h' s.heap.objs.size x1 x2 → h'.objs.size = s.heap.objs.size + 1 →
      (∀ c o, c ≠ z → c ≠ i1 → c ≠ i2 → s.heap.get? c = some o → h'.get? c = some o) → Q (some (.ref s.heap.objs.size)) { s with heap := h', toks := tk }) :
    wpAny (model prog w) A (pyNext (.ref z)) Q E s := by
  have hTy : s.TypeIs (.ref z) "zip" := ⟨_, hz, rfl⟩
  unfold pyNext
  exact wpAny_bind (wpAny_attempt (wpAny_callSpecial?_slot (name := Str.ofString "__next__") hTy F.slot_zip_next
    (wpAny_call_entry F.slot_zip_next hTy F.entry_zip_next
      (zipH_item S D1 D2 hz hT hTI st1 st2 hlt1 hlt2 fun x1 x2 h' tk y1 y2 b1 d1 d2 b5 b6 b7 => wpAny_pure (hQ x1 x2 h' tk y1 y2 b1 d1 d2 b5 b6 b7)) (F.args_zip_next_1 _))))
theorem zipH_next_end {T : Addr} {f : Bool} {oT : Obj} {Q : Option Value → Shared → Prop} (S : ZipSep2 z TI TO i1 i2 fp1 fp2) (D1 : Draws prog w A.in1 i1 fp1 n1 P1 St1) (D2 : Draws prog w A.in1 i2 fp2 n2 P2 St2)
    (hz : IsZipHeld s.heap z TI TO T f) (hT : s.heap.get? T = some oT) (hTI : IsTupOf2 s.heap TI (.ref i1) (.ref i2)) (st1 : St1 i s.heap) (st2 : St2 i s.heap) (hle1 : i ≤ n1) (hle2 : i ≤ n2) (hend : i = n1 ∨ i = n2)
    (hQ : ∀ h' tk, (∀ c o, c ≠ z → c ≠ i1 → c ≠ i2 → s.heap.get? c = some o → h'.get? c = some o) → Q none { s with heap := h', toks := tk }) : wpAny (model prog w) A (pyNext (.ref z)) Q E s := by
  have hTy : s.TypeIs (.ref z) "zip" := ⟨_, hz, rfl⟩
  unfold pyNext
  refine wpAny_bind (wpAny_attempt (wpAny_callSpecial?_slot (name := Str.ofString "__next__") hTy F.slot_zip_next
    (wpAny_call_entry F.slot_zip_next hTy F.entry_zip_next (zipH_end S D1 D2 hz hT hTI st1 st2 hle1 hle2 hend fun h' tk e hk he => ?_) (F.args_zip_next_1 _))))
  obtain ⟨o, ho, hc⟩ := he
  refine wpAny_bind (wpAny_isInstance (T := "StopIteration") (b := true) ⟨o, ho, hc⟩ isSubtype_stop ?_)
  exact wpAny_pure (hQ _ _ hk)
/-- a zip in a walk whose tuples all stay out -/
structure Zs (z TI TO i1 i2 : Addr) (St1 St2 : Nat → Heap → Prop) (N i : Nat) (h : Heap) : Prop where
  hTI : IsTupOf2 h TI (.ref i1) (.ref i2)
  hTO : ∃ a1 a2, IsTupOf2 h TO a1 a2
  st1 : St1 i h
  st2 : St2 i h
  zz : IsZip h z TI TO .none ∨ ∃ T f oT, IsZipHeld h z TI TO T f ∧ h.get? T = some oT ∧ N ≤ T
theorem Zs.keep {N : Nat} {h h' : Heap} (S : ZipSep2 z TI TO i1 i2 fp1 fp2) (D1 : Draws prog w A i1 fp1 n1 P1 St1) (D2 : Draws prog w A i2 fp2 n2 P2 St2) (x : Zs z TI TO i1 i2 St1 St2 N i h)
    (k : ∀ c o, c ∈ z :: TI :: TO :: (fp1 ++ fp2) ∨ N ≤ c → h.get? c = some o → h'.get? c = some o) : Zs z TI TO i1 i2 St1 St2 N i h' where
  hTI := k _ _ (.inl (by simp)) x.hTI
  hTO := let ⟨a, b, e⟩ := x.hTO; ⟨a, b, k _ _ (.inl (by simp)) e⟩
  st1 := D1.frame _ _ _ x.st1 fun b hb o e => k b o (.inl (by simp [hb])) e
  st2 := D2.frame _ _ _ x.st2 fun b hb o e => k b o (.inl (by simp [hb])) e
  zz := by
    rcases x.zz with e | ⟨T, f, oT, e, q, l⟩
    · exact .inl (k _ _ (.inl (by simp)) e)
    · exact .inr ⟨T, f, oT, k _ _ (.inl (by simp)) e, k _ _ (.inr l) q, l⟩
theorem Zs.next {N : Nat} {Q : Option Value → Shared → Prop} (S : ZipSep2 z TI TO i1 i2 fp1 fp2) (D1 : Draws prog w A.in1 i1 fp1 n1 P1 St1) (D2 : Draws prog w A.in1 i2 fp2 n2 P2 St2)
    (x : Zs z TI TO i1 i2 St1 St2 N i s.heap) (hN : N ≤ s.heap.objs.size) (lz : z < N) (lO : TO < N) (l1 : i1 < N) (l2 : i2 < N) (hlt1 : i < n1) (hlt2 : i < n2)
    (hQ : ∀ x1 x2 h' tk, P1 i x1 → P2 i x2 → Zs z TI TO i1 i2 St1 St2 N (i + 1) h' → IsTupOf2 h' s.heap.objs.size x1 x2 → h'.objs.size = s.heap.objs.size + 1 →
      (∀ c o, c ≠ z → c ≠ TO → c ≠ i1 → c ≠ i2 → s.heap.get? c = some o → h'.get? c = some o) → Q (some (.ref s.heap.objs.size)) { s with heap := h', toks := tk }) :
    wpAny (model prog w) A (pyNext (.ref z)) Q E s := by
  obtain ⟨hTI, ⟨a1, a2, hTO⟩, st1, st2, hz⟩ := x
  rcases hz with hz | ⟨T, f, oT, hz, hT, lT⟩
  · refine wpAny_pyNext_zipD2_item S D1 D2 hz hTI hTO st1 st2 hlt1 hlt2 fun x1 x2 h' tk y1 y2 b1 b2 d1 d2 b5 b6 hk => ?_
    exact hQ x1 x2 h' tk y1 y2 ⟨hk _ _ S.TIz S.TITO S.TIi1 S.TIi2 hTI, ⟨_, _, b2⟩, d1, d2, .inr ⟨_, _, _, b1, b5, hN⟩⟩ b5 b6 hk
  · refine zipH_next_item S D1 D2 hz hT hTI st1 st2 hlt1 hlt2 fun x1 x2 h' tk y1 y2 b1 d1 d2 b5 b6 hk => ?_
    exact hQ x1 x2 h' tk y1 y2 ⟨hk _ _ S.TIz S.TIi1 S.TIi2 hTI, ⟨_, _, hk _ _ S.TOz S.Ti1 S.Ti2 hTO⟩, d1, d2, .inr ⟨_, _, _, b1, hk _ _ (ne_lt lz lT) (ne_lt l1 lT) (ne_lt l2 lT) hT, lT⟩⟩ b5 b6 fun c o cz cT c1 c2 e => hk c o cz c1 c2 e
theorem Zs.stop {N : Nat} {Q : Option Value → Shared → Prop} (S : ZipSep2 z TI TO i1 i2 fp1 fp2) (D1 : Draws prog w A.in1 i1 fp1 n1 P1 St1) (D2 : Draws prog w A.in1 i2 fp2 n2 P2 St2)
    (x : Zs z TI TO i1 i2 St1 St2 N i s.heap) (hle1 : i ≤ n1) (hle2 : i ≤ n2) (hend : i = n1 ∨ i = n2)
    (hQ : ∀ h' tk, (∀ c o, c ≠ z → c ≠ TO → c ≠ i1 → c ≠ i2 → s.heap.get? c = some o → h'.get? c = some o) → Q none { s with heap := h', toks := tk }) :
    wpAny (model prog w) A (pyNext (.ref z)) Q E s := by
  obtain ⟨hTI, ⟨a1, a2, hTO⟩, st1, st2, hz⟩ := x
  rcases hz with hz | ⟨T, f, oT, hz, hT, lT⟩
  · exact wpAny_pyNext_zipD2_end S D1 D2 hz hTI hTO st1 st2 hle1 hle2 hend hQ
  · exact zipH_next_end S D1 D2 hz hT hTI st1 st2 hle1 hle2 hend fun h' tk hk => hQ h' tk fun c o cz cT c1 c2 e => hk c o cz c1 c2 e
/-- the tuples laid so far -/
def Laid (P1 P2 : Nat → Value → Prop) (B i : Nat) (acc : Array Value) (h : Heap) : Prop := acc.size = i ∧ ∀ j, j < i → acc[j]? = some (.ref (B + j)) ∧ ∃ x y, IsTupOf2 h (B + j) x y ∧ P1 j x ∧ P2 j y
theorem lz_loop {R : Result → Shared → Prop} {N B Sl n : Nat} (S : ZipSep2 z TI TO i1 i2 fp1 fp2) (D1 : Draws prog w A.in1.in1 i1 fp1 n1 P1 St1) (D2 : Draws prog w A.in1.in1 i2 fp2 n2 P2 St2)
    (lz : z < N) (lO : TO < N) (l1 : i1 < N) (l2 : i2 < N) (lS : Sl < N) (hNB : N ≤ B) (nz : Sl ≠ z) (nTI : Sl ≠ TI) (nO : Sl ≠ TO) (nf : Sl ∉ fp1 ++ fp2) (n1' : Sl ≠ i1) (n2' : Sl ≠ i2) (hn : n ≤ sizeLine) (hn1 : n ≤ n1) (hn2 : n ≤ n2) (hend : n = n1 ∨ n = n2) (res : Value) :
    ∀ (k i : Nat) (s : Shared) (acc : Array Value) (c : Nat), n - i = k → i ≤ n → Zs z TI TO i1 i2 St1 St2 N i s.heap → s.heap.objs.size = B + i → s.heap.get? Sl = some { cls := .type "list", dict := none, data := .seq acc c, slots := #[] } → Laid P1 P2 B i acc s.heap →
    (∀ h' tk acc' c', (∀ b o, b ≠ z → b ≠ TO → b ≠ i1 → b ≠ i2 → b ≠ Sl → s.heap.get? b = some o → h'.get? b = some o) → h'.get? Sl = some { cls := .type "list", dict := none, data := .seq acc' c', slots := #[] } → Laid P1 P2 B n acc' h' → R (.ok (.ret res)) { s with heap := h', toks := tk }) →
    codeAny (model prog w) A (.builtin "list.extend.loop" ⟨[.ref Sl, .ref z, res], []⟩) R s := by
  intro k
  induction k with
  | zero =>
    intro i s acc c hk hi zs hsz hS hacc hR
    have hin : i = n := by omega
    subst hin
    refine codeAny_builtin F.entry_extend_loop ?_
    rw [Around.under_plainId F.plain_extend_loop _]
    show wpAny _ A.in1 (pyNext (.ref z) >>= _) _ _ s
    refine wpAny_bind (zs.stop S D1 D2 hn1 hn2 hend fun h' tk hm => ?_)
    refine wpAny_pure (hR h' tk acc c (fun b o a1 a2 a3 a4 _ e => hm b o a1 a2 a3 a4 e) (hm _ _ nz nO n1' n2' hS) ⟨hacc.1, fun j hj => ?_⟩)
    obtain ⟨q, x, y, t, p1, p2⟩ := hacc.2 j hj
    exact ⟨q, x, y, hm _ _ (ne_ltj lz hNB) (ne_ltj lO hNB) (ne_ltj l1 hNB) (ne_ltj l2 hNB) t, p1, p2⟩
  | succ k ih =>
    intro i s acc c hk hi zs hsz hS hacc hR
    have hlt : i < n := by omega
    refine codeAny_builtin F.entry_extend_loop ?_
    rw [Around.under_plainId F.plain_extend_loop _]
    show wpAny _ A.in1 (pyNext (.ref z) >>= _) _ _ s
    refine wpAny_bind (zs.next S D1 D2 (by omega) lz lO l1 l2 (by omega) (by omega) fun x1 x2 h' tk y1 y2 zs' hT hsz' hm => ?_)
    have hS' := hm _ _ nz nO n1' n2' hS
    show wpAny _ A.in1 (updateSeq Sl (·.push (.ref s.heap.objs.size)) >>= _) _ _ _
    have oth : ∀ b o, b ≠ Sl → h'.get? b = some o → (h'.update Sl (Obj.mapSeq (·.push (.ref s.heap.objs.size)))).get? b = some o := fun b o hb e => (Heap.get?_update_other _ _ (Ne.symm hb)).trans e
    refine wpAny_bind (wpAny_updateSeq (s := { s with heap := h', toks := tk }) hS' rfl (wpAny_pure ⟨plainId_quiet F.plain_extend_loop _, ih (i + 1) { s with heap := h'.update Sl (Obj.mapSeq (·.push (.ref s.heap.objs.size))), toks := tk } (acc.push (.ref s.heap.objs.size)) _ (by omega) hlt ?_ ?_ (Heap.get?_update_self _ hS' rfl) ?_ fun h'' tk' acc' c' hm'' hS'' hacc' => ?_⟩)
      (by rw [hacc.1]; omega) (by show (acc.push _).size ≤ sizeLine + 1; rw [Array.size_push, hacc.1]; omega))
    · refine zs'.keep S D1 D2 fun b o hb e => oth b o (fun q => ?_) e
      subst q
      rcases hb with hb | hb
      · simp only [List.mem_cons] at hb
        rcases hb with q | q | q | q
        · exact nz q
        · exact nTI q
        · exact nO q
        · exact nf q
      · exact absurd hb (Nat.not_le_of_lt lS)
    · show (h'.update Sl _).objs.size = _
      rw [(Heap.SameBut.update h' Sl _).1, hsz', hsz]
      omega
    · refine ⟨by rw [Array.size_push, hacc.1], fun j hj => ?_⟩
      rw [Array.getElem?_push]
      by_cases e : j = i
      · subst e
        rw [if_pos hacc.1.symm]
        have hT' : IsTupOf2 h' (B + j) x1 x2 := by rw [← hsz]; exact hT
        exact ⟨congrArg (fun a => some (Value.ref a)) hsz, x1, x2, oth _ _ (ne_ltj lS hNB) hT', y1, y2⟩
      · rw [if_neg (by rw [hacc.1]; exact e)]
        obtain ⟨q, x, y, t, p1, p2⟩ := hacc.2 j (by omega)
        exact ⟨q, x, y, oth _ _ (ne_ltj lS hNB) (hm _ _ (ne_ltj lz hNB) (ne_ltj lO hNB) (ne_ltj l1 hNB) (ne_ltj l2 hNB) t), p1, p2⟩
    · exact hR h'' tk' acc' c' (fun b o a1 a2 a3 a4 a5 e => hm'' b o a1 a2 a3 a4 a5 (oth b o a5 (hm b o a1 a2 a3 a4 e))) hS'' hacc'
theorem zip_no_len : typeLookup (.type "zip") "__len__" = pure none := by rw [typeLookup_type, builtinLookup_eq_fast]; kernel_rfl
theorem zip_no_hint : typeLookup (.type "zip") "__length_hint__" = pure none := by rw [typeLookup_type, builtinLookup_eq_fast]; kernel_rfl
theorem lz_self {Q : Value → Shared → Prop} (hT : s.TypeIs (.ref z) "zip") (h : Q (.ref z) s) : wpAny (model prog w) A (pyIter (.ref z)) Q E s := by
  refine wpAny_pyIter_slot hT F.slot_zip_iter (wpAny_call_entry F.slot_zip_iter hT F.entry_zip_iter ?_ (F.args_zip_iter_1 _))
  show wpAny _ _ (ret (.ref z)) _ _ s
  exact wpAny_pure ⟨_, rfl, "zip", _, hT, F.slot_zip_next.lookup, h⟩
theorem lz_init {R : Result → Shared → Prop} {Sl n : Nat} (hh : A.handled = none) (S : ZipSep2 z TI TO i1 i2 fp1 fp2) (D1 : ∀ A' : Around, A'.handled = none → Draws prog w A' i1 fp1 n1 P1 St1) (D2 : ∀ A' : Around, A'.handled = none → Draws prog w A' i2 fp2 n2 P2 St2)
    (zs : Zs z TI TO i1 i2 St1 St2 (Sl + 1) 0 s.heap) (hsz : s.heap.objs.size = Sl + 1)
    (lz : z < Sl) (lI : TI < Sl) (lO : TO < Sl) (l1 : i1 < Sl) (l2 : i2 < Sl) (lf : ∀ b ∈ fp1 ++ fp2, b < Sl) (hn : n ≤ sizeLine) (hn1 : n ≤ n1) (hn2 : n ≤ n2) (hend : n = n1 ∨ n = n2)
    (hS : s.heap.get? Sl = some { cls := .type "list", data := .seq #[] })
    (hR : ∀ h' tk acc' c', (∀ b o, b ≠ z → b ≠ TO → b ≠ i1 → b ≠ i2 → b ≠ Sl → s.heap.get? b = some o → h'.get? b = some o) → h'.get? Sl = some { cls := .type "list", dict := none, data := .seq acc' c', slots := #[] } → Laid P1 P2 (Sl + 1) n acc' h' → R (.ok (.ret .none)) { s with heap := h', toks := tk }) :
    wpAny (model prog w) A.in1 (Builtin.«list.__init__» ⟨[.ref Sl, .ref z], []⟩)
      (fun fin s' => match fin with | .done f => R (.ok f) s' | .again c' => c'.quiet = true ∧ codeAny (model prog w) A c' R s') (fun e s' => R (.error e) s') s := by
  have nz : Sl ≠ z := Nat.ne_of_gt lz
  have nI : Sl ≠ TI := Nat.ne_of_gt lI
  have nO : Sl ≠ TO := Nat.ne_of_gt lO
  have m1 : Sl ≠ i1 := Nat.ne_of_gt l1
  have m2 : Sl ≠ i2 := Nat.ne_of_gt l2
  have nf : Sl ∉ fp1 ++ fp2 := fun q => Nat.lt_irrefl _ (lf _ q)
  have kz : ∀ {h₁ h₂ : Heap}, Zs z TI TO i1 i2 St1 St2 (Sl + 1) 0 h₁ → (∀ b o, b ≠ Sl → h₁.get? b = some o → h₂.get? b = some o) → Zs z TI TO i1 i2 St1 St2 (Sl + 1) 0 h₂ := fun x k => x.keep S (D1 A hh) (D2 A hh) fun b o hb e => k b o (fun q => by
    subst q
    rcases hb with hb | hb
    · simp only [List.mem_cons] at hb
      rcases hb with q | q | q | q
      · exact nz q
      · exact nI q
      · exact nO q
      · exact nf q
    · exact absurd hb (Nat.not_le_of_lt (Nat.lt_succ_self _))) e
  show wpAny _ _ (do let old ← Builtin.List.listItems (.ref Sl); Builtin.List.listUpdate (.ref Sl) (fun _ => #[]); letGo old.toList.reverse; Builtin.List.listExtendWith (.ref Sl) (.ref z) .none) _ _ s
  refine wpAny_bind ?_
  unfold Builtin.List.listItems
  refine wpAny_bind (wpAny_seqItems hS rfl (wpAny_pure ?_))
  show wpAny _ _ (updateSeq Sl (fun _ => #[]) >>= fun _ => letGo (#[] : Array Value).toList.reverse >>= fun _ => Builtin.List.listExtendWith (.ref Sl) (.ref z) .none) _ _ s
  refine wpAny_bind (wpAny_updateSeq hS rfl ?_)
  have hS₂ := Heap.get?_update_self (Obj.mapSeq (fun _ => (#[] : Array Value))) hS rfl
  have o1 : ∀ b o, b ≠ Sl → s.heap.get? b = some o → (s.heap.update Sl (Obj.mapSeq (fun _ => (#[] : Array Value)))).get? b = some o :=
    fun b o hb e => (Heap.get?_update_other _ _ (Ne.symm hb)).trans e
  refine wpAny_bind (wpAny_letGo ?_)
  have zs1 := kz zs o1
  have sz1 : (s.heap.update Sl (Obj.mapSeq (fun _ => (#[] : Array Value)))).objs.size = Sl + 1 := by rw [(Heap.SameBut.update s.heap Sl _).1]; exact hsz
  generalize hh1 : s.heap.update Sl (Obj.mapSeq (fun _ => (#[] : Array Value))) = g1 at o1 zs1 sz1 hS₂ ⊢
  have hT : ({ s with heap := g1 } : Shared).TypeIs (.ref z) "zip" := by
    rcases zs1.zz with e | ⟨T, f, oT, e, _, _⟩
    · exact ⟨_, e, rfl⟩
    · exact ⟨_, e, rfl⟩
  have hz0 : IsZip g1 z TI TO .none ∨ ∃ T f, IsZipHeld g1 z TI TO T f := by
    rcases zs1.zz with e | ⟨T, f, oT, e, _, _⟩
    · exact .inl e
    · exact .inr ⟨_, _, e⟩
  unfold Builtin.List.listExtendWith
  refine wpAny_bind (wpAny_typeOf hT ?_)
  have h1 : Builtin.List.listSameRef (.ref Sl) (.ref z) = false := by simp [Builtin.List.listSameRef, nz]
  have h2 : (Value.type "zip" == Value.type "list") = false := by decide
  have h3 : (Value.type "zip" == Value.type "tuple") = false := by decide
  simp only [h1, h2, h3, Bool.or_false, Bool.false_eq_true, if_false]
  refine wpAny_bind (lz_self (s := { s with heap := g1 }) hT ?_)
  refine wpAny_bind (wpAny_holding ?_)
  unfold Builtin.List.listLengthHint
  refine wpAny_bind (wpAny_specialOf hT zip_no_len ?_)
  show wpAny _ A.in1 (specialOf (Value.ref z) (Str.ofString "__length_hint__") >>= _) _ _ _
  refine wpAny_bind (wpAny_specialOf hT zip_no_hint ?_)
  refine wpAny_pure ?_
  show wpAny _ A.in1 (rule "list.extend.makes-room" >>= fun _ => Builtin.List.listTouch (.ref Sl) >>= fun _ =>
    again (.builtin "list.extend.loop" ⟨[.ref Sl, .ref z, .none], []⟩)) _ _ _
  refine wpAny_bind (wpAny_rule ?_)
  refine wpAny_bind ?_
  show wpAny _ A.in1 (updateSeq Sl (·.push .none) >>= fun _ => updateSeq Sl (·.pop)) _ _ _
  refine wpAny_bind (wpAny_updateSeq hS₂ rfl ?_)
  have hS₃ := Heap.get?_update_self (Obj.mapSeq (·.push Value.none)) hS₂ rfl
  refine wpAny_updateSeq (hz := by seq_fits) hS₃ rfl ?_
  have hS₄ := Heap.get?_update_self (Obj.mapSeq (·.pop)) hS₃ rfl
  have o2 : ∀ b o, b ≠ Sl → g1.get? b = some o → ((g1.update Sl (Obj.mapSeq (·.push Value.none))).update Sl (Obj.mapSeq (·.pop))).get? b = some o :=
    fun b o hb e => (Heap.get?_update_other _ _ (Ne.symm hb)).trans ((Heap.get?_update_other _ _ (Ne.symm hb)).trans e)
  refine wpAny_pure ⟨plainId_quiet F.plain_extend_loop _, lz_loop S (D1 _ hh) (D2 _ hh) (Nat.lt_succ_of_lt lz) (Nat.lt_succ_of_lt lO) (Nat.lt_succ_of_lt l1) (Nat.lt_succ_of_lt l2) (Nat.lt_succ_self Sl) (Nat.le_refl _) nz nI nO nf m1 m2 hn hn1 hn2 hend .none
    n 0 { s with heap := (g1.update Sl (Obj.mapSeq (·.push Value.none))).update Sl (Obj.mapSeq (·.pop)) } _ _ rfl (Nat.zero_le _) (kz zs1 o2) ?_ hS₄ ⟨rfl, fun j hj => absurd hj (Nat.not_lt_zero _)⟩ fun h' tk acc' c' k hS' hl => hR h' tk acc' c' (fun b o a1 a2 a3 a4 a5 e => k b o a1 a2 a3 a4 a5 (o2 b o a5 (o1 b o a5 e))) hS' hl⟩
  show ((g1.update Sl _).update Sl _).objs.size = _
  rw [(Heap.SameBut.update _ Sl _).1, (Heap.SameBut.update _ Sl _).1]
  exact sz1
theorem lz_call {Q : Value → Shared → Prop} {n : Nat} (hh : A.handled = none) (S : ZipSep2 z TI TO i1 i2 fp1 fp2) (D1 : ∀ A' : Around, A'.handled = none → Draws prog w A' i1 fp1 n1 P1 St1) (D2 : ∀ A' : Around, A'.handled = none → Draws prog w A' i2 fp2 n2 P2 St2)
    (hz : IsZip s.heap z TI TO .none) (hTI : IsTupOf2 s.heap TI (.ref i1) (.ref i2)) (hTO : IsTupOf2 s.heap TO a1 a2) (st1 : St1 0 s.heap) (st2 : St2 0 s.heap)
    (lf : ∀ b ∈ fp1 ++ fp2, b < s.heap.objs.size) (hn : n ≤ sizeLine) (hn1 : n ≤ n1) (hn2 : n ≤ n2) (hend : n = n1 ∨ n = n2)
    (hQ : ∀ h' tk acc' c', (∀ b o, b ≠ z → b ≠ TO → b ≠ i1 → b ≠ i2 → s.heap.get? b = some o → h'.get? b = some o) → h'.get? s.heap.objs.size = some { cls := .type "list", dict := none, data := .seq acc' c', slots := #[] } → Laid P1 P2 (s.heap.objs.size + 1) n acc' h' → Q (.ref s.heap.objs.size) { s with heap := h', toks := tk }) :
    wpAny (model prog w) A (call (.type "list") [.ref z]) Q E s := by
  refine callType_codes (Q₁ := fun obj s₁ => obj = .ref s.heap.objs.size ∧ s₁ = { s with heap := s.heap.push { cls := .type "list", data := .seq #[] } }) PySem.F.called_list (PySem.F.typeCall_list_1 _) PySem.F.entry_list_init
    (code_list_new _ ⟨rfl, rfl⟩) fun obj s₁ h₁ => ?_
  obtain ⟨rfl, rfl⟩ := h₁
  have hS : (s.heap.push { cls := .type "list", data := .seq #[] }).get? s.heap.objs.size = some { cls := .type "list", data := .seq #[] } := Heap.get?_push_size _ rfl
  have hk : ∀ b o, s.heap.get? b = some o → (s.heap.push { cls := .type "list", data := .seq #[] }).get? b = some o := fun b o e => Heap.get?_push_of_some _ e
  have lt : ∀ {c o}, s.heap.get? c = some o → c < s.heap.objs.size := fun e => Heap.lt_size e
  obtain ⟨_, e1⟩ := (D1 A hh).live _ _ st1
  obtain ⟨_, e2⟩ := (D2 A hh).live _ _ st2
  refine ⟨⟨_, hS, rfl⟩, PySem.F.args_list_init_2 _ _, lz_init (A := A.in1) (n := n) hh S D1 D2 ⟨hk _ _ hTI, ⟨_, _, hk _ _ hTO⟩, (D1 A hh).frame _ _ _ st1 fun b _ o e => hk b o e, (D2 A hh).frame _ _ _ st2 fun b _ o e => hk b o e, .inl (hk _ _ hz)⟩ (Heap.size_push ..) (lt hz) (lt hTI) (lt hTO) (lt e1) (lt e2) lf hn hn1 hn2 hend hS (fun h' tk acc' c' k hS' hacc => ?_)⟩
  exact ⟨rfl, hQ h' tk acc' c' (fun b o a1 a2 a3 a4 e => k b o a1 a2 a3 a4 (Nat.ne_of_lt (Heap.lt_size e)) (hk b o e)) hS' hacc⟩
end
/-! ### the pairs in the own heap -/
def layP : Hp → Addr → List (V × V) → Hp := fun H B ps => @List.rec (V × V) (fun _ => Hp → Addr → Hp) (fun H _ => H) (fun p _ ih H B => ih (upd H B (.tup [p.1, p.2])) (B + 1)) ps H B
def refsF : Addr → Nat → List V := fun B n => (List.range n).map fun j => .ref (B + j)
theorem layP_lt : ∀ (ps : List (V × V)) (H : Hp) (B b : Addr), b < B → layP H B ps b = H b
  | [], H, B, b, _ => rfl
  | p :: r, H, B, b, h => (layP_lt r (upd H B (.tup [p.1, p.2])) (B + 1) b (Nat.lt_succ_of_lt h)).trans (upd_ne (Nat.ne_of_lt h))
theorem layP_new : ∀ (ps : List (V × V)) (H : Hp) (B b : Addr) (o : HO), B ≤ b → layP H B ps b = some o → H b = some o ∨ ∃ j x y, b = B + j ∧ ps[j]? = some (x, y) ∧ o = .tup [x, y]
  | [], H, B, b, o, _, e => .inl e
  | p :: r, H, B, b, o, hb, e => by
    by_cases q : b = B
    · subst q
      have e2 : layP (upd H b (.tup [p.1, p.2])) (b + 1) r b = some o := e
      rw [layP_lt r _ (b + 1) b (Nat.lt_succ_self _), upd_same] at e2
      cases e2
      exact .inr ⟨0, p.1, p.2, rfl, rfl, rfl⟩
    · have hb2 : B + 1 ≤ b := Nat.lt_of_le_of_ne hb (Ne.symm q)
      rcases layP_new r (upd H B (.tup [p.1, p.2])) (B + 1) b o hb2 e with e | ⟨j, x, y, e1, e2, e3⟩
      · rw [upd_ne q] at e; exact .inl e
      · exact .inr ⟨j + 1, x, y, by rw [e1]; exact (Nat.add_right_comm B 1 j), e2, e3⟩
section
variable {X : Cx} {pins : List (Addr × Obj)} {σ : L2.St} {H H' : Hp} {s : Shared} {h' : Heap}
theorem Inv.grown {t' : Nat} (I : Inv X pins σ H s) (k : ∀ b u, s.heap.get? b = some u → h'.get? b = some u) (same : ∀ b, b < s.heap.objs.size → H' b = H b)
    (new : ∀ b o, s.heap.objs.size ≤ b → H' b = some o → ObjOk X.prog X.w H' h' b o) : Inv X pins σ H' { s with heap := h', toks := t' } := by
  have up : ∀ b o, H b = some o → H' b = some o := fun b o e => by rw [same b (I.hok.lt e)]; exact e
  refine I.un (h' := h') (t' := t') ⟨fun b o e _ _ _ => k b o e, fun b o e _ _ _ => ⟨o.slots, k b o e⟩, fun b o e n _ => by rw [same b (Heap.lt_size e)]; exact n, fun b o e _ => ⟨o, k b o e⟩, fun b xs e => up b _ e, fun b o u e => up b _ e, fun b ps e => ⟨#[], by rw [up b _ e]; simp⟩⟩ fun b o e => ?_
  by_cases hb : b < s.heap.objs.size
  · rw [same b hb] at e
    exact (I.hok b o e).stay (fun c v _ q => k c v q) (fun c q => up c _ q) fun c xs q => up c _ q
  · exact new b o (Nat.le_of_not_lt hb) e
def tLz (K : PySem.W.Frag) (ta : TA) : TE := fun σ H Q => ta σ H fun vs H1 => ∃ (a b : Addr) (xs ys : List V), vs = [.ref a, .ref b] ∧ SqK true K H1 a xs ∧ SqK true K H1 b ys ∧ ∀ (B S : Addr), (∀ c, S ≤ c → H1 c = none) → B = S + 1 → Q (.ref S) (upd (layP H1 B (xs.zip ys)) S (.lst (refsF B (xs.zip ys).length)))
theorem pe_lz {e e2 : Expr} {ta : TA} {p p2 pos pos2 : Pos} (hg : Gl X "zip") (hm : X.mg "zip" = none) (hg2 : Gl X "list") (hm2 : X.mg "list" = none) (ha : PA X [e, e2] ta)
    (hs : starEach [e, e2] X.env = (false, eval e X.env) :: starEach [e2] X.env) (hpl : (backTo pos (starEach [e2] X.env)).any (·.1) = false)
    (hs2 : starEach [.Call (.Name "zip" p) [e, e2] [] pos] X.env = (false, eval (.Call (.Name "zip" p) [e, e2] [] pos) X.env) :: starEach [] X.env) (hc : X.calm = true) :
    PE X (.Call (.Name "list" p2) [.Call (.Name "zip" p) [e, e2] [] pos] [] pos2) (tLz X.K ta) := by
  refine ⟨fun pins s σ H R I h => ?_⟩
  refine Call_ (ld_blt I hg2 hm2 PyProof.Rows.boot_list (PyProof.Rows.callWith_type1 ?_ hs2 rfl))
  rw [hs2]
  refine Calls.spliced_cons (Call_ (ld_blt I hg hm PyProof.Rows.boot_zip (PyProof.Rows.callWith_type1 (thn (ha.run pos pins s σ H _ I h) fun us s1 ⟨vs, H1, I1, r1, q1⟩ => ?_) hs hpl)))
  obtain ⟨a, b, xs, ys, ex, hqx, hqy, q⟩ := q1
  subst ex
  cases r1 with
  | cons r rr =>
    cases rr with
    | cons r' rr =>
      cases rr
      cases r
      cases r'
      obtain ⟨its, rv, p1, la⟩ := Inv.sq I1 hqx
      obtain ⟨its2, rv2, p2, lb⟩ := Inv.sq I1 hqy
      have hx : xs.length ≤ sizeLine := by
        obtain ⟨_, _, _, z⟩ := I1.tuple hqx
        exact z
      refine zip_begins2 (begins_sq true a its.toArray) (begins_sq true b its2.toArray) p1 p2 fun h' hz hTI hTO h1 h2 hsz hk => Calls.spliced_nil ?_
      have D := zip_sep2 (N := s1.heap.objs.size) (fp1 := [a]) (fp2 := [b]) (by simpa using la) (by simpa using lb)
      have hn : (xs.zip ys).length ≤ its.toArray.size ∧ (xs.zip ys).length ≤ its2.toArray.size ∧ ((xs.zip ys).length = its.toArray.size ∨ (xs.zip ys).length = its2.toArray.size) := by
        have e1 := rv.length
        have e2 := rv2.length
        simp only [List.length_zip, List.size_toArray]
        omega
      refine lz_call (s := { s1 with heap := h' }) (n := (xs.zip ys).length) (I.ok.hd hc) D (fun A' hh => draws_sq true hh s1.heap.objs.size a (Nat.ne_of_lt la) its.toArray) (fun A' hh => draws_sq true hh (s1.heap.objs.size + 1) b (Nat.ne_of_lt (Nat.lt_succ_of_lt lb)) its2.toArray) hz hTI hTO ⟨IsSqIt.made h1, ?_⟩ ⟨IsSqIt.made h2, ?_⟩ ?_ ?_ hn.1 hn.2.1 hn.2.2 fun h'' tk acc c k hS hl => ?_
      · exact (show h'.IsTuple a its.toArray from (show s1.heap.IsTuple a its.toArray from p1).at fun o e => hk _ _ e)
      · exact (show h'.IsTuple b its2.toArray from (show s1.heap.IsTuple b its2.toArray from p2).at fun o e => hk _ _ e)
      · intro c hcm
        show c < h'.objs.size
        rw [hsz]
        have e' : c = s1.heap.objs.size ∨ c = a ∨ c = s1.heap.objs.size + 1 ∨ c = b := by simpa using hcm
        rcases e' with q | q | q | q
        · rw [q]; exact Nat.lt_add_of_pos_right (by decide)
        · rw [q]; exact Nat.lt_of_lt_of_le la (Nat.le_add_right _ _)
        · rw [q]; exact Nat.add_lt_add_left (by decide) _
        · rw [q]; exact Nat.lt_of_lt_of_le lb (Nat.le_add_right _ _)
      · have : (xs.zip ys).length ≤ xs.length := by rw [List.length_zip]; omega
        omega
      · have fr : ∀ b, s1.heap.objs.size ≤ b → H1 b = none := fun b hb => I1.hok.fresh hb
        have eS : h'.objs.size = s1.heap.objs.size + 5 := hsz
        have lS : s1.heap.objs.size < h'.objs.size := by rw [eS]; exact Nat.lt_add_of_pos_right (by decide)
        have kept : ∀ b u, s1.heap.get? b = some u → h''.get? b = some u := fun b u e => by
          have hb := Heap.lt_size e
          exact k b u (Nat.ne_of_lt (Nat.lt_of_lt_of_le hb (Nat.le_add_right _ _))) (Nat.ne_of_lt (Nat.lt_of_lt_of_le hb (Nat.le_add_right _ _))) (Nat.ne_of_lt hb) (Nat.ne_of_lt (Nat.lt_succ_of_lt hb)) (hk b u e)
        refine ⟨.ref h'.objs.size, _, Inv.grown (s := s1) (t' := tk) I1 kept (H' := upd (layP H1 (h'.objs.size + 1) (xs.zip ys)) h'.objs.size (.lst (refsF (h'.objs.size + 1) (xs.zip ys).length))) (fun b hb => ?_) (fun b o hb e => ?_), rfl, q _ _ (fun c hc => fr c (Nat.le_trans (Nat.le_of_lt lS) hc)) rfl⟩
        · rw [upd_ne (Nat.ne_of_lt (Nat.lt_trans hb lS)), layP_lt _ _ _ _ (Nat.lt_succ_of_lt (Nat.lt_trans hb lS))]
        · by_cases hbS : b = h'.objs.size
          · subst hbS
            rw [upd_same] at e
            cases e
            have el : (refsF (h'.objs.size + 1) (xs.zip ys).length).length = (xs.zip ys).length := by unfold refsF; rw [List.length_map, List.length_range]
            have el2 : acc.toList.length = (xs.zip ys).length := by rw [Array.length_toList]; exact hl.1
            have hle : (xs.zip ys).length ≤ sizeLine := by
              have : (xs.zip ys).length ≤ xs.length := by rw [List.length_zip]; omega
              omega
            refine (show ObjOk X.prog X.w _ h'' h'.objs.size (.lst (refsF (h'.objs.size + 1) (xs.zip ys).length)) from ⟨by rw [el]; exact hle, acc.toList, c, vals_of_at (by rw [el, el2]) fun j x u e1 e2 => ?_, by rw [Array.toArray_toList]; exact hS⟩)
            have hj : j < (xs.zip ys).length := by rw [← el2]; exact (List.getElem?_eq_some_iff.mp e2).1
            obtain ⟨e3, _⟩ := hl.2 j hj
            rw [Array.getElem?_toList, e3] at e2
            cases e2
            unfold refsF at e1
            rw [List.getElem?_map, List.getElem?_range hj] at e1
            cases e1
            exact rfl
          · rw [upd_ne hbS] at e
            by_cases hb2 : b < h'.objs.size + 1
            · rw [layP_lt _ _ _ _ hb2, fr b hb] at e
              cases e
            · rcases layP_new _ _ _ _ _ (Nat.le_of_not_lt hb2) e with e | ⟨j, x, y, e1, e2, e3⟩
              · rw [fr b hb] at e
                cases e
              · subst e1 e3
                have hj : j < (xs.zip ys).length := (List.getElem?_eq_some_iff.mp e2).1
                obtain ⟨_, x', y', ht, g1, g2⟩ := hl.2 j hj
                rw [List.getElem?_zip_eq_some] at e2
                obtain ⟨u, hu, ru⟩ := rv.get e2.1
                obtain ⟨u2, hu2, ru2⟩ := rv2.get e2.2
                have g1 : its[j]? = some x' := by simpa using g1
                have g2 : its2[j]? = some y' := by simpa using g2
                rw [hu] at g1; cases g1
                rw [hu2] at g2; cases g2
                exact ⟨by show 2 ≤ sizeLine; decide, [_, _], .cons ru (.cons ru2 .nil), ⟨_, ht, rfl, _, rfl⟩⟩
end
section
variable {G : GA} {X : Cx} {ρ : Nat → Addr} {h : EH} {H : Hp}
theorem refsF_succ (B n : Nat) : refsF B (n + 1) = .ref B :: refsF (B + 1) n := by
  unfold refsF
  rw [List.range_succ_eq_map, List.map_cons, List.map_map]
  refine congrArg (List.cons (V.ref B)) (List.map_congr_left fun j _ => ?_)
  show V.ref (B + (j + 1)) = V.ref (B + 1 + j)
  exact congrArg V.ref (Nat.add_right_comm B j 1 : B + j + 1 = B + 1 + j)
theorem lay_ok : ∀ (as bs : List EV) (vs ws : List V) (H : Hp) (B : Addr), Emb G ρ h H → Reps G ρ h.n H as vs → Reps G ρ h.n H bs ws → (∀ c, B ≤ c → H c = none) →
    Lat G ρ h H ρ h (layP H B (vs.zip ws)) ∧ Emb G ρ h (layP H B (vs.zip ws)) ∧ Reps G ρ h.n (layP H B (vs.zip ws)) (zipE as bs) (refsF B (vs.zip ws).length)
  | [], bs, vs, ws, H, B, em, r1, r2, fr => by
    cases r1
    exact ⟨Lat.refl, em, .nil⟩
  | a :: as, [], vs, ws, H, B, em, r1, r2, fr => by
    cases r2
    cases r1
    exact ⟨Lat.refl, em, .nil⟩
  | a :: as, b :: bs, vs, ws, H, B, em, r1, r2, fr => by
    cases r1 with
    | cons x1 r1 =>
      cases r2 with
      | cons x2 r2 =>
        rename_i v vs w ws
        have hB : H B = none := fr B (Nat.le_refl _)
        have l0 : Lat G ρ h H ρ h (upd H B (.tup [v, w])) := Lat.side hB
        have rp : Rep G ρ h.n (upd H B (.tup [v, w])) (.tup [a, b]) (.ref B) := .tup (.inl (.inl upd_same)) ((Reps.cons x1 (.cons x2 .nil)).later (fun _ _ => rfl) (Nat.le_refl _) fun _ _ q => SqT.upd_new hB q)
        obtain ⟨l1, em1, rs⟩ := lay_ok as bs vs ws (upd H B (.tup [v, w])) (B + 1) (em.side hB) (r1.lat l0) (r2.lat l0) fun c hc => by
          rw [upd_ne (Nat.ne_of_gt hc)]
          exact fr c (Nat.le_of_succ_le hc)
        refine ⟨l0.trans l1, em1, ?_⟩
        show Reps G ρ h.n _ (.tup [a, b] :: zipE as bs) (refsF B ((vs.zip ws).length + 1))
        rw [refsF_succ]
        exact .cons (rp.lat l1) rs
theorem q_lz {e e2 : Expr} {d : DA} {p p2 pos pos2 : Pos} (hg : Gl X "zip") (hm : X.mg "zip" = none) (hg2 : Gl X "list") (hm2 : X.mg "list" = none) (ha : PA X [e, e2] (rdA ⟨X.K, G.gl, G.ca⟩ d))
    (hs : starEach [e, e2] X.env = (false, eval e X.env) :: starEach [e2] X.env) (hpl : (backTo pos (starEach [e2] X.env)).any (·.1) = false)
    (hs2 : starEach [.Call (.Name "zip" p) [e, e2] [] pos] X.env = (false, eval (.Call (.Name "zip" p) [e, e2] [] pos) X.env) :: starEach [] X.env) (hc : X.calm = true) :
    PE X (.Call (.Name "list" p2) [.Call (.Name "zip" p) [e, e2] [] pos] [] pos2) (rdE ⟨X.K, G.gl, G.ca⟩ (eLz d)) := by
  refine PE.weak (pe_lz hg hm hg2 hm2 ha hs hpl hs2 hc) ?_
  rintro σ H Q ⟨ρ, es, h, z, h', em, sl, e, k⟩
  obtain ⟨xs, h1, e1, eb⟩ := RA.bd_ok (P := Is z h') isNo e
  obtain ⟨x, y, rfl, ec⟩ := on2_ok (P := Is z h') isNo eb
  obtain ⟨as, ex, ed⟩ := onTup_ok (P := Is z h') isNo ec
  obtain ⟨bs, ey, ee⟩ := onTup_ok (P := Is z h') isNo ed
  obtain ⟨_, ef⟩ := cnd_ok (P := Is z h') isNo ee
  obtain ⟨_, eg⟩ := cnd_ok (P := Is z h') isNo ef
  subst ex ey
  refine ⟨ρ, es, h, _, h1, em, sl, e1, fun ρ1 vs H1 l1 em1 rs => ?_⟩
  obtain ⟨v, w, rfl, r, r2⟩ := rs.two
  cases r with
  | tup qa ra =>
    cases r2 with
    | tup qb rb =>
      refine ⟨_, _, _, _, rfl, qa, qb, fun B S hS hB => ?_⟩
      obtain ⟨l2, em2, rs2⟩ := lay_ok _ _ _ _ H1 B em1 ra rb fun c hc => hS c (by rw [hB] at hc; exact Nat.le_of_succ_le hc)
      exact KE.mkL eg (k.after (l1.trans l2)) em2 rs2 S (by rw [layP_lt _ _ _ _ (by rw [hB]; exact Nat.lt_succ_self _)]; exact hS S (Nat.le_refl _))
end
theorem XC.lz {T : Tb} {C : CF} {N : List Str} {sc : Scope} {b : Bool} {k : Nat} {X : Cx} (c : XC T C N sc b k X) {e e2 : Expr} {d : DA} {p p2 pos pos2 : Pos} (hg : sc.names.lookup ("zip" : Str) = some .globalImplicit) (hm : T.mg "zip" = none) (hg2 : sc.names.lookup ("list" : Str) = some .globalImplicit) (hm2 : T.mg "list" = none) (ha : PA X [e, e2] (rdA T.G d))
    (hs : starEach [e, e2] X.env = (false, eval e X.env) :: starEach [e2] X.env) (hpl : (backTo pos (starEach [e2] X.env)).any (·.1) = false)
    (hs2 : starEach [.Call (.Name "zip" p) [e, e2] [] pos] X.env = (false, eval (.Call (.Name "zip" p) [e, e2] [] pos) X.env) :: starEach [] X.env) :
    PE X (.Call (.Name "list" p2) [.Call (.Name "zip" p) [e, e2] [] pos] [] pos2) (rdE T.G (eLz d)) := c.cast (q_lz (c.gl hg) (c.mgn hm) (c.gl hg2) (c.mgn hm2) (c.auncast ha) hs hpl hs2 c.cal)
end LV
end

/-! ##### _ren.lean -/
set_option Elab.async false
set_option linter.all false
set_option maxRecDepth 100000
set_option maxHeartbeats 4000000
set_option autoImplicit false
noncomputable section
namespace LV
open PySem PySem.Spec PyProof.Rows L2
/-! ## facts of the head, as tests -/
structure Vw where
  K : PySem.W.Frag
  ca : Nat → Addr
  gl : Nat → Addr
  fa : Nat → Addr
def Tb.vw (T : Tb) : Vw := ⟨T.G.K, T.G.ca, T.G.gl, T.fa⟩
def Vw.tb (V : Vw) (mg : Str → Option Value) (fd : Nat → FuncData) (ps : Nat → List Str) (nf : Nat) : Tb := ⟨⟨V.K, V.gl, V.ca⟩, mg, V.fa, fd, ps, nf⟩
structure MgOf (T : Tb) : Prop where
  som : ∀ x v, PySem.W.nsIn T.G.K mainGlobals x = some (some v) → T.mg x = some v
  non : ∀ x, PySem.W.nsIn T.G.K mainGlobals x = some none → T.mg x = none
def frB (x : Str) (V : Vw) : Bool := He.eqO (PySem.W.nsIn V.K mainGlobals x) (some none)
def gfB (x : Str) (i : Nat) (V : Vw) : Bool := He.eqO (PySem.W.nsIn V.K mainGlobals x) (some (some (.ref (V.fa i))))
def gcB (x : Str) (i : Nat) (V : Vw) : Bool := He.eqO (PySem.W.nsIn V.K mainGlobals x) (some (some (.ref (V.ca i))))
def glB (j i : Nat) (V : Vw) : Bool := decide (V.gl j = V.ca i)
def allE (f : EV → Value → Bool) : List EV → List Value → Bool
  | [], [] => true
  | x :: xs, u :: us => f x u && allE f xs us
  | _, _ => false
def evB (K : PySem.W.Frag) (gl : Nat → Addr) : Nat → EV → Value → Bool
  | 0, _, _ => false
  | n + 1, x, u => match x, u with
    | .non, .none => true
    | .bl b, .bool c => b == c
    | .int i, .int j _ => decide (i = j)
    | .str x, .str y _ => decide (x = y)
    | .glo j, .ref a => decide (gl j = a)
    | .tup xs, .ref a => (match K.lookup a with
      | some ⟨.type c, _, .seq its _, _⟩ => decide (c = "tuple") && (decide (its.size ≤ sizeLine) && allE (evB K gl n) xs its.toList)
      | _ => false)
    | _, _ => false
def gloB (x : Str) (e : EV) (V : Vw) : Bool := match PySem.W.nsIn V.K mainGlobals x with
  | some (some u) => evB V.K V.gl 4 e u
  | _ => false
def clsB (C : Addr) (K : PySem.W.Frag) : Bool := PySem.W.plainGet K C Str.empty && (PySem.W.hasDictIn K C && (PySem.W.plainOver K C && He.eqO (PySem.W.findIn K (.ref C) "__setattr__") (some (some (.builtin "object.__setattr__")))))
def clfB (C : Addr) (K : PySem.W.Frag) : Bool := clsB C K && (He.eqO (PySem.W.findIn K (.ref C) "__class__") (some (some (.builtin "object.__class__"))) && (He.eqO (PySem.W.specialIn K (.builtin "object.__class__") "__get__") (some (some (.builtin "getset_descriptor.__get__"))) &&
  (decide (PySem.W.takesIn K (.builtin "object.__class__") = some true) && decide (PySem.W.mroIn K C (.type "object") = some true))))
def ownB (n : Nat) (V : Vw) : Bool := (List.range n).all fun i => clfB (V.ca i) V.K
def mkB (cl i : Nat) (V : Vw) : Bool := PySem.W.makesIn V.K (V.ca cl) && (He.eqO (PySem.W.findIn V.K (.ref (V.ca cl)) "__init__") (some (some (.ref (V.fa i)))) && (PySem.W.isFn V.K (.ref (V.fa i)) && PySem.W.keepIn V.K (.ref (V.ca cl))))
def meB (cl : Nat) (m : Str) (i : Nat) (V : Vw) : Bool := He.eqO (PySem.W.findIn V.K (.ref (V.ca cl)) m) (some (some (.ref (V.fa i)))) && (PySem.W.isFn V.K (.ref (V.fa i)) && PySem.W.keepIn V.K (.ref (V.fa i)))
def naB (cl : Nat) (f : Str) (V : Vw) : Bool := He.eqO (PySem.W.findIn V.K (.ref (V.ca cl)) f) (some none)
def oeB (cl i : Nat) (V : Vw) : Bool := He.eqO (PySem.W.findIn V.K (.ref (V.ca cl)) "__eq__") (some (some (.ref (V.fa i)))) && (PySem.W.isFn V.K (.ref (V.fa i)) && (He.eqO (PySem.W.findIn V.K (.ref (V.ca cl)) "__ne__") (some (some (.builtin "object.__ne__"))) &&
  decide (PySem.W.mroIn V.K (V.ca cl) (.type "object") = some true)))
def tyA (ca : Nat → Addr) (t : Nat) : Value := if t = 0 then .type "NoneType" else if t = 1 then .type "bool" else if t = 2 then .type "int" else if t = 3 then .type "str" else if t = 4 then .type "tuple" else if t = 5 then .type "list" else if t = 6 then .type "dict" else .ref (ca (t - 7))
def kitB (K : PySem.W.Frag) (ca : Nat → Addr) (c : Value) : Nat → List Bool → Bool
  | _, [] => true
  | t, b :: r => decide (PySem.W.kitOne K (tyA ca t) c = some b) && kitB K ca c (t + 1) r
def ktB (c : Nat) (kt : List Bool) (V : Vw) : Bool := kitB V.K V.ca (tyA V.ca c) 0 kt
def cfB (a : Option PySem.W.CFound) (p C : Addr) : Bool := match a with
  | some (.get g x y z) => decide (g = .builtin "classmethod.__get__") && (decide (x = .ref p) && (decide (y = .none) && decide (z = .ref C)))
  | _ => false
def rcB (a : Option (List Value)) (g : Addr) : Bool := match a with
  | some (.ref f :: _) => decide (f = g)
  | _ => false
def cmB (m : Str) (cl g i : Nat) (V : Vw) : Bool := PySem.W.readsIn V.K (V.ca cl) (.type "type") && (He.eqO (PySem.W.specialIn V.K (.ref (V.ca cl)) "__getattribute__") (some (some (.builtin "type.__getattribute__"))) &&
  (cfB (PySem.W.findCls V.K (.ref (V.ca cl)) (.type "type") m) (He.ma V.K (V.ca cl) m) (V.ca cl) && (rcB (PySem.W.recIn V.K (He.ma V.K (V.ca cl) m) "classmethod") (V.fa i) && (PySem.W.fnIn V.K (V.fa i) && decide (V.gl g = V.ca cl)))))
def tbB (g : Nat) : List (Str × EV) → Vw → Bool
  | [], _ => true
  | p :: r, V => (match PySem.W.nsIn V.K (V.gl g) p.1 with
    | some (some u) => evB V.K V.gl 4 p.2 u
    | _ => false) && tbB g r V
section
variable {T : Tb}
theorem fr_of (M : MgOf T) {x : Str} (h : frB x T.vw = true) : T.mg x = none := M.non x (He.eqO_ok h)
theorem gf_of (M : MgOf T) {x : Str} {i : Nat} (h : gfB x i T.vw = true) : T.mg x = some (.ref (T.fa i)) := M.som x _ (He.eqO_ok h)
theorem gc_of (M : MgOf T) {x : Str} {i : Nat} (h : gcB x i T.vw = true) : T.mg x = some (.ref (T.G.ca i)) := M.som x _ (He.eqO_ok h)
theorem gl_of {j i : Nat} (h : glB j i T.vw = true) : T.G.gl j = T.G.ca i := of_decide_eq_true h
theorem evB_ok : ∀ (n : Nat) (x : EV) (u : Value), evB T.G.K T.G.gl n x u = true → ∃ v, RelV v u ∧ ∀ ρ m H, Rep T.G ρ m H x v := by
  intro n
  induction n with
  | zero => intro x u h; cases h
  | succ n ih =>
    have hgo : ∀ (xs : List EV) (us : List Value), allE (evB T.G.K T.G.gl n) xs us = true → ∃ vs, Vals vs us ∧ ∀ ρ m H, Reps T.G ρ m H xs vs := by
      intro xs
      induction xs with
      | nil =>
        intro us h
        cases us with
        | nil => exact ⟨[], .nil, fun _ _ _ => .nil⟩
        | cons u us => cases h
      | cons x xs ihx =>
        intro us h
        cases us with
        | nil => cases h
        | cons u us =>
          replace h := He.ba (show (evB T.G.K T.G.gl n x u && allE (evB T.G.K T.G.gl n) xs us) = true from h)
          obtain ⟨v, r1, p1⟩ := ih x u h.1
          obtain ⟨vs, r2, p2⟩ := ihx us h.2
          exact ⟨v :: vs, .cons r1 r2, fun ρ m H => .cons (p1 ρ m H) (p2 ρ m H)⟩
    intro x u h
    cases x with
    | non => cases u <;> first | exact ⟨.non, rfl, fun _ _ _ => .non⟩ | cases h
    | bl b => cases u with
      | bool c =>
        have e : b = c := eq_of_beq (show (b == c) = true from h)
        exact ⟨.bl b, by rw [e]; rfl, fun _ _ _ => .bl b⟩
      | _ => cases h
    | int i => cases u with
      | int j t => exact ⟨.int i, ⟨t, by rw [show i = j from of_decide_eq_true h]⟩, fun _ _ _ => .int i⟩
      | _ => cases h
    | str x => cases u with
      | str y t => exact ⟨.str x, ⟨t, by rw [show x = y from of_decide_eq_true h]⟩, fun _ _ _ => .str x⟩
      | _ => cases h
    | glo j => cases u with
      | ref a => exact ⟨.ref (T.G.gl j), by rw [show T.G.gl j = a from of_decide_eq_true h]; rfl, fun _ _ _ => .glo j⟩
      | _ => cases h
    | tup xs => cases u with
      | ref a =>
        have h2 : (match T.G.K.lookup a with
          | some ⟨.type c, _, .seq its _, _⟩ => decide (c = "tuple") && (decide (its.size ≤ sizeLine) && allE (evB T.G.K T.G.gl n) xs its.toList)
          | _ => false) = true := h
        cases q : T.G.K.lookup a with
        | none => rw [q] at h2; cases h2
        | some o =>
          obtain ⟨oc, od, dt, osl⟩ := o
          rw [q] at h2
          cases oc with
          | type c =>
            cases dt with
            | seq its m =>
              obtain ⟨h1, h2⟩ := He.ba (show (decide (c = "tuple") && (decide (its.size ≤ sizeLine) && allE (evB T.G.K T.G.gl n) xs its.toList)) = true from h2)
              obtain ⟨h3, h4⟩ := He.ba h2
              obtain ⟨vs, r, p⟩ := hgo xs its.toList h4
              exact ⟨.ref a, rfl, fun ρ mm H => .tup (.inr ⟨_, its, m, q, congrArg Value.type (of_decide_eq_true h1), rfl, of_decide_eq_true h3, r⟩) (p ρ mm H)⟩
            | _ => cases h2
          | _ => cases dt <;> cases h2
      | _ => cases h
    | _ => cases u <;> cases h
theorem glo_of (M : MgOf T) {x : Str} {e : EV} (h : gloB x e T.vw = true) : Glo T x e := by
  have h2 : (match PySem.W.nsIn T.G.K mainGlobals x with
    | some (some u) => evB T.G.K T.G.gl 4 e u
    | _ => false) = true := h
  cases q : PySem.W.nsIn T.G.K mainGlobals x with
  | none => rw [q] at h2; cases h2
  | some o =>
    rw [q] at h2
    cases o with
    | none => cases h2
    | some u =>
      obtain ⟨v, r, p⟩ := evB_ok 4 e u h2
      exact ⟨v, u, M.som x u q, r, p⟩
theorem clf_of {C : Addr} {K : PySem.W.Frag} (h : clfB C K = true) : ClsF K C := by
  obtain ⟨c, h⟩ := He.ba h
  obtain ⟨h1, h⟩ := He.ba h
  obtain ⟨h2, h⟩ := He.ba h
  obtain ⟨h3, h4⟩ := He.ba h
  obtain ⟨c1, c⟩ := He.ba c
  obtain ⟨c2, c⟩ := He.ba c
  obtain ⟨c3, c4⟩ := He.ba c
  exact ⟨⟨c1, c2, c3, He.eqO_ok c4⟩, He.eqO_ok h1, He.eqO_ok h2, of_decide_eq_true h3, of_decide_eq_true h4⟩
theorem own_of {n : Nat} (h : ownB n T.vw = true) : Own T n := ⟨fun cl hl => clf_of (List.all_eq_true.mp h cl (List.mem_range.mpr hl))⟩
theorem mk_of {cl i : Nat} (h : mkB cl i T.vw = true) : Mk T.G.K (T.G.ca cl) (T.fa i) := by
  obtain ⟨h1, h⟩ := He.ba h
  obtain ⟨h2, h⟩ := He.ba h
  obtain ⟨h3, h4⟩ := He.ba h
  exact ⟨h1, He.eqO_ok h2, h3, h4⟩
theorem me_of {cl i : Nat} {m : Str} (h : meB cl m i T.vw = true) : Meth T.G.K (T.G.ca cl) m (T.fa i) := by
  obtain ⟨h1, h⟩ := He.ba h
  obtain ⟨h2, h3⟩ := He.ba h
  exact ⟨He.eqO_ok h1, h2, h3⟩
theorem na_of {cl : Nat} {f : Str} (h : naB cl f T.vw = true) : NoAttr T.G.K (T.G.ca cl) f := He.eqO_ok h
theorem oe_of {cl i : Nat} (h : oeB cl i T.vw = true) (hi : i < T.nf) : OwnE T cl i := by
  obtain ⟨h1, h⟩ := He.ba h
  obtain ⟨h2, h⟩ := He.ba h
  obtain ⟨h3, h4⟩ := He.ba h
  exact ⟨He.eqO_ok h1, h2, He.eqO_ok h3, of_decide_eq_true h4, hi⟩
theorem kitB_ok {K : PySem.W.Frag} {ca : Nat → Addr} {c : Value} : ∀ (kt : List Bool) (t0 t : Nat) (b : Bool), kitB K ca c t0 kt = true → kt[t]? = some b → PySem.W.kitOne K (tyA ca (t0 + t)) c = some b
  | [], _, _, _, _, e => by simp at e
  | x :: r, t0, 0, b, h, e => by
    obtain ⟨h1, _⟩ := He.ba h
    cases e
    exact of_decide_eq_true h1
  | x :: r, t0, t + 1, b, h, e => by
    obtain ⟨_, h2⟩ := He.ba h
    have := kitB_ok r (t0 + 1) t b h2 e
    rw [show t0 + (t + 1) = t0 + 1 + t by omega]
    exact this
theorem kt_of {c : Nat} {kt : List Bool} (h : ktB c kt T.vw = true) : Kit T c kt := ⟨fun t b e => by
  have := kitB_ok kt 0 t b (show kitB T.G.K T.G.ca (tyA T.G.ca c) 0 kt = true from h) e
  rw [Nat.zero_add] at this
  exact this⟩
theorem cf_ok {a : Option PySem.W.CFound} {p C : Addr} (h : cfB a p C = true) : a = some (.get (.builtin "classmethod.__get__") (.ref p) .none (.ref C)) := by
  cases a with
  | none => cases h
  | some a => cases a with
    | get g x y z =>
      obtain ⟨h1, h⟩ := He.ba (show (decide (g = .builtin "classmethod.__get__") && (decide (x = .ref p) && (decide (y = .none) && decide (z = .ref C)))) = true from h)
      obtain ⟨h2, h⟩ := He.ba h
      obtain ⟨h3, h4⟩ := He.ba h
      rw [of_decide_eq_true h1, of_decide_eq_true h2, of_decide_eq_true h3, of_decide_eq_true h4]
    | _ => cases h
theorem rc_ok {a : Option (List Value)} {g : Addr} (h : rcB a g = true) : ∃ rest, a = some (.ref g :: rest) := by
  cases a with
  | none => cases h
  | some a => cases a with
    | nil => cases h
    | cons v r => cases v with
      | ref f => exact ⟨r, by rw [show f = g from of_decide_eq_true h]⟩
      | _ => cases h
theorem cm_of {m : Str} {cl g i : Nat} (h : cmB m cl g i T.vw = true) (hi : i < T.nf) : CMt T m cl g i := by
  obtain ⟨h1, h⟩ := He.ba h
  obtain ⟨h2, h⟩ := He.ba h
  obtain ⟨h3, h⟩ := He.ba h
  obtain ⟨h4, h⟩ := He.ba h
  obtain ⟨h5, h6⟩ := He.ba h
  exact ⟨⟨_, _, ⟨h1, He.eqO_ok h2⟩, ⟨cf_ok h3, rc_ok h4, h5⟩⟩, of_decide_eq_true h6, hi⟩
theorem tb_of {w : World} {g : Nat} {tb : List (Str × EV)} (h : tbB g tb T.vw = true) (D : ∃ es n, KDict T.G.K w (T.G.gl g) es n) : KTab T w g tb := by
  obtain ⟨es, n, D⟩ := D
  refine ⟨⟨es, n, D.at_, D.lit, D.low⟩, ?_⟩
  induction tb with
  | nil => intro z e q; cases q
  | cons p r ih =>
    obtain ⟨h1, h2⟩ := He.ba h
    intro z e q
    have q2 : (@Bool.rec (fun _ => Option EV) (fLook r z) (some p.2) (sEq z p.1)) = some e := q
    cases hz : sEq z p.1 with
    | false =>
      rw [hz] at q2
      exact ih h2 z e q2
    | true =>
      rw [hz] at q2
      cases q2
      have ez := (sEq_iff _ _).mp hz
      subst ez
      have h3 : (match PySem.W.nsIn T.G.K (T.G.gl g) p.1 with
        | some (some u) => evB T.G.K T.G.gl 4 p.2 u
        | _ => false) = true := h1
      cases q3 : PySem.W.nsIn T.G.K (T.G.gl g) p.1 with
      | none => rw [q3] at h3; cases h3
      | some o =>
        rw [q3] at h3
        cases o with
        | none => cases h3
        | some u =>
          obtain ⟨v, r, pp⟩ := evB_ok 4 p.2 u h3
          exact ⟨v, u, rfl, r, pp⟩
theorem ml_of {g cl i : Nat} (h : mkB cl i T.vw = true) (h2 : glB g cl T.vw = true) (hi : i < T.nf) : MkL T g cl i := ⟨mk_of h, gl_of h2, hi⟩
end
/-! ### the tables of a program, by lists -/
def adrAt (fn : List VD) (K : PySem.W.Frag) (i : Nat) : Addr := match fn[i]? with
  | some d => d.adr K
  | none => 0
def caAt (cl : List Str) (K : PySem.W.Frag) (i : Nat) : Addr := He.ga K (cl.getD i Str.empty)
def glAt (cl tb : List Str) (K : PySem.W.Frag) (j : Nat) : Addr := match Nat.blt j 1000 with
  | true => caAt cl K j
  | false => He.ga K (tb.getD (j - 2000) Str.empty)
def vwF (cl tb : List Str) (fn : List VD) (K : PySem.W.Frag) : Vw := ⟨K, caAt cl K, glAt cl tb K, adrAt fn K⟩
theorem fds {ex : PySem.W.Frag → Bool} {fn : List VD} {ts : List He.Tab} {w : World} {K : PySem.W.Frag} (c : SaysV ex fn ts w K) {d0 : VD} (h0 : fn[0]? = some d0) :
    ∃ fd : Nat → FuncData, ∀ (i : Nat) (d : VD), fn[i]? = some d → FunD K d.name d.qual d.params d.body d.scope [] [] (d.adr K) (fd i) := by
  obtain ⟨f0, _⟩ := c.def_ 0 h0
  have h : ∀ i : Nat, ∃ fd : FuncData, ∀ d : VD, fn[i]? = some d → FunD K d.name d.qual d.params d.body d.scope [] [] (d.adr K) fd := fun i => by
    cases e : fn[i]? with
    | none => exact ⟨f0, fun d q => by cases q⟩
    | some d =>
      obtain ⟨fd, F⟩ := c.def_ i e
      exact ⟨fd, fun d' q => by cases q; exact F⟩
  exact ⟨fun i => (h i).choose, fun i => (h i).choose_spec⟩
/-! ### powers -/
def fPow (x y : EV) (h : EH) : R := onInt x .no fun i => onInt y .no fun j => cnd (iLt (-1) j) (cnd (iLt j 1000001) (cnd (Nat.blt (Int.natAbs i) 18446744073709551616) (frI (i ^ Int.toNat j) fun k => .ok (.int k) h) .no) .no) .no
theorem s_pow {G : GA} : OpS G fPow (rI CPow fun i j => .int (i ^ j.toNat)) := fun ρ h H x y v w z h' Q em rx ry e k => by
  obtain ⟨i, rfl, eb⟩ := onInt_ok (P := Is z h') isNo e
  obtain ⟨j, rfl, ec⟩ := onInt_ok (P := Is z h') isNo eb
  obtain ⟨c1, ed⟩ := cnd_ok (P := Is z h') isNo ec
  obtain ⟨c2, ee⟩ := cnd_ok (P := Is z h') isNo ed
  obtain ⟨c3, ef⟩ := cnd_ok (P := Is z h') isNo ee
  rw [frI_eq] at ef
  cases ef
  cases rx; cases ry
  rw [iLt_dec] at c1 c2
  have c1 := of_decide_eq_true c1
  have c2 := of_decide_eq_true c2
  have c3 := Nat.le_of_ble_eq_true c3
  exact ⟨i, j, rfl, rfl, ⟨by omega, by omega, c3⟩, k.here em (.int _)⟩
theorem XC.pow {T : Tb} {C : CF} {N : List Str} {sc : Scope} {b : Bool} {k : Nat} {X : Cx} (c : XC T C N sc b k X) {a d : Expr} {da db : DE} {pos : Pos} (ha : PE X a (rdE T.G da)) (hb : PE X d (rdE T.G db)) : PE X (.BinOp a .Pow d pos) (rdE T.G (eOp fPow da db)) := q_op op_pow s_pow ha hb
end LV
end

/-! ##### Dr.lean -/
set_option Elab.async false
set_option linter.all false
set_option maxRecDepth 100000
set_option maxHeartbeats 400000
set_option autoImplicit false
noncomputable section
namespace LV
open PySem PySem.Spec PyProof.Rows L2
section
variable {a b : DE} {s : ES} {h h1 h2 : EH} {i j : Int}
theorem v_op {f : EV → EV → EH → R} {x y : EV} (ha : a s h = .ok x h1) (hb : b s h1 = .ok y h2) : eOp f a b s h = f x y h2 := by
  show (a s h).bd R.no _ = _
  rw [ha]
  show (b s h1).bd R.no _ = _
  rw [hb]
  rfl
theorem v_add (ha : a s h = .ok (.int i) h1) (hb : b s h1 = .ok (.int j) h2) : eOp fAdd a b s h = .ok (.int (i + j)) h2 := (v_op ha hb).trans (show frI (Int.add i j) (fun k => R.ok (.int k) h2) = _ from frI_eq _ _)
theorem v_sub (ha : a s h = .ok (.int i) h1) (hb : b s h1 = .ok (.int j) h2) : eOp fSub a b s h = .ok (.int (i - j)) h2 := (v_op ha hb).trans (show frI (Int.sub i j) (fun k => R.ok (.int k) h2) = _ from frI_eq _ _)
theorem v_mul (ha : a s h = .ok (.int i) h1) (hb : b s h1 = .ok (.int j) h2) (l1 : -18446744073709551616 < i) (l2 : i < 18446744073709551616) : eOp fMul a b s h = .ok (.int (i * j)) h2 := by
  rw [v_op ha hb]
  show cnd (iLt (-18446744073709551616) i) (cnd (iLt i 18446744073709551616) (frI (Int.mul i j) fun k => R.ok (.int k) h2) .no) .no = _
  rw [iLt_dec, decide_eq_true l1, iLt_dec, decide_eq_true l2, frI_eq]
  rfl
theorem v_mod (ha : a s h = .ok (.int i) h1) (hb : b s h1 = .ok (.int j) h2) (l : 0 < j) : eOp fMod a b s h = .ok (.int (i % j)) h2 := by
  rw [v_op ha hb]
  show cnd (iLt 0 j) (frI (Int.emod i j) fun k => R.ok (.int k) h2) .no = _
  rw [iLt_dec, decide_eq_true l, frI_eq]
  rfl
theorem v_fdiv (ha : a s h = .ok (.int i) h1) (hb : b s h1 = .ok (.int j) h2) (l : 0 < j) (l2 : j < 1073741824) : eOp fFdiv a b s h = .ok (.int (i / j)) h2 := by
  rw [v_op ha hb]
  show cnd (iLt 0 j) (cnd (iLt j 1073741824) (frI (Int.ediv i j) fun k => R.ok (.int k) h2) .no) .no = _
  rw [iLt_dec, decide_eq_true l, iLt_dec, decide_eq_true l2, frI_eq]
  rfl
theorem v_pow (ha : a s h = .ok (.int i) h1) (hb : b s h1 = .ok (.int j) h2) (l : -1 < j) (l2 : j < 1000001) (l3 : i.natAbs < 18446744073709551616) : eOp fPow a b s h = .ok (.int (i ^ j.toNat)) h2 := by
  rw [v_op ha hb]
  show cnd (iLt (-1) j) (cnd (iLt j 1000001) (cnd (Nat.blt (Int.natAbs i) 18446744073709551616) (frI (i ^ Int.toNat j) fun k => R.ok (.int k) h2) .no) .no) .no = _
  rw [iLt_dec, decide_eq_true l, iLt_dec, decide_eq_true l2, frI_eq, show Nat.blt (Int.natAbs i) 18446744073709551616 = true from Nat.ble_eq_true_of_le l3]
  rfl
theorem v_int (ha : a s h = .ok (.int i) h1) : eCB fInt (aCons a aNil) s h = .ok (.int i) h1 := by
  show ((a s h).bd RA.no _).bd R.no _ = _
  rw [ha]
  rfl
theorem v_seq {c d : DS} {s1 : ES} (hc : c s h = .nx s1 h1) : sSeq c d s h = d s1 h1 := by
  show (c s h).nxt d = _
  rw [hc]
  rfl
theorem v_asg {x : EV} {n : Nat} (ha : a s h = .ok x h1) : sAsg a (gNm n) s h = .nx (setN s n (some x)) h1 := by
  show (a s h).bd RS.no _ = _
  rw [ha]
  rfl
theorem v_ret {x : EV} (ha : a s h = .ok x h1) : sRet a s h = .rt x h1 := by
  show (a s h).bd RS.no _ = _
  rw [ha]
  rfl
theorem v_if {c : DB} {x y : DS} {t : Bool} (hc : c s h = .ok t h1) : sIf c x y s h = @Bool.rec (fun _ => RS) (y s h1) (x s h1) t := by
  show (c s h).bd RS.no _ = _
  rw [hc]
  rfl
theorem v_val {t : Bool} (ha : a s h = .ok (.bl t) h1) : bVal a s h = .ok t h1 := by
  show (a s h).bd RB.no _ = _
  rw [ha]
  rfl
theorem v_sub_ {o k : DE} {x y z : EV} {h3 : EH} {r : RS} (hv : a s h = .ok z h1) (ho : o s h1 = .ok x h2) (hk : k s h2 = .ok y h3) (hs : fSet x y z h3 RS.no (fun h => .nx s h) = r) : sSub a o k s h = r := by
  show (a s h).bd RS.no _ = _
  rw [hv]
  show (o s h1).bd RS.no _ = _
  rw [ho]
  show (k s h2).bd RS.no _ = _
  rw [hk]
  exact hs
end
end LV
end

/-! ##### G_k91.lean -/
set_option Elab.async false
set_option linter.all false
set_option maxRecDepth 100000
set_option maxHeartbeats 0
set_option autoImplicit false
noncomputable section
namespace Law
open PySem PySem.Spec PyProof.Rows L2 LV
open LV (bAnd bOr bNot bVal)
abbrev PR : Program := PySem.Challenge.pw_lentonce_k91_whole_known_runs
def top (i : Nat) : Stmt := PR.main.body.getD i (.Pass ⟨0, 0, 0, 0⟩)
def sub (i j : Nat) : Stmt := match top i with
  | .ClassDef _ _ _ b _ _ _ _ _ _ _ => b.getD j (.Pass ⟨0, 0, 0, 0⟩)
  | _ => .Pass ⟨0, 0, 0, 0⟩
/-! ### texts -/
def n0 : Str := sMk [118, 97, 114, 105, 97, 98, 108, 101, 115]
theorem e0 : ("variables" : Str) = n0 := by kernel_rfl
def n1 : Str := sMk [103, 105, 118, 101]
theorem e1 : ("give" : Str) = n1 := by kernel_rfl
def n2 : Str := sMk [114, 111, 119, 115]
theorem e2 : ("rows" : Str) = n2 := by kernel_rfl
def n3 : Str := sMk [110, 101, 120, 116]
theorem e3 : ("next" : Str) = n3 := by kernel_rfl
def n4 : Str := sMk [115, 116, 97, 116, 101, 109, 101, 110, 116]
theorem e4 : ("statement" : Str) = n4 := by kernel_rfl
def n5 : Str := sMk [108, 101, 97, 118, 101]
theorem e5 : ("leave" : Str) = n5 := by kernel_rfl
def n6 : Str := sMk [98, 101, 116, 119, 101, 101, 110]
theorem e6 : ("between" : Str) = n6 := by kernel_rfl
def n7 : Str := sMk [101, 105, 116, 104, 101, 114]
theorem e7 : ("either" : Str) = n7 := by kernel_rfl
def n8 : Str := sMk [98, 111, 100, 121]
theorem e8 : ("body" : Str) = n8 := by kernel_rfl
def n9 : Str := sMk [108, 111, 111, 112]
theorem e9 : ("loop" : Str) = n9 := by kernel_rfl
def n10 : Str := sMk [99, 97, 108, 108]
theorem e10 : ("call" : Str) = n10 := by kernel_rfl
def n11 : Str := sMk []
theorem e11 : ("" : Str) = n11 := by kernel_rfl
def n12 : Str := sMk [119, 104, 111, 108, 101]
theorem e12 : ("whole" : Str) = n12 := by kernel_rfl
def n13 : Str := sMk [112, 114, 111, 99, 115]
theorem e13 : ("procs" : Str) = n13 := by kernel_rfl
def n14 : Str := sMk [97, 99, 116, 115]
theorem e14 : ("acts" : Str) = n14 := by kernel_rfl
def n15 : Str := sMk [119, 104, 97, 116]
theorem e15 : ("what" : Str) = n15 := by kernel_rfl
def n16 : Str := sMk [112, 114, 111, 99]
theorem e16 : ("proc" : Str) = n16 := by kernel_rfl
def n17 : Str := sMk [114, 111, 119]
theorem e17 : ("row" : Str) = n17 := by kernel_rfl
def n18 : Str := sMk [102, 105, 101, 108, 100, 115]
theorem e18 : ("fields" : Str) = n18 := by kernel_rfl
def n19 : Str := sMk [110, 111, 100, 101, 115]
theorem e19 : ("nodes" : Str) = n19 := by kernel_rfl
def n20 : Str := sMk [97, 98, 111, 118, 101]
theorem e20 : ("above" : Str) = n20 := by kernel_rfl
def n21 : Str := sMk [111, 110, 108, 121]
theorem e21 : ("only" : Str) = n21 := by kernel_rfl
def n22 : Str := sMk [98, 101, 108, 111, 119]
theorem e22 : ("below" : Str) = n22 := by kernel_rfl
def n23 : Str := sMk [104, 97, 115, 95, 111, 110, 108, 121]
theorem e23 : ("has_only" : Str) = n23 := by kernel_rfl
def n24 : Str := sMk [103, 111]
theorem e24 : ("go" : Str) = n24 := by kernel_rfl
def n25 : Str := sMk [108, 111, 111, 107]
theorem e25 : ("look" : Str) = n25 := by kernel_rfl
def n26 : Str := sMk [110, 111, 110, 101]
theorem e26 : ("none" : Str) = n26 := by kernel_rfl
def n27 : Str := sMk [103, 111, 110, 101]
theorem e27 : ("gone" : Str) = n27 := by kernel_rfl
def n28 : Str := sMk [98, 111, 111, 107]
theorem e28 : ("book" : Str) = n28 := by kernel_rfl
def n29 : Str := sMk [102, 108, 111, 119, 115]
theorem e29 : ("flows" : Str) = n29 := by kernel_rfl
def n30 : Str := sMk [110, 117, 109, 98, 101, 114, 115]
theorem e30 : ("numbers" : Str) = n30 := by kernel_rfl
def n31 : Str := sMk [116, 104, 105, 110, 103, 115]
theorem e31 : ("things" : Str) = n31 := by kernel_rfl
def n32 : Str := sMk [102, 114, 97, 109, 101, 115]
theorem e32 : ("frames" : Str) = n32 := by kernel_rfl
def n33 : Str := sMk [109, 97, 105, 110]
theorem e33 : ("main" : Str) = n33 := by kernel_rfl
def n34 : Str := sMk [101, 110, 116, 101, 114]
theorem e34 : ("enter" : Str) = n34 := by kernel_rfl
def n35 : Str := sMk [116, 97, 114, 103, 101, 116]
theorem e35 : ("target" : Str) = n35 := by kernel_rfl
def n36 : Str := sMk [104, 101, 108, 100]
theorem e36 : ("held" : Str) = n36 := by kernel_rfl
def n37 : Str := sMk [112, 111, 105, 110, 116]
theorem e37 : ("point" : Str) = n37 := by kernel_rfl
def n38 : Str := sMk [108, 101, 116, 95, 103, 111]
theorem e38 : ("let_go" : Str) = n38 := by kernel_rfl
def n39 : Str := sMk [108, 101, 102, 116]
theorem e39 : ("left" : Str) = n39 := by kernel_rfl
def n40 : Str := sMk [99, 97, 108, 108, 101, 100]
theorem e40 : ("called" : Str) = n40 := by kernel_rfl
def n41 : Str := sMk [97, 99, 116, 101, 100]
theorem e41 : ("acted" : Str) = n41 := by kernel_rfl
def n42 : Str := sMk [112, 97, 115, 115]
theorem e42 : ("pass" : Str) = n42 := by kernel_rfl
def n43 : Str := sMk [110, 101, 119]
theorem e43 : ("new" : Str) = n43 := by kernel_rfl
def n44 : Str := sMk [114, 111, 111, 116]
theorem e44 : ("root" : Str) = n44 := by kernel_rfl
def n45 : Str := sMk [109, 97, 100, 101]
theorem e45 : ("made" : Str) = n45 := by kernel_rfl
def n46 : Str := sMk [112, 117, 116]
theorem e46 : ("put" : Str) = n46 := by kernel_rfl
def n47 : Str := sMk [115, 101, 116]
theorem e47 : ("set" : Str) = n47 := by kernel_rfl
def n48 : Str := sMk [119, 114, 111, 110, 103]
theorem e48 : ("wrong" : Str) = n48 := by kernel_rfl
def n49 : Str := sMk [97, 99, 116, 101, 100, 95, 111, 110]
theorem e49 : ("acted_on" : Str) = n49 := by kernel_rfl
def n50 : Str := sMk [117, 115, 101]
theorem e50 : ("use" : Str) = n50 := by kernel_rfl
def n51 : Str := sMk [108, 111, 111, 107, 101, 100, 95, 97, 116]
theorem e51 : ("looked_at" : Str) = n51 := by kernel_rfl
def n52 : Str := sMk [99, 104, 97, 110, 103, 101, 100]
theorem e52 : ("changed" : Str) = n52 := by kernel_rfl
def n53 : Str := sMk [109, 111, 118, 101]
theorem e53 : ("move" : Str) = n53 := by kernel_rfl
def n54 : Str := sMk [116, 97, 107, 101, 110]
theorem e54 : ("taken" : Str) = n54 := by kernel_rfl
def n55 : Str := sMk [100, 114, 111, 112]
theorem e55 : ("drop" : Str) = n55 := by kernel_rfl
def n56 : Str := sMk [119, 97, 121, 115]
theorem e56 : ("ways" : Str) = n56 := by kernel_rfl
def n57 : Str := sMk [100, 111, 110, 101]
theorem e57 : ("done" : Str) = n57 := by kernel_rfl
def n58 : Str := sMk [115, 116, 97, 116, 101]
theorem e58 : ("state" : Str) = n58 := by kernel_rfl
def n59 : Str := sMk [107, 110, 111, 119, 110]
theorem e59 : ("known" : Str) = n59 := by kernel_rfl
def n60 : Str := sMk [109, 97, 110, 121]
theorem e60 : ("many" : Str) = n60 := by kernel_rfl
def n61 : Str := sMk [118, 97, 114, 105, 97, 98, 108, 101]
theorem e61 : ("variable" : Str) = n61 := by kernel_rfl
def n62 : Str := sMk [112, 97, 114, 97, 109, 115]
theorem e62 : ("params" : Str) = n62 := by kernel_rfl
def n63 : Str := sMk [108, 111, 111, 112, 32]
theorem e63 : ("loop " : Str) = n63 := by kernel_rfl
def n64 : Str := sMk [101, 105, 116, 104, 101, 114, 32]
theorem e64 : ("either " : Str) = n64 := by kernel_rfl
def n65 : Str := sMk [32, 111, 114, 32]
theorem e65 : (" or " : Str) = n65 := by kernel_rfl
def n66 : Str := sMk [32, 61, 32]
theorem e66 : (" = " : Str) = n66 := by kernel_rfl
def n67 : Str := sMk [40]
theorem e67 : ("(" : Str) = n67 := by kernel_rfl
def n68 : Str := sMk [44, 32]
theorem e68 : (", " : Str) = n68 := by kernel_rfl
def n69 : Str := sMk [41, 59]
theorem e69 : (");" : Str) = n69 := by kernel_rfl
def n70 : Str := sMk [32]
theorem e70 : (" " : Str) = n70 := by kernel_rfl
def n71 : Str := sMk [59]
theorem e71 : (";" : Str) = n71 := by kernel_rfl
def n72 : Str := sMk [32, 61, 32, 110, 101, 119, 59]
theorem e72 : (" = new;" : Str) = n72 := by kernel_rfl
def n73 : Str := sMk [123, 32]
theorem e73 : ("{ " : Str) = n73 := by kernel_rfl
def n74 : Str := sMk [125]
theorem e74 : ("}" : Str) = n74 := by kernel_rfl
def n75 : Str := sMk [103, 105, 118, 101, 32]
theorem e75 : ("give " : Str) = n75 := by kernel_rfl
def n76 : Str := sMk [112, 114, 111, 99, 32]
theorem e76 : ("proc " : Str) = n76 := by kernel_rfl
def n77 : Str := sMk [41, 32, 123, 32]
theorem e77 : (") { " : Str) = n77 := by kernel_rfl
def n78 : Str := sMk [10]
theorem e78 : ("\n" : Str) = n78 := by kernel_rfl
def n79 : Str := sMk [119, 111, 114, 100]
theorem e79 : ("word" : Str) = n79 := by kernel_rfl
def n80 : Str := sMk [98, 97, 100]
theorem e80 : ("bad" : Str) = n80 := by kernel_rfl
def n81 : Str := sMk [111, 119, 110]
theorem e81 : ("own" : Str) = n81 := by kernel_rfl
def n82 : Str := sMk [110, 97, 109, 101]
theorem e82 : ("name" : Str) = n82 := by kernel_rfl
def n83 : Str := sMk [115, 105, 103, 110]
theorem e83 : ("sign" : Str) = n83 := by kernel_rfl
def n84 : Str := sMk [35]
theorem e84 : ("#" : Str) = n84 := by kernel_rfl
def n85 : Str := sMk [101, 110, 100]
theorem e85 : ("end" : Str) = n85 := by kernel_rfl
def n86 : Str := sMk [116, 101, 120, 116]
theorem e86 : ("text" : Str) = n86 := by kernel_rfl
def n87 : Str := sMk [119, 111, 114, 100, 115]
theorem e87 : ("words" : Str) = n87 := by kernel_rfl
def n88 : Str := sMk [97, 116]
theorem e88 : ("at" : Str) = n88 := by kernel_rfl
def n89 : Str := sMk [115, 116, 111, 114, 101, 121, 115]
theorem e89 : ("storeys" : Str) = n89 := by kernel_rfl
def n90 : Str := sMk [110, 101, 120, 116, 95, 105, 110]
theorem e90 : ("next_in" : Str) = n90 := by kernel_rfl
def n91 : Str := sMk [110, 101, 120, 116, 95, 105, 115]
theorem e91 : ("next_is" : Str) = n91 := by kernel_rfl
def n92 : Str := sMk [116, 97, 107, 101]
theorem e92 : ("take" : Str) = n92 := by kernel_rfl
def n93 : Str := sMk [110, 101, 120, 116, 95, 115, 111, 114, 116]
theorem e93 : ("next_sort" : Str) = n93 := by kernel_rfl
def n94 : Str := sMk [112, 108, 97, 99, 101]
theorem e94 : ("place" : Str) = n94 := by kernel_rfl
def n95 : Str := sMk [110, 101, 101, 100]
theorem e95 : ("need" : Str) = n95 := by kernel_rfl
def n96 : Str := sMk [41]
theorem e96 : (")" : Str) = n96 := by kernel_rfl
def n97 : Str := sMk [44]
theorem e97 : ("," : Str) = n97 := by kernel_rfl
def n98 : Str := sMk [123]
theorem e98 : ("{" : Str) = n98 := by kernel_rfl
def n99 : Str := sMk [100, 101, 101, 112]
theorem e99 : ("deep" : Str) = n99 := by kernel_rfl
def n100 : Str := sMk [111, 114]
theorem e100 : ("or" : Str) = n100 := by kernel_rfl
def n101 : Str := sMk [61]
theorem e101 : ("=" : Str) = n101 := by kernel_rfl
def n102 : Str := sMk [119, 114, 105, 116, 116, 101, 110]
theorem e102 : ("written" : Str) = n102 := by kernel_rfl
def n103 : Str := sMk [99, 111, 117, 110, 116]
theorem e103 : ("count" : Str) = n103 := by kernel_rfl
def n104 : Str := sMk [100, 105, 103, 105, 116, 115]
theorem e104 : ("digits" : Str) = n104 := by kernel_rfl
def n105 : Str := sMk [99, 101, 108, 108, 115]
theorem e105 : ("cells" : Str) = n105 := by kernel_rfl
def n106 : Str := sMk [102, 111, 108, 100]
theorem e106 : ("fold" : Str) = n106 := by kernel_rfl
def n107 : Str := sMk [112, 114, 111, 99, 32, 109, 97, 105, 110, 40, 41, 32, 123, 32, 97, 32, 61, 32, 110, 101, 119, 59, 32, 98, 32, 61, 32]
theorem e107 : ("proc main() { a = new; b = " : Str) = n107 := by kernel_rfl
def n108 : Str := sMk [32, 97, 59, 32, 101, 105, 116, 104, 101, 114, 32, 123, 32, 115, 101, 116, 32, 97, 59, 32, 125, 32, 111, 114, 32, 123, 32, 117, 115, 101, 32, 97, 59, 32, 125, 32, 117, 115, 101, 32, 98, 59, 32, 125]
theorem e108 : (" a; either { set a; } or { use a; } use b; }" : Str) = n108 := by kernel_rfl
def n109 : Str := sMk [98]
theorem e109 : ("b" : Str) = n109 := by kernel_rfl
def n110 : Str := sMk [97]
theorem e110 : ("a" : Str) = n110 := by kernel_rfl
def n111 : Str := sMk [112, 114, 111, 99, 32, 109, 97, 105, 110, 40, 41, 32, 123, 32, 108, 111, 111, 112, 32, 123, 32, 108, 111, 111, 112, 32, 123, 32, 120, 32, 61, 32, 110, 101, 119, 59, 32, 125, 32, 101, 105, 116, 104, 101, 114, 32, 123, 32, 125, 32, 111, 114, 32, 123, 32, 100, 114, 111, 112, 32, 120, 59, 32, 117, 115, 101, 32, 121, 59, 32, 125, 32, 125, 32, 125]
theorem e111 : ("proc main() { loop { loop { x = new; } either { } or { drop x; use y; } } }" : Str) = n111 := by kernel_rfl
def n112 : Str := sMk [112, 114, 111, 99, 32, 109, 97, 105, 110, 40, 41, 32, 123, 32, 120, 32, 61, 32, 110, 101, 119, 59, 32, 114, 32, 61, 32, 108, 111, 111, 107, 32, 120, 59, 32, 121, 32, 61, 32, 102, 40, 120, 44, 32, 114, 41, 59, 32, 117, 115, 101, 32, 121, 59, 32, 125, 32, 112, 114, 111, 99, 32, 102, 40, 97, 44, 32, 98, 41, 32, 123, 32, 99, 32, 61, 32, 108, 111, 111, 107, 32, 98, 59, 32, 103, 105, 118, 101, 32, 97, 59, 32, 125]
theorem e112 : ("proc main() { x = new; r = look x; y = f(x, r); use y; } proc f(a, b) { c = look b; give a; }" : Str) = n112 := by kernel_rfl
def n113 : Str := sMk [121]
theorem e113 : ("y" : Str) = n113 := by kernel_rfl
def n114 : Str := sMk [112, 114, 111, 99, 32, 109, 97, 105, 110, 40, 41, 32, 123, 32, 120, 32, 61, 32, 110, 101, 119, 59, 32, 114, 32, 61, 32, 108, 111, 111, 107, 32, 120, 59, 32, 120, 32, 61, 32, 110, 101, 119, 59, 32, 117, 115, 101, 32, 114, 59, 32, 125]
theorem e114 : ("proc main() { x = new; r = look x; x = new; use r; }" : Str) = n114 := by kernel_rfl
def n115 : Str := sMk [112, 114, 111, 99, 32, 109, 97, 105, 110, 40, 41, 32, 123, 32, 120, 32, 61, 32, 110, 101, 119, 59, 32, 114, 32, 61, 32, 108, 111, 111, 107, 32, 120, 59, 32, 115, 32, 61, 32, 114, 59, 32, 100, 114, 111, 112, 32, 114, 59, 32, 117, 115, 101, 32, 115, 59, 32, 117, 115, 101, 32, 114, 59, 32, 125]
theorem e115 : ("proc main() { x = new; r = look x; s = r; drop r; use s; use r; }" : Str) = n115 := by kernel_rfl
def n116 : Str := sMk [112, 114, 111, 99, 32, 109, 97, 105, 110, 40, 41, 32, 123, 32, 101, 105, 116, 104, 101, 114, 32, 123, 32, 125, 32, 111, 114, 32, 123, 32, 109, 97, 105, 110, 40, 41, 59, 32, 125, 32, 120, 32, 61, 32, 110, 101, 119, 59, 32, 125]
theorem e116 : ("proc main() { either { } or { main(); } x = new; }" : Str) = n116 := by kernel_rfl
def n117 : Str := sMk [112, 114, 111, 99, 32, 109, 97, 105, 110, 40, 41, 32, 123, 32, 114, 32, 61, 32, 102, 40, 41, 59, 32, 117, 115, 101, 32, 114, 59, 32, 125, 32, 112, 114, 111, 99, 32, 102, 40, 41, 32, 123, 32, 120, 32, 61, 32, 110, 101, 119, 59, 32, 114, 32, 61, 32, 108, 111, 111, 107, 32, 120, 59, 32, 103, 105, 118, 101, 32, 114, 59, 32, 125]
theorem e117 : ("proc main() { r = f(); use r; } proc f() { x = new; r = look x; give r; }" : Str) = n117 := by kernel_rfl
def n118 : Str := sMk [97, 98, 99, 100, 101, 102, 103, 104, 105, 106, 107, 108, 109, 110, 111, 112, 113, 114, 115, 116, 117, 118, 119, 120, 121, 122, 65, 66, 67, 68, 69, 70, 71, 72, 73, 74, 75, 76, 77, 78, 79, 80, 81, 82, 83, 84, 85, 86, 87, 88, 89, 90]
theorem e118 : ("abcdefghijklmnopqrstuvwxyzABCDEFGHIJKLMNOPQRSTUVWXYZ" : Str) = n118 := by kernel_rfl
def n119 : Str := sMk [61, 59, 44, 40, 41, 123, 125]
theorem e119 : ("=;,(){}" : Str) = n119 := by kernel_rfl
def n120 : Str := sMk [103, 105, 118, 101, 110]
theorem e120 : ("given" : Str) = n120 := by kernel_rfl
def n121 : Str := sMk [111, 117, 116]
theorem e121 : ("out" : Str) = n121 := by kernel_rfl
def n122 : Str := sMk [97, 98, 99, 100, 101, 102, 103, 104, 105, 106, 107, 108, 109, 110, 111, 112, 113, 114, 115, 116, 117, 118, 119, 120, 121, 122, 65, 66, 67, 68, 69, 70, 71, 72, 73, 74, 75, 76, 77, 78, 79, 80, 81, 82, 83, 84, 85, 86, 87, 88, 89, 90, 48, 49, 50, 51, 52, 53, 54, 55, 56, 57, 95]
theorem e122 : ("abcdefghijklmnopqrstuvwxyzABCDEFGHIJKLMNOPQRSTUVWXYZ0123456789_" : Str) = n122 := by kernel_rfl
/-! ### tables -/
def k_LETTERS : EV := (.str n118)
def k_LONGEST_WORD : EV := (.int (Int.ofNat 12))
def k_MOST_NAMES : EV := (.int (Int.ofNat 8))
def k_MOST_PROCS : EV := (.int (Int.ofNat 12))
def k_MOST_STATEMENTS : EV := (.int (Int.ofNat 60))
def k_MOST_STOREYS : EV := (.int (Int.ofNat 6))
def k_OF_ONE : EV := (.tup [(.str n43), (.str n50), (.str n47), (.str n55)])
def k_OF_TWO : EV := (.tup [(.str n25), (.str n21), (.str n53)])
def k_ONE_SIGNS : EV := (.str n119)
def k_OWN_WORDS : EV := (.tup [(.str n55), (.str n7), (.str n1), (.str n120), (.str n25), (.str n9), (.str n43), (.str n21), (.str n100), (.str n121), (.str n16), (.str n47), (.str n50)])
def k_PASS : EV := (.tup [(.str n42)])
def k_SIGNS : EV := (.str n122)
def tb_LENGTHS : List (Str × EV) := [(n10, (.int (Int.ofNat 4))), (n7, (.int (Int.ofNat 3))), (n9, (.int (Int.ofNat 2)))]
def nC : Nat := 9
def kt_1 : List Bool := [false, true, false, false, false, false, false, false, false, false, false, false, false, false, false, false]
def kt_2 : List Bool := [false, true, true, false, false, false, false, false, false, false, false, false, false, false, false, false]
def kt_3 : List Bool := [false, false, false, true, false, false, false, false, false, false, false, false, false, false, false, false]
def kt_4 : List Bool := [false, false, false, false, true, false, false, false, false, false, false, false, false, false, false, false]
def kt_5 : List Bool := [false, false, false, false, false, true, false, false, false, false, false, false, false, false, false, false]
def kt_8 : List Bool := [false, false, false, false, false, false, false, false, true, false, false, false, false, false, false, false]
def kt_9 : List Bool := [false, false, false, false, false, false, false, false, false, true, false, false, false, false, false, false]
def kt_10 : List Bool := [false, false, false, false, false, false, false, false, false, false, true, false, false, false, false, false]
def kt_15 : List Bool := [false, false, false, false, false, false, false, false, false, false, false, false, false, false, false, true]
def ml_above : List (Nat × Nat) := [(4, 30)]
def ml_acted : List (Nat × Nat) := [(5, 45)]
def ml_acted_on : List (Nat × Nat) := [(5, 46)]
def ml_below : List (Nat × Nat) := [(4, 31)]
def ml_between : List (Nat × Nat) := [(0, 7)]
def ml_body : List (Nat × Nat) := [(0, 8), (6, 59)]
def ml_call : List (Nat × Nat) := [(6, 61)]
def ml_called : List (Nat × Nat) := [(5, 47)]
def ml_changed : List (Nat × Nat) := [(4, 35)]
def ml_done : List (Nat × Nat) := [(5, 44)]
def ml_enter : List (Nat × Nat) := [(5, 39)]
def ml_fields : List (Nat × Nat) := [(2, 24)]
def ml_go : List (Nat × Nat) := [(4, 32)]
def ml_has_only : List (Nat × Nat) := [(4, 33)]
def ml_left : List (Nat × Nat) := [(5, 48)]
def ml_let_go : List (Nat × Nat) := [(4, 36)]
def ml_looked_at : List (Nat × Nat) := [(4, 34)]
def ml_made : List (Nat × Nat) := [(4, 29)]
def ml_name : List (Nat × Nat) := [(7, 81)]
def ml_need : List (Nat × Nat) := [(7, 80)]
def ml_next_in : List (Nat × Nat) := [(7, 76)]
def ml_next_is : List (Nat × Nat) := [(7, 77)]
def ml_next_sort : List (Nat × Nat) := [(7, 78)]
def ml_params : List (Nat × Nat) := [(6, 58)]
def ml_place : List (Nat × Nat) := [(7, 75)]
def ml_put : List (Nat × Nat) := [(5, 42)]
def ml_state : List (Nat × Nat) := [(5, 40)]
def ml_statement : List (Nat × Nat) := [(0, 6), (6, 60)]
def ml_take : List (Nat × Nat) := [(7, 79)]
def ml_taken : List (Nat × Nat) := [(5, 43)]
def ml_variable : List (Nat × Nat) := [(6, 57)]
def ml_ways : List (Nat × Nat) := [(5, 41)]
def ml_whole : List (Nat × Nat) := [(0, 5)]
def ml_wrong : List (Nat × Nat) := [(4, 37)]
def fl_acts : List Nat := [1, 2, 3]
def fl_at : List Nat := [7]
def fl_book : List Nat := [5]
def fl_flows : List Nat := [5]
def fl_frames : List Nat := [5]
def fl_give : List Nat := [0]
def fl_known : List Nat := [6]
def fl_many : List Nat := [6]
def fl_next : List Nat := [0]
def fl_nodes : List Nat := [4]
def fl_numbers : List Nat := [5]
def fl_proc : List Nat := [2]
def fl_procs : List Nat := [6, 8]
def fl_row : List Nat := [2]
def fl_rows : List Nat := [0]
def fl_storeys : List Nat := [7]
def fl_things : List Nat := [5]
def fl_variables : List Nat := [0, 5]
def fl_what : List Nat := [2]
def fl_words : List Nat := [7]
def fl_written : List Nat := [8]
def wEl : List (Nat × Nat) := [(1, 22), (2, 25), (3, 27), (8, 99)]
def psL0 : List (List Str) := [(["value"] : List Str),
  (["value"] : List Str),
  (["many", "value"] : List Str),
  (["value"] : List Str),
  (["self", "variables", "give"] : List Str),
  (["self", "body"] : List Str),
  (["self", "statement", "first"] : List Str),
  (["self", "statement", "first", "last"] : List Str),
  (["self", "body", "first", "last"] : List Str),
  (["statement"] : List Str),
  (["statement"] : List Str),
  (["body"] : List Str),
  (["statement"] : List Str),
  (["proc"] : List Str),
  (["proc"] : List Str),
  (["book", "proc"] : List Str),
  (["book", "proc"] : List Str),
  (["book", "proc"] : List Str),
  (["book", "proc"] : List Str),
  (["value"] : List Str)]
def psL1 : List (List Str) := [(["one", "other"] : List Str),
  (["self", "acts"] : List Str),
  (["self", "other"] : List Str),
  (["self", "what", "proc", "row", "acts"] : List Str),
  (["self"] : List Str),
  (["self", "other"] : List Str),
  (["self", "acts"] : List Str),
  (["self", "other"] : List Str),
  (["self"] : List Str),
  (["self", "kind", "parent"] : List Str),
  (["self", "node"] : List Str),
  (["self", "node"] : List Str),
  (["self", "nodes"] : List Str),
  (["self", "node", "other"] : List Str),
  (["self", "node"] : List Str),
  (["self", "node"] : List Str),
  (["self", "node"] : List Str),
  (["self", "node", "writes"] : List Str),
  (["self", "book"] : List Str),
  (["self", "number", "given", "target"] : List Str)]
def psL2 : List (List Str) := [(["self"] : List Str),
  (["self"] : List Str),
  (["self", "frame", "name", "node"] : List Str),
  (["self", "frame", "name"] : List Str),
  (["self", "row"] : List Str),
  (["self", "frame", "act"] : List Str),
  (["self", "frame", "act", "node"] : List Str),
  (["self", "frame", "act", "last"] : List Str),
  (["self", "act"] : List Str),
  (["choices"] : List Str),
  (["runner", "choices", "most"] : List Str),
  (["book", "choices", "most"] : List Str),
  (["book", "choices", "most"] : List Str),
  (["body"] : List Str),
  (["statement"] : List Str),
  (["proc"] : List Str),
  (["self", "procs"] : List Str),
  (["self", "name"] : List Str),
  (["self", "params"] : List Str),
  (["self", "body"] : List Str)]
def psL3 : List (List Str) := [(["self", "statement"] : List Str),
  (["self", "statement"] : List Str),
  (["procs", "proc"] : List Str),
  (["proc"] : List Str),
  (["procs", "end"] : List Str),
  (["statement"] : List Str),
  (["body"] : List Str),
  (["proc"] : List Str),
  (["procs"] : List Str),
  (["line", "at", "signs"] : List Str),
  (["line", "at"] : List Str),
  (["line", "at"] : List Str),
  (["text"] : List Str),
  (["text"] : List Str),
  (["self", "text"] : List Str),
  (["self"] : List Str),
  (["self", "some"] : List Str),
  (["self", "letters"] : List Str),
  (["self"] : List Str),
  (["self"] : List Str)]
def psL4 : List (List Str) := [(["self", "letters"] : List Str),
  (["self"] : List Str),
  (["reader"] : List Str),
  (["reader", "place", "name"] : List Str),
  (["reader"] : List Str),
  (["reader"] : List Str),
  (["reader"] : List Str),
  (["reader"] : List Str),
  (["reader"] : List Str),
  (["text"] : List Str),
  (["value"] : List Str),
  (["bad", "what", "value"] : List Str),
  (["name"] : List Str),
  (["names"] : List Str),
  (["value"] : List Str),
  (["body", "what", "value", "storey"] : List Str),
  (["statement", "storey"] : List Str),
  (["proc"] : List Str),
  (["self", "procs"] : List Str),
  (["self", "other"] : List Str)]
def psL5 : List (List Str) := [(["cls", "text"] : List Str),
  (["text"] : List Str),
  (["pen", "many"] : List Str),
  (["pen", "some"] : List Str),
  (["script"] : List Str),
  (["script"] : List Str)]
def psL : List (List Str) := psL0 ++ (psL1 ++ (psL2 ++ (psL3 ++ (psL4 ++ (psL5)))))
def psF (i : Nat) : List Str := psL.getD i []
/-! ### what is known -/
structure Fx (T : Tb) (w : World) : Prop where
  lt : ∀ i, i < 106 → i < T.nf
  kept : Kept T
  ps : ∀ i, T.ps i = psF i
  own : Own T nC
  fr_all : T.mg "all" = none
  fr_any : T.mg "any" = none
  fr_bool : T.mg "bool" = none
  fr_dict : T.mg "dict" = none
  fr_enumerate : T.mg "enumerate" = none
  fr_int : T.mg "int" = none
  fr_isinstance : T.mg "isinstance" = none
  fr_len : T.mg "len" = none
  fr_list : T.mg "list" = none
  fr_max : T.mg "max" = none
  fr_range : T.mg "range" = none
  fr_repr : T.mg "repr" = none
  fr_str : T.mg "str" = none
  fr_sum : T.mg "sum" = none
  fr_tuple : T.mg "tuple" = none
  fr_zip : T.mg "zip" = none
  gf__law_draw : T.mg "_law_draw" = some (.ref (T.fa 102))
  gf__law_pick : T.mg "_law_pick" = some (.ref (T.fa 103))
  gf_are_free_names : T.mg "are_free_names" = some (.ref (T.fa 94))
  gf_bare_body : T.mg "bare_body" = some (.ref (T.fa 53))
  gf_bare_proc : T.mg "bare_proc" = some (.ref (T.fa 55))
  gf_bare_statement : T.mg "bare_statement" = some (.ref (T.fa 54))
  gf_bodies_in : T.mg "bodies_in" = some (.ref (T.fa 9))
  gf_body_text : T.mg "body_text" = some (.ref (T.fa 66))
  gf_body_told : T.mg "body_told" = some (.ref (T.fa 95))
  gf_book_text : T.mg "book_text" = some (.ref (T.fa 68))
  gf_choices_told : T.mg "choices_told" = some (.ref (T.fa 49))
  gf_flow_in : T.mg "flow_in" = some (.ref (T.fa 14))
  gf_flow_of : T.mg "flow_of" = some (.ref (T.fa 17))
  gf_frozen : T.mg "frozen" = some (.ref (T.fa 19))
  gf_inner_points : T.mg "inner_points" = some (.ref (T.fa 10))
  gf_is_alike : T.mg "is_alike" = some (.ref (T.fa 20))
  gf_is_free_name : T.mg "is_free_name" = some (.ref (T.fa 90))
  gf_is_index : T.mg "is_index" = some (.ref (T.fa 2))
  gf_is_list : T.mg "is_list" = some (.ref (T.fa 1))
  gf_is_name : T.mg "is_name" = some (.ref (T.fa 3))
  gf_is_whole : T.mg "is_whole" = some (.ref (T.fa 0))
  gf_kinds_looked : T.mg "kinds_looked" = some (.ref (T.fa 64))
  gf_letter_word : T.mg "letter_word" = some (.ref (T.fa 70))
  gf_names_in : T.mg "names_in" = some (.ref (T.fa 12))
  gf_names_placed : T.mg "names_placed" = some (.ref (T.fa 93))
  gf_placed : T.mg "placed" = some (.ref (T.fa 92))
  gf_points_of : T.mg "points_of" = some (.ref (T.fa 18))
  gf_points_within : T.mg "points_within" = some (.ref (T.fa 11))
  gf_proc_at : T.mg "proc_at" = some (.ref (T.fa 15))
  gf_proc_looked : T.mg "proc_looked" = some (.ref (T.fa 62))
  gf_proc_placed : T.mg "proc_placed" = some (.ref (T.fa 97))
  gf_proc_text : T.mg "proc_text" = some (.ref (T.fa 67))
  gf_read_body : T.mg "read_body" = some (.ref (T.fa 84))
  gf_read_book : T.mg "read_book" = some (.ref (T.fa 89))
  gf_read_branches : T.mg "read_branches" = some (.ref (T.fa 85))
  gf_read_given : T.mg "read_given" = some (.ref (T.fa 83))
  gf_read_names : T.mg "read_names" = some (.ref (T.fa 82))
  gf_read_proc : T.mg "read_proc" = some (.ref (T.fa 87))
  gf_read_procs : T.mg "read_procs" = some (.ref (T.fa 88))
  gf_read_statement : T.mg "read_statement" = some (.ref (T.fa 86))
  gf_row_end : T.mg "row_end" = some (.ref (T.fa 69))
  gf_run : T.mg "run" = some (.ref (T.fa 51))
  gf_shape_of : T.mg "shape_of" = some (.ref (T.fa 63))
  gf_state_behind : T.mg "state_behind" = some (.ref (T.fa 52))
  gf_statement_text : T.mg "statement_text" = some (.ref (T.fa 65))
  gf_statement_told : T.mg "statement_told" = some (.ref (T.fa 96))
  gf_values_read : T.mg "values_read" = some (.ref (T.fa 101))
  gf_variables_in : T.mg "variables_in" = some (.ref (T.fa 13))
  gf_variables_of : T.mg "variables_of" = some (.ref (T.fa 16))
  gf_walked : T.mg "walked" = some (.ref (T.fa 50))
  gf_word_from : T.mg "word_from" = some (.ref (T.fa 71))
  gf_words_in : T.mg "words_in" = some (.ref (T.fa 72))
  gf_words_of : T.mg "words_of" = some (.ref (T.fa 73))
  gf_wrong_if : T.mg "wrong_if" = some (.ref (T.fa 91))
  gk_LETTERS : Glo T "LETTERS" k_LETTERS
  gk_LONGEST_WORD : Glo T "LONGEST_WORD" k_LONGEST_WORD
  gk_MOST_NAMES : Glo T "MOST_NAMES" k_MOST_NAMES
  gk_MOST_PROCS : Glo T "MOST_PROCS" k_MOST_PROCS
  gk_MOST_STATEMENTS : Glo T "MOST_STATEMENTS" k_MOST_STATEMENTS
  gk_MOST_STOREYS : Glo T "MOST_STOREYS" k_MOST_STOREYS
  gk_OF_ONE : Glo T "OF_ONE" k_OF_ONE
  gk_OF_TWO : Glo T "OF_TWO" k_OF_TWO
  gk_ONE_SIGNS : Glo T "ONE_SIGNS" k_ONE_SIGNS
  gk_OWN_WORDS : Glo T "OWN_WORDS" k_OWN_WORDS
  gk_PASS : Glo T "PASS" k_PASS
  gk_SIGNS : Glo T "SIGNS" k_SIGNS
  gc_Book : T.mg "Book" = some (.ref (T.G.ca 8))
  gl_Book : T.G.gl 8 = T.G.ca 8
  gc_Fault : T.mg "Fault" = some (.ref (T.G.ca 2))
  gl_Fault : T.G.gl 2 = T.G.ca 2
  gc_Flow : T.mg "Flow" = some (.ref (T.G.ca 0))
  gl_Flow : T.G.gl 0 = T.G.ca 0
  gc_Inside : T.mg "Inside" = some (.ref (T.G.ca 6))
  gl_Inside : T.G.gl 6 = T.G.ca 6
  gc_Open : T.mg "Open" = some (.ref (T.G.ca 3))
  gl_Open : T.G.gl 3 = T.G.ca 3
  gc_Over : T.mg "Over" = some (.ref (T.G.ca 1))
  gl_Over : T.G.gl 1 = T.G.ca 1
  gc_Reader : T.mg "Reader" = some (.ref (T.G.ca 7))
  gl_Reader : T.G.gl 7 = T.G.ca 7
  gc_Runner : T.mg "Runner" = some (.ref (T.G.ca 5))
  gl_Runner : T.G.gl 5 = T.G.ca 5
  gc_Things : T.mg "Things" = some (.ref (T.G.ca 4))
  gl_Things : T.G.gl 4 = T.G.ca 4
  mk_Book : Mk T.G.K (T.G.ca 8) (T.fa 98)
  mk_Fault : Mk T.G.K (T.G.ca 2) (T.fa 23)
  mk_Flow : Mk T.G.K (T.G.ca 0) (T.fa 4)
  mk_Inside : Mk T.G.K (T.G.ca 6) (T.fa 56)
  mk_Open : Mk T.G.K (T.G.ca 3) (T.fa 26)
  mk_Over : Mk T.G.K (T.G.ca 1) (T.fa 21)
  mk_Reader : Mk T.G.K (T.G.ca 7) (T.fa 74)
  mk_Runner : Mk T.G.K (T.G.ca 5) (T.fa 38)
  mk_Things : Mk T.G.K (T.G.ca 4) (T.fa 28)
  me_0_between : Meth T.G.K (T.G.ca 0) "between" (T.fa 7)
  me_0_body : Meth T.G.K (T.G.ca 0) "body" (T.fa 8)
  me_0_statement : Meth T.G.K (T.G.ca 0) "statement" (T.fa 6)
  me_0_whole : Meth T.G.K (T.G.ca 0) "whole" (T.fa 5)
  me_2_fields : Meth T.G.K (T.G.ca 2) "fields" (T.fa 24)
  me_4_above : Meth T.G.K (T.G.ca 4) "above" (T.fa 30)
  me_4_below : Meth T.G.K (T.G.ca 4) "below" (T.fa 31)
  me_4_changed : Meth T.G.K (T.G.ca 4) "changed" (T.fa 35)
  me_4_go : Meth T.G.K (T.G.ca 4) "go" (T.fa 32)
  me_4_has_only : Meth T.G.K (T.G.ca 4) "has_only" (T.fa 33)
  me_4_let_go : Meth T.G.K (T.G.ca 4) "let_go" (T.fa 36)
  me_4_looked_at : Meth T.G.K (T.G.ca 4) "looked_at" (T.fa 34)
  me_4_made : Meth T.G.K (T.G.ca 4) "made" (T.fa 29)
  me_4_wrong : Meth T.G.K (T.G.ca 4) "wrong" (T.fa 37)
  me_5_acted : Meth T.G.K (T.G.ca 5) "acted" (T.fa 45)
  me_5_acted_on : Meth T.G.K (T.G.ca 5) "acted_on" (T.fa 46)
  me_5_called : Meth T.G.K (T.G.ca 5) "called" (T.fa 47)
  me_5_done : Meth T.G.K (T.G.ca 5) "done" (T.fa 44)
  me_5_enter : Meth T.G.K (T.G.ca 5) "enter" (T.fa 39)
  me_5_left : Meth T.G.K (T.G.ca 5) "left" (T.fa 48)
  me_5_put : Meth T.G.K (T.G.ca 5) "put" (T.fa 42)
  me_5_state : Meth T.G.K (T.G.ca 5) "state" (T.fa 40)
  me_5_taken : Meth T.G.K (T.G.ca 5) "taken" (T.fa 43)
  me_5_ways : Meth T.G.K (T.G.ca 5) "ways" (T.fa 41)
  me_6_body : Meth T.G.K (T.G.ca 6) "body" (T.fa 59)
  me_6_call : Meth T.G.K (T.G.ca 6) "call" (T.fa 61)
  me_6_params : Meth T.G.K (T.G.ca 6) "params" (T.fa 58)
  me_6_statement : Meth T.G.K (T.G.ca 6) "statement" (T.fa 60)
  me_6_variable : Meth T.G.K (T.G.ca 6) "variable" (T.fa 57)
  me_7_name : Meth T.G.K (T.G.ca 7) "name" (T.fa 81)
  me_7_need : Meth T.G.K (T.G.ca 7) "need" (T.fa 80)
  me_7_next_in : Meth T.G.K (T.G.ca 7) "next_in" (T.fa 76)
  me_7_next_is : Meth T.G.K (T.G.ca 7) "next_is" (T.fa 77)
  me_7_next_sort : Meth T.G.K (T.G.ca 7) "next_sort" (T.fa 78)
  me_7_place : Meth T.G.K (T.G.ca 7) "place" (T.fa 75)
  me_7_take : Meth T.G.K (T.G.ca 7) "take" (T.fa 79)
  na_0_give : NoAttr T.G.K (T.G.ca 0) "give"
  na_0_next : NoAttr T.G.K (T.G.ca 0) "next"
  na_0_rows : NoAttr T.G.K (T.G.ca 0) "rows"
  na_0_variables : NoAttr T.G.K (T.G.ca 0) "variables"
  na_1_acts : NoAttr T.G.K (T.G.ca 1) "acts"
  na_2_acts : NoAttr T.G.K (T.G.ca 2) "acts"
  na_2_proc : NoAttr T.G.K (T.G.ca 2) "proc"
  na_2_row : NoAttr T.G.K (T.G.ca 2) "row"
  na_2_what : NoAttr T.G.K (T.G.ca 2) "what"
  na_3_acts : NoAttr T.G.K (T.G.ca 3) "acts"
  na_4_nodes : NoAttr T.G.K (T.G.ca 4) "nodes"
  na_5_book : NoAttr T.G.K (T.G.ca 5) "book"
  na_5_flows : NoAttr T.G.K (T.G.ca 5) "flows"
  na_5_frames : NoAttr T.G.K (T.G.ca 5) "frames"
  na_5_numbers : NoAttr T.G.K (T.G.ca 5) "numbers"
  na_5_things : NoAttr T.G.K (T.G.ca 5) "things"
  na_5_variables : NoAttr T.G.K (T.G.ca 5) "variables"
  na_6_known : NoAttr T.G.K (T.G.ca 6) "known"
  na_6_many : NoAttr T.G.K (T.G.ca 6) "many"
  na_6_procs : NoAttr T.G.K (T.G.ca 6) "procs"
  na_7_at : NoAttr T.G.K (T.G.ca 7) "at"
  na_7_storeys : NoAttr T.G.K (T.G.ca 7) "storeys"
  na_7_words : NoAttr T.G.K (T.G.ca 7) "words"
  na_8_procs : NoAttr T.G.K (T.G.ca 8) "procs"
  na_8_written : NoAttr T.G.K (T.G.ca 8) "written"
  oe_1 : OwnE T 1 22
  oe_2 : OwnE T 2 25
  oe_3 : OwnE T 3 27
  oe_8 : OwnE T 8 99
  kt_1 : Kit T 1 kt_1
  kt_2 : Kit T 2 kt_2
  kt_3 : Kit T 3 kt_3
  kt_4 : Kit T 4 kt_4
  kt_5 : Kit T 5 kt_5
  kt_8 : Kit T 8 kt_8
  kt_9 : Kit T 9 kt_9
  kt_10 : Kit T 10 kt_10
  kt_15 : Kit T 15 kt_15
  cm_Book_read : CMt T "read" 8 8 100
  tb_LENGTHS : KTab T w 2000 tb_LENGTHS
  gt_LENGTHS : Glo T "LENGTHS" (.glo 2000)
  ml_Book : MkL T 8 8 98
section
variable {T : Tb} {w : World} (W : Fx T w)
include W
theorem gv_Book : Glo T "Book" (.glo 8) := ⟨.ref (T.G.ca 8), _, W.gc_Book, rfl, fun ρ m H => by rw [← W.gl_Book]; exact .glo 8⟩
theorem gv_Fault : Glo T "Fault" (.glo 2) := ⟨.ref (T.G.ca 2), _, W.gc_Fault, rfl, fun ρ m H => by rw [← W.gl_Fault]; exact .glo 2⟩
theorem gv_Flow : Glo T "Flow" (.glo 0) := ⟨.ref (T.G.ca 0), _, W.gc_Flow, rfl, fun ρ m H => by rw [← W.gl_Flow]; exact .glo 0⟩
theorem gv_Inside : Glo T "Inside" (.glo 6) := ⟨.ref (T.G.ca 6), _, W.gc_Inside, rfl, fun ρ m H => by rw [← W.gl_Inside]; exact .glo 6⟩
theorem gv_Open : Glo T "Open" (.glo 3) := ⟨.ref (T.G.ca 3), _, W.gc_Open, rfl, fun ρ m H => by rw [← W.gl_Open]; exact .glo 3⟩
theorem gv_Over : Glo T "Over" (.glo 1) := ⟨.ref (T.G.ca 1), _, W.gc_Over, rfl, fun ρ m H => by rw [← W.gl_Over]; exact .glo 1⟩
theorem gv_Reader : Glo T "Reader" (.glo 7) := ⟨.ref (T.G.ca 7), _, W.gc_Reader, rfl, fun ρ m H => by rw [← W.gl_Reader]; exact .glo 7⟩
theorem gv_Runner : Glo T "Runner" (.glo 5) := ⟨.ref (T.G.ca 5), _, W.gc_Runner, rfl, fun ρ m H => by rw [← W.gl_Runner]; exact .glo 5⟩
theorem gv_Things : Glo T "Things" (.glo 4) := ⟨.ref (T.G.ca 4), _, W.gc_Things, rfl, fun ρ m H => by rw [← W.gl_Things]; exact .glo 4⟩
theorem mW_Fault : Mkr T "Fault" 2 23 := ⟨W.mk_Fault, W.gc_Fault, W.lt _ (by decide)⟩
theorem mW_Flow : Mkr T "Flow" 0 4 := ⟨W.mk_Flow, W.gc_Flow, W.lt _ (by decide)⟩
theorem mW_Inside : Mkr T "Inside" 6 56 := ⟨W.mk_Inside, W.gc_Inside, W.lt _ (by decide)⟩
theorem mW_Open : Mkr T "Open" 3 26 := ⟨W.mk_Open, W.gc_Open, W.lt _ (by decide)⟩
theorem mW_Over : Mkr T "Over" 1 21 := ⟨W.mk_Over, W.gc_Over, W.lt _ (by decide)⟩
theorem mW_Reader : Mkr T "Reader" 7 74 := ⟨W.mk_Reader, W.gc_Reader, W.lt _ (by decide)⟩
theorem mW_Runner : Mkr T "Runner" 5 38 := ⟨W.mk_Runner, W.gc_Runner, W.lt _ (by decide)⟩
theorem mW_Things : Mkr T "Things" 4 28 := ⟨W.mk_Things, W.gc_Things, W.lt _ (by decide)⟩
theorem hM_above : Mth T "above" ml_above := .cons (W.own.ok 4 (by decide)).cls W.me_4_above (W.lt 30 (by decide)) (.nil)
theorem hM_acted : Mth T "acted" ml_acted := .cons (W.own.ok 5 (by decide)).cls W.me_5_acted (W.lt 45 (by decide)) (.nil)
theorem hM_acted_on : Mth T "acted_on" ml_acted_on := .cons (W.own.ok 5 (by decide)).cls W.me_5_acted_on (W.lt 46 (by decide)) (.nil)
theorem hM_below : Mth T "below" ml_below := .cons (W.own.ok 4 (by decide)).cls W.me_4_below (W.lt 31 (by decide)) (.nil)
theorem hM_between : Mth T "between" ml_between := .cons (W.own.ok 0 (by decide)).cls W.me_0_between (W.lt 7 (by decide)) (.nil)
theorem hM_body : Mth T "body" ml_body := .cons (W.own.ok 0 (by decide)).cls W.me_0_body (W.lt 8 (by decide)) (.cons (W.own.ok 6 (by decide)).cls W.me_6_body (W.lt 59 (by decide)) (.nil))
theorem hM_call : Mth T "call" ml_call := .cons (W.own.ok 6 (by decide)).cls W.me_6_call (W.lt 61 (by decide)) (.nil)
theorem hM_called : Mth T "called" ml_called := .cons (W.own.ok 5 (by decide)).cls W.me_5_called (W.lt 47 (by decide)) (.nil)
theorem hM_changed : Mth T "changed" ml_changed := .cons (W.own.ok 4 (by decide)).cls W.me_4_changed (W.lt 35 (by decide)) (.nil)
theorem hM_done : Mth T "done" ml_done := .cons (W.own.ok 5 (by decide)).cls W.me_5_done (W.lt 44 (by decide)) (.nil)
theorem hM_enter : Mth T "enter" ml_enter := .cons (W.own.ok 5 (by decide)).cls W.me_5_enter (W.lt 39 (by decide)) (.nil)
theorem hM_fields : Mth T "fields" ml_fields := .cons (W.own.ok 2 (by decide)).cls W.me_2_fields (W.lt 24 (by decide)) (.nil)
theorem hM_go : Mth T "go" ml_go := .cons (W.own.ok 4 (by decide)).cls W.me_4_go (W.lt 32 (by decide)) (.nil)
theorem hM_has_only : Mth T "has_only" ml_has_only := .cons (W.own.ok 4 (by decide)).cls W.me_4_has_only (W.lt 33 (by decide)) (.nil)
theorem hM_left : Mth T "left" ml_left := .cons (W.own.ok 5 (by decide)).cls W.me_5_left (W.lt 48 (by decide)) (.nil)
theorem hM_let_go : Mth T "let_go" ml_let_go := .cons (W.own.ok 4 (by decide)).cls W.me_4_let_go (W.lt 36 (by decide)) (.nil)
theorem hM_looked_at : Mth T "looked_at" ml_looked_at := .cons (W.own.ok 4 (by decide)).cls W.me_4_looked_at (W.lt 34 (by decide)) (.nil)
theorem hM_made : Mth T "made" ml_made := .cons (W.own.ok 4 (by decide)).cls W.me_4_made (W.lt 29 (by decide)) (.nil)
theorem hM_name : Mth T "name" ml_name := .cons (W.own.ok 7 (by decide)).cls W.me_7_name (W.lt 81 (by decide)) (.nil)
theorem hM_need : Mth T "need" ml_need := .cons (W.own.ok 7 (by decide)).cls W.me_7_need (W.lt 80 (by decide)) (.nil)
theorem hM_next_in : Mth T "next_in" ml_next_in := .cons (W.own.ok 7 (by decide)).cls W.me_7_next_in (W.lt 76 (by decide)) (.nil)
theorem hM_next_is : Mth T "next_is" ml_next_is := .cons (W.own.ok 7 (by decide)).cls W.me_7_next_is (W.lt 77 (by decide)) (.nil)
theorem hM_next_sort : Mth T "next_sort" ml_next_sort := .cons (W.own.ok 7 (by decide)).cls W.me_7_next_sort (W.lt 78 (by decide)) (.nil)
theorem hM_params : Mth T "params" ml_params := .cons (W.own.ok 6 (by decide)).cls W.me_6_params (W.lt 58 (by decide)) (.nil)
theorem hM_place : Mth T "place" ml_place := .cons (W.own.ok 7 (by decide)).cls W.me_7_place (W.lt 75 (by decide)) (.nil)
theorem hM_put : Mth T "put" ml_put := .cons (W.own.ok 5 (by decide)).cls W.me_5_put (W.lt 42 (by decide)) (.nil)
theorem hM_state : Mth T "state" ml_state := .cons (W.own.ok 5 (by decide)).cls W.me_5_state (W.lt 40 (by decide)) (.nil)
theorem hM_statement : Mth T "statement" ml_statement := .cons (W.own.ok 0 (by decide)).cls W.me_0_statement (W.lt 6 (by decide)) (.cons (W.own.ok 6 (by decide)).cls W.me_6_statement (W.lt 60 (by decide)) (.nil))
theorem hM_take : Mth T "take" ml_take := .cons (W.own.ok 7 (by decide)).cls W.me_7_take (W.lt 79 (by decide)) (.nil)
theorem hM_taken : Mth T "taken" ml_taken := .cons (W.own.ok 5 (by decide)).cls W.me_5_taken (W.lt 43 (by decide)) (.nil)
theorem hM_variable : Mth T "variable" ml_variable := .cons (W.own.ok 6 (by decide)).cls W.me_6_variable (W.lt 57 (by decide)) (.nil)
theorem hM_ways : Mth T "ways" ml_ways := .cons (W.own.ok 5 (by decide)).cls W.me_5_ways (W.lt 41 (by decide)) (.nil)
theorem hM_whole : Mth T "whole" ml_whole := .cons (W.own.ok 0 (by decide)).cls W.me_0_whole (W.lt 5 (by decide)) (.nil)
theorem hM_wrong : Mth T "wrong" ml_wrong := .cons (W.own.ok 4 (by decide)).cls W.me_4_wrong (W.lt 37 (by decide)) (.nil)
theorem fW_acts : Fld T.G.K T.G.ca "acts" fl_acts := .cons (W.own.ok 1 (by decide)).cls W.na_1_acts (.cons (W.own.ok 2 (by decide)).cls W.na_2_acts (.cons (W.own.ok 3 (by decide)).cls W.na_3_acts (.nil)))
theorem fW_at : Fld T.G.K T.G.ca "at" fl_at := .cons (W.own.ok 7 (by decide)).cls W.na_7_at (.nil)
theorem fW_book : Fld T.G.K T.G.ca "book" fl_book := .cons (W.own.ok 5 (by decide)).cls W.na_5_book (.nil)
theorem fW_flows : Fld T.G.K T.G.ca "flows" fl_flows := .cons (W.own.ok 5 (by decide)).cls W.na_5_flows (.nil)
theorem fW_frames : Fld T.G.K T.G.ca "frames" fl_frames := .cons (W.own.ok 5 (by decide)).cls W.na_5_frames (.nil)
theorem fW_give : Fld T.G.K T.G.ca "give" fl_give := .cons (W.own.ok 0 (by decide)).cls W.na_0_give (.nil)
theorem fW_known : Fld T.G.K T.G.ca "known" fl_known := .cons (W.own.ok 6 (by decide)).cls W.na_6_known (.nil)
theorem fW_many : Fld T.G.K T.G.ca "many" fl_many := .cons (W.own.ok 6 (by decide)).cls W.na_6_many (.nil)
theorem fW_next : Fld T.G.K T.G.ca "next" fl_next := .cons (W.own.ok 0 (by decide)).cls W.na_0_next (.nil)
theorem fW_nodes : Fld T.G.K T.G.ca "nodes" fl_nodes := .cons (W.own.ok 4 (by decide)).cls W.na_4_nodes (.nil)
theorem fW_numbers : Fld T.G.K T.G.ca "numbers" fl_numbers := .cons (W.own.ok 5 (by decide)).cls W.na_5_numbers (.nil)
theorem fW_proc : Fld T.G.K T.G.ca "proc" fl_proc := .cons (W.own.ok 2 (by decide)).cls W.na_2_proc (.nil)
theorem fW_procs : Fld T.G.K T.G.ca "procs" fl_procs := .cons (W.own.ok 6 (by decide)).cls W.na_6_procs (.cons (W.own.ok 8 (by decide)).cls W.na_8_procs (.nil))
theorem fW_row : Fld T.G.K T.G.ca "row" fl_row := .cons (W.own.ok 2 (by decide)).cls W.na_2_row (.nil)
theorem fW_rows : Fld T.G.K T.G.ca "rows" fl_rows := .cons (W.own.ok 0 (by decide)).cls W.na_0_rows (.nil)
theorem fW_storeys : Fld T.G.K T.G.ca "storeys" fl_storeys := .cons (W.own.ok 7 (by decide)).cls W.na_7_storeys (.nil)
theorem fW_things : Fld T.G.K T.G.ca "things" fl_things := .cons (W.own.ok 5 (by decide)).cls W.na_5_things (.nil)
theorem fW_variables : Fld T.G.K T.G.ca "variables" fl_variables := .cons (W.own.ok 0 (by decide)).cls W.na_0_variables (.cons (W.own.ok 5 (by decide)).cls W.na_5_variables (.nil))
theorem fW_what : Fld T.G.K T.G.ca "what" fl_what := .cons (W.own.ok 2 (by decide)).cls W.na_2_what (.nil)
theorem fW_words : Fld T.G.K T.G.ca "words" fl_words := .cons (W.own.ok 7 (by decide)).cls W.na_7_words (.nil)
theorem fW_written : Fld T.G.K T.G.ca "written" fl_written := .cons (W.own.ok 8 (by decide)).cls W.na_8_written (.nil)
theorem wE : OwnEs T wEl := .cons W.oe_1 (.cons W.oe_2 (.cons W.oe_3 (.cons W.oe_8 (.nil))))
end
/-! ### the walks -/
section
variable {T : Tb} {w : World} (W : Fx T w)
include W
def N0 : List Str := ["value"]
def sh0 (C : CF) : DS := (sRet (eAnd (eIsi [kt_2] nC (eVar 0)) (eNot (eIsi [kt_1] nC (eVar 0)))))
set_option maxHeartbeats 0 in
theorem w0 (C : CF) (k : Nat) (X : Cx) (hw : X.w = w) (hx : X.xe = fun _ _ => False) (c : XC T C N0 (defScope (top 9)) true k X) : PSs X (defBody (top 9)) (rdS T.G (sh0 C)) :=
  (s_one (s_ret (q_and (c.isi W.own W.kt_2 (c.clsT W.fr_int rfl boot_int rfl (by decide) (by decide)) W.fr_isinstance boot_isinstance rfl (c.var (i := 0) rfl (.inl rfl) (by decide) (by decide)) rfl rfl rfl) (pe_one (q_not (c.isi W.own W.kt_1 (c.clsT W.fr_bool rfl boot_bool rfl (by decide) (by decide)) W.fr_isinstance boot_isinstance rfl (c.var (i := 0) rfl (.inl rfl) (by decide) (by decide)) rfl rfl rfl))))))
def N1 : List Str := ["value"]
def sh1 (C : CF) : DS := (sRet (eIsi [kt_4, kt_5] nC (eVar 0)))
set_option maxHeartbeats 0 in
theorem w1 (C : CF) (k : Nat) (X : Cx) (hw : X.w = w) (hx : X.xe = fun _ _ => False) (c : XC T C N1 (defScope (top 10)) true k X) : PSs X (defBody (top 10)) (rdS T.G (sh1 C)) :=
  (s_one (s_ret (c.isi2 W.own W.kt_4 W.kt_5 (c.clsT W.fr_tuple rfl boot_tuple rfl (by decide) (by decide)) (c.clsT W.fr_list rfl boot_list rfl (by decide) (by decide)) W.fr_isinstance boot_isinstance rfl (c.var (i := 0) rfl (.inl rfl) (by decide) (by decide)) rfl rfl rfl rfl rfl)))
def N2 : List Str := ["many", "value"]
def sh2 (C : CF) : DS := (sRet (eAnd (eCB (C 0) (aCons (eVar 1) aNil)) (eChn fLe fLt (eC (.int (Int.ofNat 0))) (eVar 1) (eVar 0))))
set_option maxHeartbeats 0 in
theorem w2 (C : CF) (k : Nat) (X : Cx) (hw : X.w = w) (hx : X.xe = fun _ _ => False) (c : XC T C N2 (defScope (top 11)) true k X) : PSs X (defBody (top 11)) (rdS T.G (sh2 C)) :=
  (s_one (s_ret (q_and (c.call W.gf_is_whole (W.lt 0 (by decide)) rfl (a_cons (c.var (i := 1) rfl (.inl rfl) (by decide) (by decide)) a_nil rfl) (by decide) rfl rfl) (pe_one (q_chn op_le op_lt s_le s_lt k_int (c.var (i := 1) rfl (.inl rfl) (by decide) (by decide)) (c.var (i := 0) rfl (.inl rfl) (by decide) (by decide)) (by with_unfolding_all rfl))))))
def N3 : List Str := ["value", "sign"]
def sh3 (C : CF) : DS := (sSeq (sIf (bOr (bNot (bVal (eIsi [kt_3] nC (eVar 0)))) (bOr (bNot (bVal (eChn fLe fLe (eC (.int (Int.ofNat 1))) (eCB fLen (aCons (eVar 0) aNil)) (eC (.int (Int.ofNat 12)))))) (bVal (eOp fNotIn (eOp fIx (eVar 0) (eC (.int (Int.ofNat 0)))) (eC k_LETTERS))))) (sRet (eC (.bl false))) sNop)
  (sRet (eCB fAll (aCons (eLc (iSqA (eVar 0)) (gNm 1) bYes (eOp fIn (eVar 1) (eC k_SIGNS)) [1]) aNil))))
set_option maxHeartbeats 0 in
theorem w3 (C : CF) (k : Nat) (X : Cx) (hw : X.w = w) (hx : X.xe = fun _ _ => False) (c : XC T C N3 (defScope (top 12)) true k X) : PSs X (defBody (top 12)) (rdS T.G (sh3 C)) :=
  (s_seq (s_if (PW.pt (w_or (t_not (t_val (c.isi W.own W.kt_3 (c.clsT W.fr_str rfl boot_str rfl (by decide) (by decide)) W.fr_isinstance boot_isinstance rfl (c.var (i := 0) rfl (.inl rfl) (by decide) (by decide)) rfl rfl rfl) (fun _ => rfl))) (w_or (t_not (t_chn op_le op_le s_le s_le k_int (c.cb (c.kx (r := rLenA) c_len) s_len W.fr_len PySem.boot_len rfl (a_cons (c.var (i := 0) rfl (.inl rfl) (by decide) (by decide)) a_nil rfl) (by decide) (by decide) rfl rfl) k_int (by with_unfolding_all rfl))) (w_or1 (c.tnin (c.ix (c.var (i := 0) rfl (.inl rfl) (by decide) (by decide)) k_int (fun _ _ => rfl)) (c.glob W.gk_LETTERS rfl (by decide)) rfl))))) (s_one (s_ret k_bl)) s_nil)
  (s_one (s_ret (c.cb (c.kx (r := rAll) (cr_all c.cal)) s_all W.fr_all boot_all rfl (a_cons (c.lc (own := [("sign", 1)]) (c.SqA (c.var (i := 0) rfl (.inl rfl) (by decide) (by decide))) (by decide +kernel) (fun X1 c1 => (c1.nmL (vs := [1]) rfl rfl (by decide))) (fun X1 c1 => ts_nil) (fun X1 c1 => (c1.in_ (c1.var (i := 1) rfl (.inl rfl) (by decide) (by decide)) (c1.glob W.gk_SIGNS rfl (by decide)) rfl)) (fun _ => rfl)) a_nil rfl) (by decide) (by decide) rfl rfl))))
def N4 : List Str := ["self", "variables", "give"]
def sh4 (C : CF) : DS := (sSeq (sFldS fl_variables n0 (eVar 0) (eVar 1))
  (sSeq (sFldS fl_give n1 (eVar 0) (eVar 2))
  (sSeq (sFldS fl_rows n2 (eVar 0) (eLst aNil))
  (sFldS fl_next n3 (eVar 0) (eC (.int (Int.ofNat 2)))))))
set_option maxHeartbeats 0 in
theorem w4 (C : CF) (k : Nat) (X : Cx) (hw : X.w = w) (hx : X.xe = fun _ _ => False) (c : XC T C N4 (defScope (sub 15 0)) true k X) : PSs X (defBody (sub 15 0)) (rdS T.G (sh4 C)) :=
  (s_seq (c.sfld e0 (fW_variables W) (c.var (i := 0) rfl (.inl rfl) (by decide) (by decide)) (c.var (i := 1) rfl (.inl rfl) (by decide) (by decide)) rfl)
  (s_seq (c.sfld e1 (fW_give W) (c.var (i := 0) rfl (.inl rfl) (by decide) (by decide)) (c.var (i := 2) rfl (.inl rfl) (by decide) (by decide)) rfl)
  (s_seq (c.sfld e2 (fW_rows W) (c.var (i := 0) rfl (.inl rfl) (by decide) (by decide)) (q_lst a_nil) rfl)
  (s_one (c.sfld e3 (fW_next W) (c.var (i := 0) rfl (.inl rfl) (by decide) (by decide)) k_int rfl)))))
def N5 : List Str := ["self", "body", "here", "statement", "letting", "name"]
def sh5 (C : CF) : DS := (sSeq (sAsg (eC (.int (Int.ofNat 0))) (gNm 2))
  (sSeq (sFor (iSqA (eVar 1)) (gNm 3) (sAsg (eMth C ml_statement n4 (eVar 0) (aCons (eVar 3) (aCons (eVar 2) aNil))) (gNm 2)))
  (sSeq (sAsg (eCB fTupleA (aCons (eLc (iSqA (eFld fl_variables n0 (eVar 0))) (gNm 5) (bVal (eOp (fNeA C wEl) (eVar 5) (eFld fl_give n1 (eVar 0)))) (eVar 5) [5]) aNil)) (gNm 4))
  (sDrop (eBM isL fAppend (eFld fl_rows n2 (eVar 0)) (aCons (eTup (aCons (eTup (aCons (eC (.str n5)) (aCons (eVar 4) (aCons (eFld fl_give n1 (eVar 0)) aNil)))) (aCons (eVar 2) (aCons (eC (.int (Int.ofNat 1))) aNil)))) aNil))))))
set_option maxHeartbeats 0 in
theorem w5 (C : CF) (k : Nat) (X : Cx) (hw : X.w = w) (hx : X.xe = fun _ _ => False) (c : XC T C N5 (defScope (sub 15 1)) true k X) : PSs X (defBody (sub 15 1)) (rdS T.G (sh5 C)) :=
  (s_seq (c.setL rfl rfl k_int rfl)
  (s_seq (s_for c.own c.cal (c.SqA (c.var (i := 1) rfl (.inl rfl) (by decide) (by decide))) (c.nmL (vs := [3]) rfl rfl (by decide)) (s_one (c.setL rfl rfl (c.mthS e4 (hM_statement W) (c.var (i := 0) rfl (.inr (.inl rfl)) (by decide) (by decide)) (a_cons (c.var (i := 3) rfl (.inl rfl) (by decide) (by decide)) (a_cons (c.var (i := 2) rfl (.inl rfl) (by decide) (by decide)) a_nil rfl) rfl) rfl rfl rfl) rfl)) (fun _ => rfl))
  (s_seq (c.setL rfl rfl (c.ct (c.kx (r := rTupleAD) (c_tupleA c.cal)) s_tupleA W.fr_tuple boot_tuple rfl (a_cons (c.lc (own := [("name", 5)]) (c.SqA (c.fldS e0 (fW_variables W) (c.var (i := 0) rfl (.inr (.inl rfl)) (by decide) (by decide)) rfl)) (by decide +kernel) (fun X1 c1 => (c1.nmL (vs := [5]) rfl rfl (by decide))) (fun X1 c1 => (ts_one (c1.tne (wE W) (c1.var (i := 5) rfl (.inl rfl) (by decide) (by decide)) (c1.fldS e1 (fW_give W) (c1.var (i := 0) rfl (.inr (.inl rfl)) (by decide) (by decide)) rfl)))) (fun X1 c1 => (c1.var (i := 5) rfl (.inl rfl) (by decide) (by decide))) (fun _ => rfl)) a_nil rfl) (by decide) (by decide) rfl rfl) rfl)
  (s_one (s_drop (c.bm (r := fun _ => rAppend) PySem.F.plainAttrs_list PySem.F.slot_list_append PySem.F.type_list_append mt_append s_append (c.fldS e2 (fW_rows W) (c.var (i := 0) rfl (.inr (.inl rfl)) (by decide) (by decide)) rfl) (a_cons (q_tup (a_cons (q_tup (a_cons (k_strS e5) (a_cons (c.var (i := 4) rfl (.inl rfl) (by decide) (by decide)) (a_cons (c.fldS e1 (fW_give W) (c.var (i := 0) rfl (.inr (.inl rfl)) (by decide) (by decide)) rfl) a_nil rfl) rfl) rfl)) (a_cons (c.var (i := 2) rfl (.inl rfl) (by decide) (by decide)) (a_cons k_int a_nil rfl) rfl) rfl)) a_nil rfl) rfl rfl rfl rfl rfl) rfl)))))
def N6 : List Str := ["self", "statement", "first", "last"]
def sh6 (C : CF) : DS := (sSeq (sAsg (eOp fAdd (eFld fl_next n3 (eVar 0)) (eCB (C 10) (aCons (eVar 1) aNil))) (gNm 3))
  (sSeq (sDrop (eMth C ml_between n6 (eVar 0) (aCons (eVar 1) (aCons (eVar 2) (aCons (eVar 3) aNil)))))
  (sSeq (sFldS fl_next n3 (eVar 0) (eOp fAdd (eVar 3) (eC (.int (Int.ofNat 1)))))
  (sRet (eVar 3)))))
set_option maxHeartbeats 0 in
theorem w6 (C : CF) (k : Nat) (X : Cx) (hw : X.w = w) (hx : X.xe = fun _ _ => False) (c : XC T C N6 (defScope (sub 15 2)) true k X) : PSs X (defBody (sub 15 2)) (rdS T.G (sh6 C)) :=
  (s_seq (c.setL rfl rfl (c.add (c.fldS e3 (fW_next W) (c.var (i := 0) rfl (.inl rfl) (by decide) (by decide)) rfl) (c.call W.gf_inner_points (W.lt 10 (by decide)) rfl (a_cons (c.var (i := 1) rfl (.inl rfl) (by decide) (by decide)) a_nil rfl) (by decide) rfl rfl)) rfl)
  (s_seq (s_drop (c.mthS e6 (hM_between W) (c.var (i := 0) rfl (.inl rfl) (by decide) (by decide)) (a_cons (c.var (i := 1) rfl (.inl rfl) (by decide) (by decide)) (a_cons (c.var (i := 2) rfl (.inl rfl) (by decide) (by decide)) (a_cons (c.var (i := 3) rfl (.inl rfl) (by decide) (by decide)) a_nil rfl) rfl) rfl) rfl rfl rfl) rfl)
  (s_seq (c.sfld e3 (fW_next W) (c.var (i := 0) rfl (.inl rfl) (by decide) (by decide)) (c.add (c.var (i := 3) rfl (.inl rfl) (by decide) (by decide)) k_int) rfl)
  (s_one (s_ret (c.var (i := 3) rfl (.inl rfl) (by decide) (by decide)))))))
def N7 : List Str := ["self", "statement", "first", "last", "head"]
def sh7 (C : CF) : DS := (sIf (bVal (eOp (fEqA C wEl) (eOp fIx (eVar 1) (eC (.int (Int.ofNat 0)))) (eC (.str n7)))) (sSeq (sDrop (eMth C ml_body n8 (eVar 0) (aCons (eOp fIx (eVar 1) (eC (.int (Int.ofNat 1)))) (aCons (eVar 2) (aCons (eVar 3) aNil)))))
  (sDrop (eMth C ml_body n8 (eVar 0) (aCons (eOp fIx (eVar 1) (eC (.int (Int.ofNat 2)))) (aCons (eVar 2) (aCons (eVar 3) aNil)))))) (sIf (bVal (eOp (fEqA C wEl) (eOp fIx (eVar 1) (eC (.int (Int.ofNat 0)))) (eC (.str n9)))) (sSeq (sAsg (eFld fl_next n3 (eVar 0)) (gNm 4))
  (sSeq (sFldAg fl_next n3 Int.add (eVar 0) (eC (.int (Int.ofNat 1))))
  (sSeq (sDrop (eBM isL fAppend (eFld fl_rows n2 (eVar 0)) (aCons (eTup (aCons (eC k_PASS) (aCons (eVar 2) (aCons (eVar 4) aNil)))) aNil)))
  (sSeq (sDrop (eMth C ml_body n8 (eVar 0) (aCons (eOp fIx (eVar 1) (eC (.int (Int.ofNat 1)))) (aCons (eVar 4) (aCons (eVar 4) aNil)))))
  (sDrop (eBM isL fAppend (eFld fl_rows n2 (eVar 0)) (aCons (eTup (aCons (eC k_PASS) (aCons (eVar 4) (aCons (eVar 3) aNil)))) aNil))))))) (sDrop (eBM isL fAppend (eFld fl_rows n2 (eVar 0)) (aCons (eTup (aCons (eVar 1) (aCons (eVar 2) (aCons (eVar 3) aNil)))) aNil)))))
set_option maxHeartbeats 0 in
theorem w7 (C : CF) (k : Nat) (X : Cx) (hw : X.w = w) (hx : X.xe = fun _ _ => False) (c : XC T C N7 (defScope (sub 15 3)) true k X) : PSs X (defBody (sub 15 3)) (rdS T.G (sh7 C)) :=
  (s_one (s_if (c.teq (wE W) (c.ix (c.var (i := 1) rfl (.inl rfl) (by decide) (by decide)) k_int (fun _ _ => rfl)) (k_strS e7)) (s_seq (s_drop (c.mthS e8 (hM_body W) (c.var (i := 0) rfl (.inl rfl) (by decide) (by decide)) (a_cons (c.ix (c.var (i := 1) rfl (.inl rfl) (by decide) (by decide)) k_int (fun _ _ => rfl)) (a_cons (c.var (i := 2) rfl (.inl rfl) (by decide) (by decide)) (a_cons (c.var (i := 3) rfl (.inl rfl) (by decide) (by decide)) a_nil rfl) rfl) rfl) rfl rfl rfl) rfl)
  (s_one (s_drop (c.mthS e8 (hM_body W) (c.var (i := 0) rfl (.inl rfl) (by decide) (by decide)) (a_cons (c.ix (c.var (i := 1) rfl (.inl rfl) (by decide) (by decide)) k_int (fun _ _ => rfl)) (a_cons (c.var (i := 2) rfl (.inl rfl) (by decide) (by decide)) (a_cons (c.var (i := 3) rfl (.inl rfl) (by decide) (by decide)) a_nil rfl) rfl) rfl) rfl rfl rfl) rfl))) (s_one (s_if (c.teq (wE W) (c.ix (c.var (i := 1) rfl (.inl rfl) (by decide) (by decide)) k_int (fun _ _ => rfl)) (k_strS e9)) (s_seq (c.setL rfl rfl (c.fldS e3 (fW_next W) (c.var (i := 0) rfl (.inl rfl) (by decide) (by decide)) rfl) rfl)
  (s_seq (c.sfldA e3 (fW_next W) (c.var (i := 0) rfl (.inl rfl) (by decide) (by decide)) k_int)
  (s_seq (s_drop (c.bm (r := fun _ => rAppend) PySem.F.plainAttrs_list PySem.F.slot_list_append PySem.F.type_list_append mt_append s_append (c.fldS e2 (fW_rows W) (c.var (i := 0) rfl (.inl rfl) (by decide) (by decide)) rfl) (a_cons (q_tup (a_cons (c.glob W.gk_PASS rfl (by decide)) (a_cons (c.var (i := 2) rfl (.inl rfl) (by decide) (by decide)) (a_cons (c.var (i := 4) rfl (.inl rfl) (by decide) (by decide)) a_nil rfl) rfl) rfl)) a_nil rfl) rfl rfl rfl rfl rfl) rfl)
  (s_seq (s_drop (c.mthS e8 (hM_body W) (c.var (i := 0) rfl (.inl rfl) (by decide) (by decide)) (a_cons (c.ix (c.var (i := 1) rfl (.inl rfl) (by decide) (by decide)) k_int (fun _ _ => rfl)) (a_cons (c.var (i := 4) rfl (.inl rfl) (by decide) (by decide)) (a_cons (c.var (i := 4) rfl (.inl rfl) (by decide) (by decide)) a_nil rfl) rfl) rfl) rfl rfl rfl) rfl)
  (s_one (s_drop (c.bm (r := fun _ => rAppend) PySem.F.plainAttrs_list PySem.F.slot_list_append PySem.F.type_list_append mt_append s_append (c.fldS e2 (fW_rows W) (c.var (i := 0) rfl (.inl rfl) (by decide) (by decide)) rfl) (a_cons (q_tup (a_cons (c.glob W.gk_PASS rfl (by decide)) (a_cons (c.var (i := 4) rfl (.inl rfl) (by decide) (by decide)) (a_cons (c.var (i := 3) rfl (.inl rfl) (by decide) (by decide)) a_nil rfl) rfl) rfl)) a_nil rfl) rfl rfl rfl rfl rfl) rfl)))))) (s_one (s_drop (c.bm (r := fun _ => rAppend) PySem.F.plainAttrs_list PySem.F.slot_list_append PySem.F.type_list_append mt_append s_append (c.fldS e2 (fW_rows W) (c.var (i := 0) rfl (.inl rfl) (by decide) (by decide)) rfl) (a_cons (q_tup (a_cons (c.var (i := 1) rfl (.inl rfl) (by decide) (by decide)) (a_cons (c.var (i := 2) rfl (.inl rfl) (by decide) (by decide)) (a_cons (c.var (i := 3) rfl (.inl rfl) (by decide) (by decide)) a_nil rfl) rfl) rfl)) a_nil rfl) rfl rfl rfl rfl rfl) rfl))))))
def N8 : List Str := ["self", "body", "first", "last", "here", "statement"]
def sh8 (C : CF) : DS := (sSeq (sIf (bVal (eOp (fEqA C wEl) (eCB fLen (aCons (eVar 1) aNil)) (eC (.int (Int.ofNat 0))))) (sSeq (sDrop (eBM isL fAppend (eFld fl_rows n2 (eVar 0)) (aCons (eTup (aCons (eC k_PASS) (aCons (eVar 2) (aCons (eVar 3) aNil)))) aNil)))
  sRetN) sNop)
  (sSeq (sAsg (eVar 2) (gNm 4))
  (sSeq (sFor (iSqA (eSl (eVar 1) oNo (oSome (eNeg (eC (.int (Int.ofNat 1))))))) (gNm 5) (sAsg (eMth C ml_statement n4 (eVar 0) (aCons (eVar 5) (aCons (eVar 4) aNil))) (gNm 4)))
  (sDrop (eMth C ml_between n6 (eVar 0) (aCons (eOp fIx (eVar 1) (eNeg (eC (.int (Int.ofNat 1))))) (aCons (eVar 4) (aCons (eVar 3) aNil))))))))
set_option maxHeartbeats 0 in
theorem w8 (C : CF) (k : Nat) (X : Cx) (hw : X.w = w) (hx : X.xe = fun _ _ => False) (c : XC T C N8 (defScope (sub 15 4)) true k X) : PSs X (defBody (sub 15 4)) (rdS T.G (sh8 C)) :=
  (s_seq (s_if (c.teq (wE W) (c.cb (c.kx (r := rLenA) c_len) s_len W.fr_len PySem.boot_len rfl (a_cons (c.var (i := 1) rfl (.inl rfl) (by decide) (by decide)) a_nil rfl) (by decide) (by decide) rfl rfl) k_int) (s_seq (s_drop (c.bm (r := fun _ => rAppend) PySem.F.plainAttrs_list PySem.F.slot_list_append PySem.F.type_list_append mt_append s_append (c.fldS e2 (fW_rows W) (c.var (i := 0) rfl (.inl rfl) (by decide) (by decide)) rfl) (a_cons (q_tup (a_cons (c.glob W.gk_PASS rfl (by decide)) (a_cons (c.var (i := 2) rfl (.inl rfl) (by decide) (by decide)) (a_cons (c.var (i := 3) rfl (.inl rfl) (by decide) (by decide)) a_nil rfl) rfl) rfl)) a_nil rfl) rfl rfl rfl rfl rfl) rfl)
  (s_one s_retN)) s_nil)
  (s_seq (c.setL rfl rfl (c.var (i := 2) rfl (.inl rfl) (by decide) (by decide)) rfl)
  (s_seq (s_for c.own c.cal (c.SqA (c.sl (c.var (i := 1) rfl (.inl rfl) (by decide) (by decide)) o_no (o_some (k_neg k_int)))) (c.nmL (vs := [5]) rfl rfl (by decide)) (s_one (c.setL rfl rfl (c.mthS e4 (hM_statement W) (c.var (i := 0) rfl (.inl rfl) (by decide) (by decide)) (a_cons (c.var (i := 5) rfl (.inl rfl) (by decide) (by decide)) (a_cons (c.var (i := 4) rfl (.inl rfl) (by decide) (by decide)) a_nil rfl) rfl) rfl rfl rfl) rfl)) (fun _ => rfl))
  (s_one (s_drop (c.mthS e6 (hM_between W) (c.var (i := 0) rfl (.inl rfl) (by decide) (by decide)) (a_cons (c.ix (c.var (i := 1) rfl (.inl rfl) (by decide) (by decide)) (k_neg k_int) (fun _ _ => rfl)) (a_cons (c.var (i := 4) rfl (.inl rfl) (by decide) (by decide)) (a_cons (c.var (i := 3) rfl (.inl rfl) (by decide) (by decide)) a_nil rfl) rfl) rfl) rfl rfl rfl) rfl)))))
def N9 : List Str := ["statement"]
def sh9 (C : CF) : DS := (sRet (eIf (bVal (eOp fIn (eOp fIx (eVar 0) (eC (.int (Int.ofNat 0)))) (eTup (aCons (eC (.str n7)) (aCons (eC (.str n9)) aNil))))) (eSl (eVar 0) (oSome (eC (.int (Int.ofNat 1)))) oNo) (eTup aNil)))
set_option maxHeartbeats 0 in
theorem w9 (C : CF) (k : Nat) (X : Cx) (hw : X.w = w) (hx : X.xe = fun _ _ => False) (c : XC T C N9 (defScope (top 16)) true k X) : PSs X (defBody (top 16)) (rdS T.G (sh9 C)) :=
  (s_one (s_ret (q_if (c.tin (c.ix (c.var (i := 0) rfl (.inl rfl) (by decide) (by decide)) k_int (fun _ _ => rfl)) (q_tup (a_cons (k_strS e7) (a_cons (k_strS e9) a_nil rfl) rfl)) rfl) (c.sl (c.var (i := 0) rfl (.inl rfl) (by decide) (by decide)) (o_some k_int) o_no) (q_tup a_nil))))
def N10 : List Str := ["statement", "own", "body"]
def sh10 (C : CF) : DS := (sSeq (sAsg (eIf (bVal (eOp (fEqA C wEl) (eOp fIx (eVar 0) (eC (.int (Int.ofNat 0)))) (eC (.str n9)))) (eC (.int (Int.ofNat 1))) (eC (.int (Int.ofNat 0)))) (gNm 1))
  (sRet (eOp fAdd (eVar 1) (eCB fSum (aCons (eLc (iSqA (eCB (C 9) (aCons (eVar 0) aNil))) (gNm 2) bYes (eCB (C 11) (aCons (eVar 2) aNil)) [2]) aNil)))))
set_option maxHeartbeats 0 in
theorem w10 (C : CF) (k : Nat) (X : Cx) (hw : X.w = w) (hx : X.xe = fun _ _ => False) (c : XC T C N10 (defScope (top 17)) true k X) : PSs X (defBody (top 17)) (rdS T.G (sh10 C)) :=
  (s_seq (c.setL rfl rfl (q_if (c.teq (wE W) (c.ix (c.var (i := 0) rfl (.inl rfl) (by decide) (by decide)) k_int (fun _ _ => rfl)) (k_strS e9)) k_int k_int) rfl)
  (s_one (s_ret (c.add (c.var (i := 1) rfl (.inl rfl) (by decide) (by decide)) (c.cb (c.kx (r := rSum) (cr_sum c.cal)) s_sum W.fr_sum boot_sum rfl (a_cons (c.lc (own := [("body", 2)]) (c.SqA (c.call W.gf_bodies_in (W.lt 9 (by decide)) rfl (a_cons (c.var (i := 0) rfl (.inl rfl) (by decide) (by decide)) a_nil rfl) (by decide) rfl rfl)) (by decide +kernel) (fun X1 c1 => (c1.nmL (vs := [2]) rfl rfl (by decide))) (fun X1 c1 => ts_nil) (fun X1 c1 => (c1.call W.gf_points_within (W.lt 11 (by decide)) rfl (a_cons (c1.var (i := 2) rfl (.inl rfl) (by decide) (by decide)) a_nil rfl) (by decide) rfl rfl)) (fun _ => rfl)) a_nil rfl) (by decide) (by decide) rfl rfl)))))
def N11 : List Str := ["body", "statement"]
def sh11 (C : CF) : DS := (sRet (eOp fAdd (eCB fMax (aCons (eC (.int (Int.ofNat 0))) (aCons (eOp fSub (eCB fLen (aCons (eVar 0) aNil)) (eC (.int (Int.ofNat 1)))) aNil))) (eCB fSum (aCons (eLc (iSqA (eVar 0)) (gNm 1) bYes (eCB (C 10) (aCons (eVar 1) aNil)) [1]) aNil))))
set_option maxHeartbeats 0 in
theorem w11 (C : CF) (k : Nat) (X : Cx) (hw : X.w = w) (hx : X.xe = fun _ _ => False) (c : XC T C N11 (defScope (top 18)) true k X) : PSs X (defBody (top 18)) (rdS T.G (sh11 C)) :=
  (s_one (s_ret (c.add (c.cb (c.kx (r := rMaxA) (c_max c.cal)) s_max W.fr_max boot_max rfl (a_cons k_int (a_cons (c.sub (c.cb (c.kx (r := rLenA) c_len) s_len W.fr_len PySem.boot_len rfl (a_cons (c.var (i := 0) rfl (.inl rfl) (by decide) (by decide)) a_nil rfl) (by decide) (by decide) rfl rfl) k_int) a_nil rfl) rfl) (by decide) (by decide) rfl rfl) (c.cb (c.kx (r := rSum) (cr_sum c.cal)) s_sum W.fr_sum boot_sum rfl (a_cons (c.lc (own := [("statement", 1)]) (c.SqA (c.var (i := 0) rfl (.inl rfl) (by decide) (by decide))) (by decide +kernel) (fun X1 c1 => (c1.nmL (vs := [1]) rfl rfl (by decide))) (fun X1 c1 => ts_nil) (fun X1 c1 => (c1.call W.gf_inner_points (W.lt 10 (by decide)) rfl (a_cons (c1.var (i := 1) rfl (.inl rfl) (by decide) (by decide)) a_nil rfl) (by decide) rfl rfl)) (fun _ => rfl)) a_nil rfl) (by decide) (by decide) rfl rfl))))
def N12 : List Str := ["statement", "found", "body", "inner"]
def sh12 (C : CF) : DS := (sSeq (sIf (bVal (eOp fIn (eOp fIx (eVar 0) (eC (.int (Int.ofNat 0)))) (eTup (aCons (eC (.str n7)) (aCons (eC (.str n9)) aNil))))) (sSeq (sAsg (eLst aNil) (gNm 1))
  (sSeq (sFor (iSqA (eCB (C 9) (aCons (eVar 0) aNil))) (gNm 2) (sFor (iSqA (eVar 2)) (gNm 3) (sDrop (eBM isL fExtend (eVar 1) (aCons (eCB (C 12) (aCons (eVar 3) aNil)) aNil)))))
  (sRet (eVar 1)))) sNop)
  (sSeq (sIf (bVal (eOp (fEqA C wEl) (eOp fIx (eVar 0) (eC (.int (Int.ofNat 0)))) (eC (.str n10)))) (sRet (eOp fAdd (eIf (bVal (eOp (fNeA C wEl) (eOp fIx (eVar 0) (eC (.int (Int.ofNat 1)))) (eC (.str n11)))) (eLst (aCons (eOp fIx (eVar 0) (eC (.int (Int.ofNat 1)))) aNil)) (eLst aNil)) (eCB fList (aCons (eOp fIx (eVar 0) (eC (.int (Int.ofNat 3)))) aNil)))) sNop)
  (sRet (eCB fList (aCons (eSl (eVar 0) (oSome (eC (.int (Int.ofNat 1)))) oNo) aNil)))))
set_option maxHeartbeats 0 in
theorem w12 (C : CF) (k : Nat) (X : Cx) (hw : X.w = w) (hx : X.xe = fun _ _ => False) (c : XC T C N12 (defScope (top 19)) true k X) : PSs X (defBody (top 19)) (rdS T.G (sh12 C)) :=
  (s_seq (s_if (c.tin (c.ix (c.var (i := 0) rfl (.inl rfl) (by decide) (by decide)) k_int (fun _ _ => rfl)) (q_tup (a_cons (k_strS e7) (a_cons (k_strS e9) a_nil rfl) rfl)) rfl) (s_seq (c.setL rfl rfl (q_lst a_nil) rfl)
  (s_seq (s_for c.own c.cal (c.SqA (c.call W.gf_bodies_in (W.lt 9 (by decide)) rfl (a_cons (c.var (i := 0) rfl (.inl rfl) (by decide) (by decide)) a_nil rfl) (by decide) rfl rfl)) (c.nmL (vs := [2]) rfl rfl (by decide)) (s_one (s_for c.own c.cal (c.SqA (c.var (i := 2) rfl (.inl rfl) (by decide) (by decide))) (c.nmL (vs := [3]) rfl rfl (by decide)) (s_one (s_drop (c.bm (r := fun _ => rExtend) PySem.F.plainAttrs_list PySem.F.slot_list_extend PySem.F.type_list_extend mt_extend s_extend (c.var (i := 1) rfl (.inl rfl) (by decide) (by decide)) (a_cons (c.call W.gf_names_in (W.lt 12 (by decide)) rfl (a_cons (c.var (i := 3) rfl (.inl rfl) (by decide) (by decide)) a_nil rfl) (by decide) rfl rfl) a_nil rfl) rfl rfl rfl rfl rfl) rfl)) (fun _ => rfl))) (fun _ => rfl))
  (s_one (s_ret (c.var (i := 1) rfl (.inl rfl) (by decide) (by decide)))))) s_nil)
  (s_seq (s_if (c.teq (wE W) (c.ix (c.var (i := 0) rfl (.inl rfl) (by decide) (by decide)) k_int (fun _ _ => rfl)) (k_strS e10)) (s_one (s_ret (c.add (q_if (c.tne (wE W) (c.ix (c.var (i := 0) rfl (.inl rfl) (by decide) (by decide)) k_int (fun _ _ => rfl)) (k_strS e11)) (q_lst (a_cons (c.ix (c.var (i := 0) rfl (.inl rfl) (by decide) (by decide)) k_int (fun _ _ => rfl)) a_nil rfl)) (q_lst a_nil)) (c.ct (c.kx (r := rListA) (c_list c.cal)) s_list W.fr_list boot_list rfl (a_cons (c.ix (c.var (i := 0) rfl (.inl rfl) (by decide) (by decide)) k_int (fun _ _ => rfl)) a_nil rfl) (by decide) (by decide) rfl rfl)))) s_nil)
  (s_one (s_ret (c.ct (c.kx (r := rListA) (c_list c.cal)) s_list W.fr_list boot_list rfl (a_cons (c.sl (c.var (i := 0) rfl (.inl rfl) (by decide) (by decide)) (o_some k_int) o_no) a_nil rfl) (by decide) (by decide) rfl rfl)))))
def N13 : List Str := ["proc", "_", "given", "body", "give", "found", "statement", "name"]
def sh13 (C : CF) : DS := (sSeq (sAsg (eVar 0) (gTp 4 (gsCons (gNm 1) (gsCons (gNm 2) (gsCons (gNm 3) (gsCons (gNm 4) gsNil))))))
  (sSeq (sAsg (eDc (iSqA (eVar 2)) (gNm 7) bYes (eVar 7) (eC (.bl true)) [7]) (gNm 5))
  (sSeq (sFor (iSqA (eVar 3)) (gNm 6) (sFor (iSqA (eCB (C 12) (aCons (eVar 6) aNil))) (gNm 7) (sSub (eC (.bl true)) (eVar 5) (eVar 7))))
  (sSeq (sIf (bVal (eOp (fNeA C wEl) (eVar 4) (eC (.str n11)))) (sSub (eC (.bl true)) (eVar 5) (eVar 4)) sNop)
  (sRet (eCB fTupleA (aCons (eVar 5) aNil)))))))
set_option maxHeartbeats 0 in
theorem w13 (C : CF) (k : Nat) (X : Cx) (hw : X.w = w) (hx : X.xe = fun _ _ => False) (c : XC T C N13 (defScope (top 20)) true k X) : PSs X (defBody (top 20)) (rdS T.G (sh13 C)) :=
  (s_seq (s_asg (c.var (i := 0) rfl (.inl rfl) (by decide) (by decide)) (c.tp (n := 4) (gs_cons (c.nmL (vs := [1, 2, 3, 4]) rfl rfl (by decide)) (gs_cons (c.nmL (vs := [1, 2, 3, 4]) rfl rfl (by decide)) (gs_cons (c.nmL (vs := [1, 2, 3, 4]) rfl rfl (by decide)) (gs_cons (c.nmL (vs := [1, 2, 3, 4]) rfl rfl (by decide)) gs_nil rfl) rfl) rfl) rfl) rfl rfl) rfl rfl rfl)
  (s_seq (c.setDc (i := 5) rfl rfl rfl rfl rfl (own := [("name", 7)]) (c.SqA (c.var (i := 2) rfl (.inl rfl) (by decide) (by decide))) (by decide +kernel) (fun X1 c1 => (c1.nmL (vs := [7]) rfl rfl (by decide))) (fun X1 c1 => ts_nil) (fun X1 c1 => (c1.var (i := 7) rfl (.inl rfl) (by decide) (by decide))) (fun X1 c1 => k_bl) (fun _ => rfl))
  (s_seq (s_for c.own c.cal (c.SqA (c.var (i := 3) rfl (.inl rfl) (by decide) (by decide))) (c.nmL (vs := [6]) rfl rfl (by decide)) (s_one (s_for c.own c.cal (c.SqA (c.call W.gf_names_in (W.lt 12 (by decide)) rfl (a_cons (c.var (i := 6) rfl (.inl rfl) (by decide) (by decide)) a_nil rfl) (by decide) rfl rfl)) (c.nmL (vs := [7]) rfl rfl (by decide)) (s_one (s_sub1 c.u1 k_bl (c.var (i := 5) rfl (.inl rfl) (by decide) (by decide)) (c.var (i := 7) rfl (.inl rfl) (by decide) (by decide)) (fun _ => rfl) rfl rfl rfl)) (fun _ => rfl))) (fun _ => rfl))
  (s_seq (s_if (c.tne (wE W) (c.var (i := 4) rfl (.inl rfl) (by decide) (by decide)) (k_strS e11)) (s_one (s_sub1 c.u1 k_bl (c.var (i := 5) rfl (.inl rfl) (by decide) (by decide)) (c.var (i := 4) rfl (.inl rfl) (by decide) (by decide)) (fun _ => rfl) rfl rfl rfl)) s_nil)
  (s_one (s_ret (c.ct (c.kx (r := rTupleAD) (c_tupleA c.cal)) s_tupleA W.fr_tuple boot_tuple rfl (a_cons (c.var (i := 5) rfl (.inl rfl) (by decide) (by decide)) a_nil rfl) (by decide) (by decide) rfl rfl)))))))
def N14 : List Str := ["proc", "flow"]
def sh14 (C : CF) : DS := (sSeq (sAsg (eCB (mkI C 4 0) (aCons (eCB (C 13) (aCons (eVar 0) aNil)) (aCons (eOp fIx (eVar 0) (eC (.int (Int.ofNat 3)))) aNil))) (gNm 1))
  (sSeq (sDrop (eMth C ml_whole n12 (eVar 1) (aCons (eOp fIx (eVar 0) (eC (.int (Int.ofNat 2)))) aNil)))
  (sRet (eCB fTupleA (aCons (eFld fl_rows n2 (eVar 1)) aNil)))))
set_option maxHeartbeats 0 in
theorem w14 (C : CF) (k : Nat) (X : Cx) (hw : X.w = w) (hx : X.xe = fun _ _ => False) (c : XC T C N14 (defScope (top 21)) true k X) : PSs X (defBody (top 21)) (rdS T.G (sh14 C)) :=
  (s_seq (c.setL rfl rfl (c.make (mW_Flow W) rfl (a_cons (c.call W.gf_variables_in (W.lt 13 (by decide)) rfl (a_cons (c.var (i := 0) rfl (.inl rfl) (by decide) (by decide)) a_nil rfl) (by decide) rfl rfl) (a_cons (c.ix (c.var (i := 0) rfl (.inl rfl) (by decide) (by decide)) k_int (fun _ _ => rfl)) a_nil rfl) rfl) (by decide) rfl rfl) rfl)
  (s_seq (s_drop (c.mthS e12 (hM_whole W) (c.var (i := 1) rfl (.inl rfl) (by decide) (by decide)) (a_cons (c.ix (c.var (i := 0) rfl (.inl rfl) (by decide) (by decide)) k_int (fun _ _ => rfl)) a_nil rfl) rfl rfl rfl) rfl)
  (s_one (s_ret (c.ct (c.kx (r := rTupleAD) (c_tupleA c.cal)) s_tupleA W.fr_tuple boot_tuple rfl (a_cons (c.fldS e2 (fW_rows W) (c.var (i := 1) rfl (.inl rfl) (by decide) (by decide)) rfl) a_nil rfl) (by decide) (by decide) rfl rfl)))))
def N15 : List Str := ["book", "proc"]
def sh15 (C : CF) : DS := (sSeq (sIf (bNot (bVal (eCB (C 2) (aCons (eCB fLen (aCons (eFld fl_procs n13 (eVar 0)) aNil)) (aCons (eVar 1) aNil))))) sNo sNop)
  (sRet (eOp fIx (eFld fl_procs n13 (eVar 0)) (eVar 1))))
set_option maxHeartbeats 0 in
theorem w15 (C : CF) (k : Nat) (X : Cx) (hw : X.w = w) (hx : X.xe = fun _ _ => False) (c : XC T C N15 (defScope (top 22)) true k X) : PSs X (defBody (top 22)) (rdS T.G (sh15 C)) :=
  (s_seq (s_if (t_not (t_val (c.call W.gf_is_index (W.lt 2 (by decide)) rfl (a_cons (c.cb (c.kx (r := rLenA) c_len) s_len W.fr_len PySem.boot_len rfl (a_cons (c.fldS e13 (fW_procs W) (c.var (i := 0) rfl (.inl rfl) (by decide) (by decide)) rfl) a_nil rfl) (by decide) (by decide) rfl rfl) (a_cons (c.var (i := 1) rfl (.inl rfl) (by decide) (by decide)) a_nil rfl) rfl) (by decide) rfl rfl) (fun _ => rfl))) (s_one q_sno) s_nil)
  (s_one (s_ret (c.ix (c.fldS e13 (fW_procs W) (c.var (i := 0) rfl (.inl rfl) (by decide) (by decide)) rfl) (c.var (i := 1) rfl (.inl rfl) (by decide) (by decide)) (fun _ _ => rfl)))))
def N16 : List Str := ["book", "proc"]
def sh16 (C : CF) : DS := (sRet (eCB (C 13) (aCons (eCB (C 15) (aCons (eVar 0) (aCons (eVar 1) aNil))) aNil)))
set_option maxHeartbeats 0 in
theorem w16 (C : CF) (k : Nat) (X : Cx) (hw : X.w = w) (hx : X.xe = fun _ _ => False) (c : XC T C N16 (defScope (top 23)) true k X) : PSs X (defBody (top 23)) (rdS T.G (sh16 C)) :=
  (s_one (s_ret (c.call W.gf_variables_in (W.lt 13 (by decide)) rfl (a_cons (c.call W.gf_proc_at (W.lt 15 (by decide)) rfl (a_cons (c.var (i := 0) rfl (.inl rfl) (by decide) (by decide)) (a_cons (c.var (i := 1) rfl (.inl rfl) (by decide) (by decide)) a_nil rfl) rfl) (by decide) rfl rfl) a_nil rfl) (by decide) rfl rfl)))
def N17 : List Str := ["book", "proc"]
def sh17 (C : CF) : DS := (sRet (eCB (C 14) (aCons (eCB (C 15) (aCons (eVar 0) (aCons (eVar 1) aNil))) aNil)))
set_option maxHeartbeats 0 in
theorem w17 (C : CF) (k : Nat) (X : Cx) (hw : X.w = w) (hx : X.xe = fun _ _ => False) (c : XC T C N17 (defScope (top 24)) true k X) : PSs X (defBody (top 24)) (rdS T.G (sh17 C)) :=
  (s_one (s_ret (c.call W.gf_flow_in (W.lt 14 (by decide)) rfl (a_cons (c.call W.gf_proc_at (W.lt 15 (by decide)) rfl (a_cons (c.var (i := 0) rfl (.inl rfl) (by decide) (by decide)) (a_cons (c.var (i := 1) rfl (.inl rfl) (by decide) (by decide)) a_nil rfl) rfl) (by decide) rfl rfl) a_nil rfl) (by decide) rfl rfl)))
def N18 : List Str := ["book", "proc", "_", "last"]
def sh18 (C : CF) : DS := (sRet (eOp fAdd (eC (.int (Int.ofNat 1))) (eCB fMax (aCons (eLc (iSqA (eCB (C 17) (aCons (eVar 0) (aCons (eVar 1) aNil)))) (gTp 3 (gsCons (gNm 2) (gsCons (gNm 2) (gsCons (gNm 3) gsNil)))) bYes (eVar 3) [2, 3]) aNil))))
set_option maxHeartbeats 0 in
theorem w18 (C : CF) (k : Nat) (X : Cx) (hw : X.w = w) (hx : X.xe = fun _ _ => False) (c : XC T C N18 (defScope (top 25)) true k X) : PSs X (defBody (top 25)) (rdS T.G (sh18 C)) :=
  (s_one (s_ret (c.add k_int (c.cb (c.kx (r := rMaxA) (c_max c.cal)) s_max W.fr_max boot_max rfl (a_cons (c.lc (own := [("_", 2), ("last", 3)]) (c.SqA (c.call W.gf_flow_of (W.lt 17 (by decide)) rfl (a_cons (c.var (i := 0) rfl (.inl rfl) (by decide) (by decide)) (a_cons (c.var (i := 1) rfl (.inl rfl) (by decide) (by decide)) a_nil rfl) rfl) (by decide) rfl rfl)) (by decide +kernel) (fun X1 c1 => (c1.tp (n := 3) (gs_cons (c1.nmL (vs := [2, 3]) rfl rfl (by decide)) (gs_cons (c1.nmL (vs := [2, 3]) rfl rfl (by decide)) (gs_cons (c1.nmL (vs := [2, 3]) rfl rfl (by decide)) gs_nil rfl) rfl) rfl) rfl rfl)) (fun X1 c1 => ts_nil) (fun X1 c1 => (c1.var (i := 3) rfl (.inl rfl) (by decide) (by decide))) (fun _ => rfl)) a_nil rfl) (by decide) (by decide) rfl rfl))))
def N19 : List Str := ["value", "waiting", "here", "at", "made"]
def sh19 (C : CF) : DS := (sSeq (sIf (bNot (bVal (eIsi [kt_4, kt_5] nC (eVar 0)))) (sRet (eVar 0)) sNop)
  (sSeq (sAsg (eLst (aCons (eLst (aCons (eVar 0) (aCons (eC (.int (Int.ofNat 0))) (aCons (eLst aNil) aNil)))) aNil)) (gNm 1))
  (sWhile (bVal (eC (.bl true))) (sSeq (sAsg (eOp fIx (eVar 1) (eNeg (eC (.int (Int.ofNat 1))))) (gTp 3 (gsCons (gNm 2) (gsCons (gNm 3) (gsCons (gNm 4) gsNil)))))
  (sIf (bVal (eOp fLt (eVar 3) (eCB fLen (aCons (eVar 2) aNil)))) (sSeq (sSubAg Int.add (eOp fIx (eVar 1) (eNeg (eC (.int (Int.ofNat 1))))) (eC (.int (Int.ofNat 1))) (eC (.int (Int.ofNat 1))))
  (sIf (bVal (eIsi [kt_4, kt_5] nC (eOp fIx (eVar 2) (eVar 3)))) (sDrop (eBM isL fAppend (eVar 1) (aCons (eLst (aCons (eOp fIx (eVar 2) (eVar 3)) (aCons (eC (.int (Int.ofNat 0))) (aCons (eLst aNil) aNil)))) aNil))) (sDrop (eBM isL fAppend (eVar 4) (aCons (eOp fIx (eVar 2) (eVar 3)) aNil))))) (sSeq (sDrop (eBM isL fPop (eVar 1) aNil))
  (sSeq (sIf (bVal (eOp (fEqA C wEl) (eCB fLen (aCons (eVar 1) aNil)) (eC (.int (Int.ofNat 0))))) (sRet (eCB fTupleA (aCons (eVar 4) aNil))) sNop)
  (sDrop (eBM isL fAppend (eOp fIx (eOp fIx (eVar 1) (eNeg (eC (.int (Int.ofNat 1))))) (eC (.int (Int.ofNat 2)))) (aCons (eCB fTupleA (aCons (eVar 4) aNil)) aNil))))))))))
set_option maxHeartbeats 0 in
theorem w19 (C : CF) (k : Nat) (X : Cx) (hw : X.w = w) (hx : X.xe = fun _ _ => False) (c : XC T C N19 (defScope (top 27)) true k X) : PSs X (defBody (top 27)) (rdS T.G (sh19 C)) :=
  (s_seq (s_if (t_not (t_val (c.isi2 W.own W.kt_4 W.kt_5 (c.clsT W.fr_tuple rfl boot_tuple rfl (by decide) (by decide)) (c.clsT W.fr_list rfl boot_list rfl (by decide) (by decide)) W.fr_isinstance boot_isinstance rfl (c.var (i := 0) rfl (.inl rfl) (by decide) (by decide)) rfl rfl rfl rfl rfl) (fun _ => rfl))) (s_one (s_ret (c.var (i := 0) rfl (.inl rfl) (by decide) (by decide)))) s_nil)
  (s_seq (c.setL rfl rfl (q_lst (a_cons (q_lst (a_cons (c.var (i := 0) rfl (.inl rfl) (by decide) (by decide)) (a_cons k_int (a_cons (q_lst a_nil) a_nil rfl) rfl) rfl)) a_nil rfl)) rfl)
  (s_one (s_while c.own (t_val k_bl (fun _ => rfl)) (s_seq (s_asg (c.ix (c.var (i := 1) rfl (.inl rfl) (by decide) (by decide)) (k_neg k_int) (fun _ _ => rfl)) (c.tp (n := 3) (gs_cons (c.nmL (vs := [2, 3, 4]) rfl rfl (by decide)) (gs_cons (c.nmL (vs := [2, 3, 4]) rfl rfl (by decide)) (gs_cons (c.nmL (vs := [2, 3, 4]) rfl rfl (by decide)) gs_nil rfl) rfl) rfl) rfl rfl) rfl rfl rfl)
  (s_one (s_if (c.tlt (c.var (i := 3) rfl (.inl rfl) (by decide) (by decide)) (c.cb (c.kx (r := rLenA) c_len) s_len W.fr_len PySem.boot_len rfl (a_cons (c.var (i := 2) rfl (.inl rfl) (by decide) (by decide)) a_nil rfl) (by decide) (by decide) rfl rfl)) (s_seq (c.ssubA (c.ix (c.var (i := 1) rfl (.inl rfl) (by decide) (by decide)) (k_neg k_int) (fun _ _ => rfl)) k_int k_int (fun _ _ _ => rfl))
  (s_one (s_if (t_val (c.isi2 W.own W.kt_4 W.kt_5 (c.clsT W.fr_tuple rfl boot_tuple rfl (by decide) (by decide)) (c.clsT W.fr_list rfl boot_list rfl (by decide) (by decide)) W.fr_isinstance boot_isinstance rfl (c.ix (c.var (i := 2) rfl (.inl rfl) (by decide) (by decide)) (c.var (i := 3) rfl (.inl rfl) (by decide) (by decide)) (fun _ _ => rfl)) rfl rfl rfl rfl rfl) (fun _ => rfl)) (s_one (s_drop (c.bm (r := fun _ => rAppend) PySem.F.plainAttrs_list PySem.F.slot_list_append PySem.F.type_list_append mt_append s_append (c.var (i := 1) rfl (.inl rfl) (by decide) (by decide)) (a_cons (q_lst (a_cons (c.ix (c.var (i := 2) rfl (.inl rfl) (by decide) (by decide)) (c.var (i := 3) rfl (.inl rfl) (by decide) (by decide)) (fun _ _ => rfl)) (a_cons k_int (a_cons (q_lst a_nil) a_nil rfl) rfl) rfl)) a_nil rfl) rfl rfl rfl rfl rfl) rfl)) (s_one (s_drop (c.bm (r := fun _ => rAppend) PySem.F.plainAttrs_list PySem.F.slot_list_append PySem.F.type_list_append mt_append s_append (c.var (i := 4) rfl (.inl rfl) (by decide) (by decide)) (a_cons (c.ix (c.var (i := 2) rfl (.inl rfl) (by decide) (by decide)) (c.var (i := 3) rfl (.inl rfl) (by decide) (by decide)) (fun _ _ => rfl)) a_nil rfl) rfl rfl rfl rfl rfl) rfl))))) (s_seq (s_drop (c.bm0 (r := fun _ => rPop) PySem.F.plainAttrs_list PySem.F.slot_list_pop PySem.F.type_list_pop mt_pop s_pop (c.var (i := 1) rfl (.inl rfl) (by decide) (by decide)) rfl rfl) rfl)
  (s_seq (s_if (c.teq (wE W) (c.cb (c.kx (r := rLenA) c_len) s_len W.fr_len PySem.boot_len rfl (a_cons (c.var (i := 1) rfl (.inl rfl) (by decide) (by decide)) a_nil rfl) (by decide) (by decide) rfl rfl) k_int) (s_one (s_ret (c.ct (c.kx (r := rTupleAD) (c_tupleA c.cal)) s_tupleA W.fr_tuple boot_tuple rfl (a_cons (c.var (i := 4) rfl (.inl rfl) (by decide) (by decide)) a_nil rfl) (by decide) (by decide) rfl rfl))) s_nil)
  (s_one (s_drop (c.bm (r := fun _ => rAppend) PySem.F.plainAttrs_list PySem.F.slot_list_append PySem.F.type_list_append mt_append s_append (c.ix (c.ix (c.var (i := 1) rfl (.inl rfl) (by decide) (by decide)) (k_neg k_int) (fun _ _ => rfl)) k_int (fun _ _ => rfl)) (a_cons (c.ct (c.kx (r := rTupleAD) (c_tupleA c.cal)) s_tupleA W.fr_tuple boot_tuple rfl (a_cons (c.var (i := 4) rfl (.inl rfl) (by decide) (by decide)) a_nil rfl) (by decide) (by decide) rfl rfl) a_nil rfl) rfl rfl rfl rfl rfl) rfl)))))))))))
def N20 : List Str := ["one", "other", "waiting", "left", "right"]
def sh20 (C : CF) : DS := (sSeq (sAsg (eLst (aCons (eTup (aCons (eVar 0) (aCons (eVar 1) aNil))) aNil)) (gNm 2))
  (sSeq (sWhile (bVal (eOp fGt (eCB fLen (aCons (eVar 2) aNil)) (eC (.int (Int.ofNat 0))))) (sSeq (sAsg (eBM isL fPop (eVar 2) aNil) (gTp 2 (gsCons (gNm 3) (gsCons (gNm 4) gsNil))))
  (sIf (bVal (eIsi [kt_4] nC (eVar 3))) (sSeq (sIf (bOr (bNot (bVal (eIsi [kt_4] nC (eVar 4)))) (bVal (eOp (fNeA C wEl) (eCB fLen (aCons (eVar 3) aNil)) (eCB fLen (aCons (eVar 4) aNil))))) (sRet (eC (.bl false))) sNop)
  (sDrop (eBM isL fExtend (eVar 2) (aCons (eLz (aCons (eVar 3) (aCons (eVar 4) aNil))) aNil)))) (sIf (bOr (bVal (eOp (fNeA C wEl) (eVar 3) (eVar 4))) (bAnd (bVal (eIsi [kt_2] nC (eVar 3))) (bVal (eOp (fNeA C wEl) (eCB fStrN (aCons (eVar 3) aNil)) (eCB fStrN (aCons (eVar 4) aNil)))))) (sRet (eC (.bl false))) (sIf (bAnd (bVal (eIsi [kt_2] nC (eVar 4))) (bVal (eOp (fNeA C wEl) (eCB fStrN (aCons (eVar 3) aNil)) (eCB fStrN (aCons (eVar 4) aNil))))) (sRet (eC (.bl false))) sNop)))))
  (sRet (eC (.bl true)))))
set_option maxHeartbeats 0 in
theorem w20 (C : CF) (k : Nat) (X : Cx) (hw : X.w = w) (hx : X.xe = fun _ _ => False) (c : XC T C N20 (defScope (top 28)) true k X) : PSs X (defBody (top 28)) (rdS T.G (sh20 C)) :=
  (s_seq (c.setL rfl rfl (q_lst (a_cons (q_tup (a_cons (c.var (i := 0) rfl (.inl rfl) (by decide) (by decide)) (a_cons (c.var (i := 1) rfl (.inl rfl) (by decide) (by decide)) a_nil rfl) rfl)) a_nil rfl)) rfl)
  (s_seq (s_while c.own (c.tgt (c.cb (c.kx (r := rLenA) c_len) s_len W.fr_len PySem.boot_len rfl (a_cons (c.var (i := 2) rfl (.inl rfl) (by decide) (by decide)) a_nil rfl) (by decide) (by decide) rfl rfl) k_int) (s_seq (s_asg (c.bm0 (r := fun _ => rPop) PySem.F.plainAttrs_list PySem.F.slot_list_pop PySem.F.type_list_pop mt_pop s_pop (c.var (i := 2) rfl (.inl rfl) (by decide) (by decide)) rfl rfl) (c.tp (n := 2) (gs_cons (c.nmL (vs := [3, 4]) rfl rfl (by decide)) (gs_cons (c.nmL (vs := [3, 4]) rfl rfl (by decide)) gs_nil rfl) rfl) rfl rfl) rfl rfl rfl)
  (s_one (s_if (t_val (c.isi W.own W.kt_4 (c.clsT W.fr_tuple rfl boot_tuple rfl (by decide) (by decide)) W.fr_isinstance boot_isinstance rfl (c.var (i := 3) rfl (.inl rfl) (by decide) (by decide)) rfl rfl rfl) (fun _ => rfl)) (s_seq (s_if (PW.pt (w_or (t_not (t_val (c.isi W.own W.kt_4 (c.clsT W.fr_tuple rfl boot_tuple rfl (by decide) (by decide)) W.fr_isinstance boot_isinstance rfl (c.var (i := 4) rfl (.inl rfl) (by decide) (by decide)) rfl rfl rfl) (fun _ => rfl))) (w_or1 (c.tne (wE W) (c.cb (c.kx (r := rLenA) c_len) s_len W.fr_len PySem.boot_len rfl (a_cons (c.var (i := 3) rfl (.inl rfl) (by decide) (by decide)) a_nil rfl) (by decide) (by decide) rfl rfl) (c.cb (c.kx (r := rLenA) c_len) s_len W.fr_len PySem.boot_len rfl (a_cons (c.var (i := 4) rfl (.inl rfl) (by decide) (by decide)) a_nil rfl) (by decide) (by decide) rfl rfl))))) (s_one (s_ret k_bl)) s_nil)
  (s_one (s_drop (c.bm (r := fun _ => rExtend) PySem.F.plainAttrs_list PySem.F.slot_list_extend PySem.F.type_list_extend mt_extend s_extend (c.var (i := 2) rfl (.inl rfl) (by decide) (by decide)) (a_cons (c.lz rfl W.fr_zip rfl W.fr_list (a_cons (c.var (i := 3) rfl (.inl rfl) (by decide) (by decide)) (a_cons (c.var (i := 4) rfl (.inl rfl) (by decide) (by decide)) a_nil rfl) rfl) rfl rfl rfl) a_nil rfl) rfl rfl rfl rfl rfl) rfl))) (s_one (s_if (PW.pt (w_or (c.tne (wE W) (c.var (i := 3) rfl (.inl rfl) (by decide) (by decide)) (c.var (i := 4) rfl (.inl rfl) (by decide) (by decide))) (w_or1 (PW.pt (w_and (t_val (c.isi W.own W.kt_2 (c.clsT W.fr_int rfl boot_int rfl (by decide) (by decide)) W.fr_isinstance boot_isinstance rfl (c.var (i := 3) rfl (.inl rfl) (by decide) (by decide)) rfl rfl rfl) (fun _ => rfl)) (w_and1 (c.tne (wE W) (c.cb SkE.call_repr_int s_strN W.fr_repr boot_repr rfl (a_cons (c.var (i := 3) rfl (.inl rfl) (by decide) (by decide)) a_nil rfl) (by decide) (by decide) rfl rfl) (c.cb SkE.call_repr_int s_strN W.fr_repr boot_repr rfl (a_cons (c.var (i := 4) rfl (.inl rfl) (by decide) (by decide)) a_nil rfl) (by decide) (by decide) rfl rfl)))))))) (s_one (s_ret k_bl)) (s_one (s_if (PW.pt (w_and (t_val (c.isi W.own W.kt_2 (c.clsT W.fr_int rfl boot_int rfl (by decide) (by decide)) W.fr_isinstance boot_isinstance rfl (c.var (i := 4) rfl (.inl rfl) (by decide) (by decide)) rfl rfl rfl) (fun _ => rfl)) (w_and1 (c.tne (wE W) (c.cb SkE.call_repr_int s_strN W.fr_repr boot_repr rfl (a_cons (c.var (i := 3) rfl (.inl rfl) (by decide) (by decide)) a_nil rfl) (by decide) (by decide) rfl rfl) (c.cb SkE.call_repr_int s_strN W.fr_repr boot_repr rfl (a_cons (c.var (i := 4) rfl (.inl rfl) (by decide) (by decide)) a_nil rfl) (by decide) (by decide) rfl rfl))))) (s_one (s_ret k_bl)) s_nil))))))))
  (s_one (s_ret k_bl))))
def N21 : List Str := ["self", "acts"]
def sh21 (C : CF) : DS := (sFldS fl_acts n14 (eVar 0) (eCB (C 19) (aCons (eVar 1) aNil)))
set_option maxHeartbeats 0 in
theorem w21 (C : CF) (k : Nat) (X : Cx) (hw : X.w = w) (hx : X.xe = fun _ _ => False) (c : XC T C N21 (defScope (sub 30 0)) true k X) : PSs X (defBody (sub 30 0)) (rdS T.G (sh21 C)) :=
  (s_one (c.sfld e14 (fW_acts W) (c.var (i := 0) rfl (.inl rfl) (by decide) (by decide)) (c.call W.gf_frozen (W.lt 19 (by decide)) rfl (a_cons (c.var (i := 1) rfl (.inl rfl) (by decide) (by decide)) a_nil rfl) (by decide) rfl rfl) rfl))
def N22 : List Str := ["self", "other"]
def sh22 (C : CF) : DS := (sRet (eAnd (eIsi [kt_8] nC (eVar 1)) (eCB (C 20) (aCons (eFld fl_acts n14 (eVar 0)) (aCons (eFld fl_acts n14 (eVar 1)) aNil)))))
set_option maxHeartbeats 0 in
theorem w22 (C : CF) (k : Nat) (X : Cx) (hw : X.w = w) (hx : X.xe = fun _ _ => False) (c : XC T C N22 (defScope (sub 30 1)) true k X) : PSs X (defBody (sub 30 1)) (rdS T.G (sh22 C)) :=
  (s_one (s_ret (q_and (c.isi W.own W.kt_8 (c.clsO W.gc_Over rfl (by decide)) W.fr_isinstance boot_isinstance rfl (c.var (i := 1) rfl (.inl rfl) (by decide) (by decide)) rfl rfl rfl) (pe_one (c.call W.gf_is_alike (W.lt 20 (by decide)) rfl (a_cons (c.fldS e14 (fW_acts W) (c.var (i := 0) rfl (.inl rfl) (by decide) (by decide)) rfl) (a_cons (c.fldS e14 (fW_acts W) (c.var (i := 1) rfl (.inl rfl) (by decide) (by decide)) rfl) a_nil rfl) rfl) (by decide) rfl rfl)))))
def N23 : List Str := ["self", "what", "proc", "row", "acts"]
def sh23 (C : CF) : DS := (sSeq (sFldS fl_what n15 (eVar 0) (eCB (C 19) (aCons (eVar 1) aNil)))
  (sSeq (sFldS fl_proc n16 (eVar 0) (eCB (C 19) (aCons (eVar 2) aNil)))
  (sSeq (sFldS fl_row n17 (eVar 0) (eCB (C 19) (aCons (eVar 3) aNil)))
  (sFldS fl_acts n14 (eVar 0) (eCB (C 19) (aCons (eVar 4) aNil))))))
set_option maxHeartbeats 0 in
theorem w23 (C : CF) (k : Nat) (X : Cx) (hw : X.w = w) (hx : X.xe = fun _ _ => False) (c : XC T C N23 (defScope (sub 31 0)) true k X) : PSs X (defBody (sub 31 0)) (rdS T.G (sh23 C)) :=
  (s_seq (c.sfld e15 (fW_what W) (c.var (i := 0) rfl (.inl rfl) (by decide) (by decide)) (c.call W.gf_frozen (W.lt 19 (by decide)) rfl (a_cons (c.var (i := 1) rfl (.inl rfl) (by decide) (by decide)) a_nil rfl) (by decide) rfl rfl) rfl)
  (s_seq (c.sfld e16 (fW_proc W) (c.var (i := 0) rfl (.inl rfl) (by decide) (by decide)) (c.call W.gf_frozen (W.lt 19 (by decide)) rfl (a_cons (c.var (i := 2) rfl (.inl rfl) (by decide) (by decide)) a_nil rfl) (by decide) rfl rfl) rfl)
  (s_seq (c.sfld e17 (fW_row W) (c.var (i := 0) rfl (.inl rfl) (by decide) (by decide)) (c.call W.gf_frozen (W.lt 19 (by decide)) rfl (a_cons (c.var (i := 3) rfl (.inl rfl) (by decide) (by decide)) a_nil rfl) (by decide) rfl rfl) rfl)
  (s_one (c.sfld e14 (fW_acts W) (c.var (i := 0) rfl (.inl rfl) (by decide) (by decide)) (c.call W.gf_frozen (W.lt 19 (by decide)) rfl (a_cons (c.var (i := 4) rfl (.inl rfl) (by decide) (by decide)) a_nil rfl) (by decide) rfl rfl) rfl)))))
def N24 : List Str := ["self"]
def sh24 (C : CF) : DS := (sRet (eTup (aCons (eFld fl_what n15 (eVar 0)) (aCons (eFld fl_proc n16 (eVar 0)) (aCons (eFld fl_row n17 (eVar 0)) (aCons (eFld fl_acts n14 (eVar 0)) aNil))))))
set_option maxHeartbeats 0 in
theorem w24 (C : CF) (k : Nat) (X : Cx) (hw : X.w = w) (hx : X.xe = fun _ _ => False) (c : XC T C N24 (defScope (sub 31 1)) true k X) : PSs X (defBody (sub 31 1)) (rdS T.G (sh24 C)) :=
  (s_one (s_ret (q_tup (a_cons (c.fldS e15 (fW_what W) (c.var (i := 0) rfl (.inl rfl) (by decide) (by decide)) rfl) (a_cons (c.fldS e16 (fW_proc W) (c.var (i := 0) rfl (.inl rfl) (by decide) (by decide)) rfl) (a_cons (c.fldS e17 (fW_row W) (c.var (i := 0) rfl (.inl rfl) (by decide) (by decide)) rfl) (a_cons (c.fldS e14 (fW_acts W) (c.var (i := 0) rfl (.inl rfl) (by decide) (by decide)) rfl) a_nil rfl) rfl) rfl) rfl))))
def N25 : List Str := ["self", "other"]
def sh25 (C : CF) : DS := (sRet (eAnd (eIsi [kt_9] nC (eVar 1)) (eCB (C 20) (aCons (eMth C ml_fields n18 (eVar 0) aNil) (aCons (eMth C ml_fields n18 (eVar 1) aNil) aNil)))))
set_option maxHeartbeats 0 in
theorem w25 (C : CF) (k : Nat) (X : Cx) (hw : X.w = w) (hx : X.xe = fun _ _ => False) (c : XC T C N25 (defScope (sub 31 2)) true k X) : PSs X (defBody (sub 31 2)) (rdS T.G (sh25 C)) :=
  (s_one (s_ret (q_and (c.isi W.own W.kt_9 (c.clsO W.gc_Fault rfl (by decide)) W.fr_isinstance boot_isinstance rfl (c.var (i := 1) rfl (.inl rfl) (by decide) (by decide)) rfl rfl rfl) (pe_one (c.call W.gf_is_alike (W.lt 20 (by decide)) rfl (a_cons (c.mthS0 e18 (hM_fields W) (c.var (i := 0) rfl (.inl rfl) (by decide) (by decide)) rfl) (a_cons (c.mthS0 e18 (hM_fields W) (c.var (i := 1) rfl (.inl rfl) (by decide) (by decide)) rfl) a_nil rfl) rfl) (by decide) rfl rfl)))))
def N26 : List Str := ["self", "acts"]
def sh26 (C : CF) : DS := (sFldS fl_acts n14 (eVar 0) (eCB (C 19) (aCons (eVar 1) aNil)))
set_option maxHeartbeats 0 in
theorem w26 (C : CF) (k : Nat) (X : Cx) (hw : X.w = w) (hx : X.xe = fun _ _ => False) (c : XC T C N26 (defScope (sub 32 0)) true k X) : PSs X (defBody (sub 32 0)) (rdS T.G (sh26 C)) :=
  (s_one (c.sfld e14 (fW_acts W) (c.var (i := 0) rfl (.inl rfl) (by decide) (by decide)) (c.call W.gf_frozen (W.lt 19 (by decide)) rfl (a_cons (c.var (i := 1) rfl (.inl rfl) (by decide) (by decide)) a_nil rfl) (by decide) rfl rfl) rfl))
def N27 : List Str := ["self", "other"]
def sh27 (C : CF) : DS := (sRet (eAnd (eIsi [kt_10] nC (eVar 1)) (eCB (C 20) (aCons (eFld fl_acts n14 (eVar 0)) (aCons (eFld fl_acts n14 (eVar 1)) aNil)))))
set_option maxHeartbeats 0 in
theorem w27 (C : CF) (k : Nat) (X : Cx) (hw : X.w = w) (hx : X.xe = fun _ _ => False) (c : XC T C N27 (defScope (sub 32 1)) true k X) : PSs X (defBody (sub 32 1)) (rdS T.G (sh27 C)) :=
  (s_one (s_ret (q_and (c.isi W.own W.kt_10 (c.clsO W.gc_Open rfl (by decide)) W.fr_isinstance boot_isinstance rfl (c.var (i := 1) rfl (.inl rfl) (by decide) (by decide)) rfl rfl rfl) (pe_one (c.call W.gf_is_alike (W.lt 20 (by decide)) rfl (a_cons (c.fldS e14 (fW_acts W) (c.var (i := 0) rfl (.inl rfl) (by decide) (by decide)) rfl) (a_cons (c.fldS e14 (fW_acts W) (c.var (i := 1) rfl (.inl rfl) (by decide) (by decide)) rfl) a_nil rfl) rfl) (by decide) rfl rfl)))))
def N28 : List Str := ["self"]
def sh28 (C : CF) : DS := (sFldS fl_nodes n19 (eVar 0) (eLst aNil))
set_option maxHeartbeats 0 in
theorem w28 (C : CF) (k : Nat) (X : Cx) (hw : X.w = w) (hx : X.xe = fun _ _ => False) (c : XC T C N28 (defScope (sub 33 0)) true k X) : PSs X (defBody (sub 33 0)) (rdS T.G (sh28 C)) :=
  (s_one (c.sfld e19 (fW_nodes W) (c.var (i := 0) rfl (.inl rfl) (by decide) (by decide)) (q_lst a_nil) rfl))
def N29 : List Str := ["self", "kind", "parent"]
def sh29 (C : CF) : DS := (sSeq (sDrop (eBM isL fAppend (eFld fl_nodes n19 (eVar 0)) (aCons (eTup (aCons (eVar 1) (aCons (eVar 2) (aCons (eC (.bl true)) aNil)))) aNil)))
  (sRet (eOp fSub (eCB fLen (aCons (eFld fl_nodes n19 (eVar 0)) aNil)) (eC (.int (Int.ofNat 1))))))
set_option maxHeartbeats 0 in
theorem w29 (C : CF) (k : Nat) (X : Cx) (hw : X.w = w) (hx : X.xe = fun _ _ => False) (c : XC T C N29 (defScope (sub 33 1)) true k X) : PSs X (defBody (sub 33 1)) (rdS T.G (sh29 C)) :=
  (s_seq (s_drop (c.bm (r := fun _ => rAppend) PySem.F.plainAttrs_list PySem.F.slot_list_append PySem.F.type_list_append mt_append s_append (c.fldS e19 (fW_nodes W) (c.var (i := 0) rfl (.inl rfl) (by decide) (by decide)) rfl) (a_cons (q_tup (a_cons (c.var (i := 1) rfl (.inl rfl) (by decide) (by decide)) (a_cons (c.var (i := 2) rfl (.inl rfl) (by decide) (by decide)) (a_cons k_bl a_nil rfl) rfl) rfl)) a_nil rfl) rfl rfl rfl rfl rfl) rfl)
  (s_one (s_ret (c.sub (c.cb (c.kx (r := rLenA) c_len) s_len W.fr_len PySem.boot_len rfl (a_cons (c.fldS e19 (fW_nodes W) (c.var (i := 0) rfl (.inl rfl) (by decide) (by decide)) rfl) a_nil rfl) (by decide) (by decide) rfl rfl) k_int))))
def N30 : List Str := ["self", "node", "found", "here"]
def sh30 (C : CF) : DS := (sSeq (sAsg (eLst aNil) (gNm 2))
  (sSeq (sAsg (eOp fIx (eOp fIx (eFld fl_nodes n19 (eVar 0)) (eVar 1)) (eC (.int (Int.ofNat 1)))) (gNm 3))
  (sSeq (sWhile (bVal (eOp (fNeA C wEl) (eVar 3) (eNeg (eC (.int (Int.ofNat 1)))))) (sSeq (sDrop (eBM isL fAppend (eVar 2) (aCons (eVar 3) aNil)))
  (sAsg (eOp fIx (eOp fIx (eFld fl_nodes n19 (eVar 0)) (eVar 3)) (eC (.int (Int.ofNat 1)))) (gNm 3))))
  (sRet (eVar 2)))))
set_option maxHeartbeats 0 in
theorem w30 (C : CF) (k : Nat) (X : Cx) (hw : X.w = w) (hx : X.xe = fun _ _ => False) (c : XC T C N30 (defScope (sub 33 2)) true k X) : PSs X (defBody (sub 33 2)) (rdS T.G (sh30 C)) :=
  (s_seq (c.setL rfl rfl (q_lst a_nil) rfl)
  (s_seq (c.setL rfl rfl (c.ix (c.ix (c.fldS e19 (fW_nodes W) (c.var (i := 0) rfl (.inl rfl) (by decide) (by decide)) rfl) (c.var (i := 1) rfl (.inl rfl) (by decide) (by decide)) (fun _ _ => rfl)) k_int (fun _ _ => rfl)) rfl)
  (s_seq (s_while c.own (c.tne (wE W) (c.var (i := 3) rfl (.inl rfl) (by decide) (by decide)) (k_neg k_int)) (s_seq (s_drop (c.bm (r := fun _ => rAppend) PySem.F.plainAttrs_list PySem.F.slot_list_append PySem.F.type_list_append mt_append s_append (c.var (i := 2) rfl (.inl rfl) (by decide) (by decide)) (a_cons (c.var (i := 3) rfl (.inl rfl) (by decide) (by decide)) a_nil rfl) rfl rfl rfl rfl rfl) rfl)
  (s_one (c.setL rfl rfl (c.ix (c.ix (c.fldS e19 (fW_nodes W) (c.var (i := 0) rfl (.inl rfl) (by decide) (by decide)) rfl) (c.var (i := 3) rfl (.inl rfl) (by decide) (by decide)) (fun _ _ => rfl)) k_int (fun _ _ => rfl)) rfl))))
  (s_one (s_ret (c.var (i := 2) rfl (.inl rfl) (by decide) (by decide)))))))
def N31 : List Str := ["self", "node", "other"]
def sh31 (C : CF) : DS := (sRet (eLc (iRg1 (aCons (eCB fLen (aCons (eFld fl_nodes n19 (eVar 0)) aNil)) aNil)) (gNm 2) (bVal (eOp fIn (eVar 1) (eMth C ml_above n20 (eVar 0) (aCons (eVar 2) aNil)))) (eVar 2) [2]))
set_option maxHeartbeats 0 in
theorem w31 (C : CF) (k : Nat) (X : Cx) (hw : X.w = w) (hx : X.xe = fun _ _ => False) (c : XC T C N31 (defScope (sub 33 3)) true k X) : PSs X (defBody (sub 33 3)) (rdS T.G (sh31 C)) :=
  (s_one (s_ret (c.lc (own := [("other", 2)]) (i_rg1 (c.gl rfl) (c.mgn W.fr_range) (a_cons (c.cb (c.kx (r := rLenA) c_len) s_len W.fr_len PySem.boot_len rfl (a_cons (c.fldS e19 (fW_nodes W) (c.var (i := 0) rfl (.inr (.inl rfl)) (by decide) (by decide)) rfl) a_nil rfl) (by decide) (by decide) rfl rfl) a_nil rfl) rfl) (by decide +kernel) (fun X1 c1 => (c1.nmL (vs := [2]) rfl rfl (by decide))) (fun X1 c1 => (ts_one (c1.tin (c1.var (i := 1) rfl (.inr (.inl rfl)) (by decide) (by decide)) (c1.mthS e20 (hM_above W) (c1.var (i := 0) rfl (.inr (.inl rfl)) (by decide) (by decide)) (a_cons (c1.var (i := 2) rfl (.inl rfl) (by decide) (by decide)) a_nil rfl) rfl rfl rfl) rfl))) (fun X1 c1 => (c1.var (i := 2) rfl (.inl rfl) (by decide) (by decide))) (fun _ => rfl))))
def N32 : List Str := ["self", "nodes", "node", "kind", "parent", "_"]
def sh32 (C : CF) : DS := (sFor (iSqA (eVar 1)) (gNm 2) (sSeq (sAsg (eOp fIx (eFld fl_nodes n19 (eVar 0)) (eVar 2)) (gTp 3 (gsCons (gNm 3) (gsCons (gNm 4) (gsCons (gNm 5) gsNil)))))
  (sSub (eTup (aCons (eVar 3) (aCons (eVar 4) (aCons (eC (.bl false)) aNil)))) (eFld fl_nodes n19 (eVar 0)) (eVar 2))))
set_option maxHeartbeats 0 in
theorem w32 (C : CF) (k : Nat) (X : Cx) (hw : X.w = w) (hx : X.xe = fun _ _ => False) (c : XC T C N32 (defScope (sub 33 4)) true k X) : PSs X (defBody (sub 33 4)) (rdS T.G (sh32 C)) :=
  (s_one (s_for c.own c.cal (c.SqA (c.var (i := 1) rfl (.inl rfl) (by decide) (by decide))) (c.nmL (vs := [2]) rfl rfl (by decide)) (s_seq (s_asg (c.ix (c.fldS e19 (fW_nodes W) (c.var (i := 0) rfl (.inl rfl) (by decide) (by decide)) rfl) (c.var (i := 2) rfl (.inl rfl) (by decide) (by decide)) (fun _ _ => rfl)) (c.tp (n := 3) (gs_cons (c.nmL (vs := [3, 4, 5]) rfl rfl (by decide)) (gs_cons (c.nmL (vs := [3, 4, 5]) rfl rfl (by decide)) (gs_cons (c.nmL (vs := [3, 4, 5]) rfl rfl (by decide)) gs_nil rfl) rfl) rfl) rfl rfl) rfl rfl rfl)
  (s_one (s_sub1 c.u1 (q_tup (a_cons (c.var (i := 3) rfl (.inl rfl) (by decide) (by decide)) (a_cons (c.var (i := 4) rfl (.inl rfl) (by decide) (by decide)) (a_cons k_bl a_nil rfl) rfl) rfl)) (c.fldS e19 (fW_nodes W) (c.var (i := 0) rfl (.inl rfl) (by decide) (by decide)) rfl) (c.var (i := 2) rfl (.inl rfl) (by decide) (by decide)) (fun _ => rfl) rfl rfl rfl))) (fun _ => rfl)))
def N33 : List Str := ["self", "node", "other", "way", "here"]
def sh33 (C : CF) : DS := (sSeq (sAsg (eOp fAdd (eLst (aCons (eVar 2) aNil)) (eMth C ml_above n20 (eVar 0) (aCons (eVar 2) aNil))) (gNm 3))
  (sRet (eCB fAny (aCons (eLc (iSqA (eSl (eVar 3) oNo (oSome (eBM isL fIndex (eVar 3) (aCons (eVar 1) aNil))))) (gNm 4) bYes (eOp (fEqA C wEl) (eOp fIx (eOp fIx (eFld fl_nodes n19 (eVar 0)) (eVar 4)) (eC (.int (Int.ofNat 0)))) (eC (.str n21))) [4]) aNil))))
set_option maxHeartbeats 0 in
theorem w33 (C : CF) (k : Nat) (X : Cx) (hw : X.w = w) (hx : X.xe = fun _ _ => False) (c : XC T C N33 (defScope (sub 33 5)) true k X) : PSs X (defBody (sub 33 5)) (rdS T.G (sh33 C)) :=
  (s_seq (c.setL rfl rfl (c.add (q_lst (a_cons (c.var (i := 2) rfl (.inl rfl) (by decide) (by decide)) a_nil rfl)) (c.mthS e20 (hM_above W) (c.var (i := 0) rfl (.inr (.inl rfl)) (by decide) (by decide)) (a_cons (c.var (i := 2) rfl (.inl rfl) (by decide) (by decide)) a_nil rfl) rfl rfl rfl)) rfl)
  (s_one (s_ret (c.cb (c.kx (r := rAny) (cr_any c.cal)) s_any W.fr_any boot_any rfl (a_cons (c.lc (own := [("here", 4)]) (c.SqA (c.sl (c.var (i := 3) rfl (.inl rfl) (by decide) (by decide)) o_no (o_some (c.bm (r := rIndex) PySem.F.plainAttrs_list PySem.F.slot_list_index PySem.F.type_list_index mt_index s_index (c.var (i := 3) rfl (.inl rfl) (by decide) (by decide)) (a_cons (c.var (i := 1) rfl (.inl rfl) (by decide) (by decide)) a_nil rfl) rfl rfl rfl rfl rfl)))) (by decide +kernel) (fun X1 c1 => (c1.nmL (vs := [4]) rfl rfl (by decide))) (fun X1 c1 => ts_nil) (fun X1 c1 => (c1.eq (wE W) (c1.ix (c1.ix (c1.fldS e19 (fW_nodes W) (c1.var (i := 0) rfl (.inr (.inl rfl)) (by decide) (by decide)) rfl) (c1.var (i := 4) rfl (.inl rfl) (by decide) (by decide)) (fun _ _ => rfl)) k_int (fun _ _ => rfl)) (k_strS e21))) (fun _ => rfl)) a_nil rfl) (by decide) (by decide) rfl rfl))))
def N34 : List Str := ["self", "node", "other"]
def sh34 (C : CF) : DS := (sDrop (eMth C ml_go n24 (eVar 0) (aCons (eLc (iSqA (eMth C ml_below n22 (eVar 0) (aCons (eVar 1) aNil))) (gNm 2) (bVal (eMth C ml_has_only n23 (eVar 0) (aCons (eVar 1) (aCons (eVar 2) aNil)))) (eVar 2) [2]) aNil)))
set_option maxHeartbeats 0 in
theorem w34 (C : CF) (k : Nat) (X : Cx) (hw : X.w = w) (hx : X.xe = fun _ _ => False) (c : XC T C N34 (defScope (sub 33 6)) true k X) : PSs X (defBody (sub 33 6)) (rdS T.G (sh34 C)) :=
  (s_one (s_drop (c.mthS e24 (hM_go W) (c.var (i := 0) rfl (.inr (.inl rfl)) (by decide) (by decide)) (a_cons (c.lc (own := [("other", 2)]) (c.SqA (c.mthS e22 (hM_below W) (c.var (i := 0) rfl (.inr (.inl rfl)) (by decide) (by decide)) (a_cons (c.var (i := 1) rfl (.inr (.inl rfl)) (by decide) (by decide)) a_nil rfl) rfl rfl rfl)) (by decide +kernel) (fun X1 c1 => (c1.nmL (vs := [2]) rfl rfl (by decide))) (fun X1 c1 => (ts_one (t_val (c1.mthS e23 (hM_has_only W) (c1.var (i := 0) rfl (.inr (.inl rfl)) (by decide) (by decide)) (a_cons (c1.var (i := 1) rfl (.inr (.inl rfl)) (by decide) (by decide)) (a_cons (c1.var (i := 2) rfl (.inl rfl) (by decide) (by decide)) a_nil rfl) rfl) rfl rfl rfl) (fun _ => rfl)))) (fun X1 c1 => (c1.var (i := 2) rfl (.inl rfl) (by decide) (by decide))) (fun _ => rfl)) a_nil rfl) rfl rfl rfl) rfl))
def N35 : List Str := ["self", "node"]
def sh35 (C : CF) : DS := (sDrop (eMth C ml_go n24 (eVar 0) (aCons (eMth C ml_below n22 (eVar 0) (aCons (eVar 1) aNil)) aNil)))
set_option maxHeartbeats 0 in
theorem w35 (C : CF) (k : Nat) (X : Cx) (hw : X.w = w) (hx : X.xe = fun _ _ => False) (c : XC T C N35 (defScope (sub 33 7)) true k X) : PSs X (defBody (sub 33 7)) (rdS T.G (sh35 C)) :=
  (s_one (s_drop (c.mthS e24 (hM_go W) (c.var (i := 0) rfl (.inl rfl) (by decide) (by decide)) (a_cons (c.mthS e22 (hM_below W) (c.var (i := 0) rfl (.inl rfl) (by decide) (by decide)) (a_cons (c.var (i := 1) rfl (.inl rfl) (by decide) (by decide)) a_nil rfl) rfl rfl rfl) a_nil rfl) rfl rfl rfl) rfl))
def N36 : List Str := ["self", "node"]
def sh36 (C : CF) : DS := (sIf (bAnd (bVal (eOp (fNeA C wEl) (eVar 1) (eNeg (eC (.int (Int.ofNat 1)))))) (bVal (eOp (fNeA C wEl) (eOp fIx (eOp fIx (eFld fl_nodes n19 (eVar 0)) (eVar 1)) (eC (.int (Int.ofNat 0)))) (eC (.str n25))))) (sDrop (eMth C ml_go n24 (eVar 0) (aCons (eOp fAdd (eLst (aCons (eVar 1) aNil)) (eMth C ml_below n22 (eVar 0) (aCons (eVar 1) aNil))) aNil))) sNop)
set_option maxHeartbeats 0 in
theorem w36 (C : CF) (k : Nat) (X : Cx) (hw : X.w = w) (hx : X.xe = fun _ _ => False) (c : XC T C N36 (defScope (sub 33 8)) true k X) : PSs X (defBody (sub 33 8)) (rdS T.G (sh36 C)) :=
  (s_one (s_if (PW.pt (w_and (c.tne (wE W) (c.var (i := 1) rfl (.inl rfl) (by decide) (by decide)) (k_neg k_int)) (w_and1 (c.tne (wE W) (c.ix (c.ix (c.fldS e19 (fW_nodes W) (c.var (i := 0) rfl (.inl rfl) (by decide) (by decide)) rfl) (c.var (i := 1) rfl (.inl rfl) (by decide) (by decide)) (fun _ _ => rfl)) k_int (fun _ _ => rfl)) (k_strS e25))))) (s_one (s_drop (c.mthS e24 (hM_go W) (c.var (i := 0) rfl (.inl rfl) (by decide) (by decide)) (a_cons (c.add (q_lst (a_cons (c.var (i := 1) rfl (.inl rfl) (by decide) (by decide)) a_nil rfl)) (c.mthS e22 (hM_below W) (c.var (i := 0) rfl (.inl rfl) (by decide) (by decide)) (a_cons (c.var (i := 1) rfl (.inl rfl) (by decide) (by decide)) a_nil rfl) rfl rfl rfl)) a_nil rfl) rfl rfl rfl) rfl)) s_nil))
def N37 : List Str := ["self", "node", "writes"]
def sh37 (C : CF) : DS := (sSeq (sIf (bVal (eOp (fEqA C wEl) (eVar 1) (eNeg (eC (.int (Int.ofNat 1)))))) (sRet (eC (.str n26))) sNop)
  (sSeq (sIf (bNot (bVal (eOp fIx (eOp fIx (eFld fl_nodes n19 (eVar 0)) (eVar 1)) (eC (.int (Int.ofNat 2)))))) (sRet (eC (.str n27))) sNop)
  (sRet (eIf (bAnd (bVal (eVar 2)) (bVal (eOp (fEqA C wEl) (eOp fIx (eOp fIx (eFld fl_nodes n19 (eVar 0)) (eVar 1)) (eC (.int (Int.ofNat 0)))) (eC (.str n25))))) (eC (.str n25)) (eC .non)))))
set_option maxHeartbeats 0 in
theorem w37 (C : CF) (k : Nat) (X : Cx) (hw : X.w = w) (hx : X.xe = fun _ _ => False) (c : XC T C N37 (defScope (sub 33 9)) true k X) : PSs X (defBody (sub 33 9)) (rdS T.G (sh37 C)) :=
  (s_seq (s_if (c.teq (wE W) (c.var (i := 1) rfl (.inl rfl) (by decide) (by decide)) (k_neg k_int)) (s_one (s_ret (k_strS e26))) s_nil)
  (s_seq (s_if (t_not (t_val (c.ix (c.ix (c.fldS e19 (fW_nodes W) (c.var (i := 0) rfl (.inl rfl) (by decide) (by decide)) rfl) (c.var (i := 1) rfl (.inl rfl) (by decide) (by decide)) (fun _ _ => rfl)) k_int (fun _ _ => rfl)) (fun _ => rfl))) (s_one (s_ret (k_strS e27))) s_nil)
  (s_one (s_ret (q_if (PW.pt (w_and (t_val (c.var (i := 2) rfl (.inl rfl) (by decide) (by decide)) (fun _ => rfl)) (w_and1 (c.teq (wE W) (c.ix (c.ix (c.fldS e19 (fW_nodes W) (c.var (i := 0) rfl (.inl rfl) (by decide) (by decide)) rfl) (c.var (i := 1) rfl (.inl rfl) (by decide) (by decide)) (fun _ _ => rfl)) k_int (fun _ _ => rfl)) (k_strS e25))))) (k_strS e25) k_non)))))
def N38 : List Str := ["self", "book", "proc", "number"]
def sh38 (C : CF) : DS := (sSeq (sFldS fl_book n28 (eVar 0) (eVar 1))
  (sSeq (sFldS fl_flows n29 (eVar 0) (eLc (iSqA (eFld fl_procs n13 (eVar 1))) (gNm 2) bYes (eCB (C 14) (aCons (eVar 2) aNil)) [2]))
  (sSeq (sFldS fl_variables n0 (eVar 0) (eLc (iSqA (eFld fl_procs n13 (eVar 1))) (gNm 2) bYes (eCB (C 13) (aCons (eVar 2) aNil)) [2]))
  (sSeq (sFldS fl_numbers n30 (eVar 0) (eDc (iEn (aCons (eFld fl_procs n13 (eVar 1)) aNil)) (gTp 2 (gsCons (gNm 3) (gsCons (gNm 2) gsNil))) bYes (eOp fIx (eVar 2) (eC (.int (Int.ofNat 0)))) (eVar 3) [3, 2]))
  (sSeq (sFldS fl_things n31 (eVar 0) (eCB (mkI C 28 4) aNil))
  (sSeq (sFldS fl_frames n32 (eVar 0) (eLst aNil))
  (sDrop (eMth C ml_enter n34 (eVar 0) (aCons (eOp fIx (eFld fl_numbers n30 (eVar 0)) (eC (.str n33))) (aCons (eTup aNil) (aCons (eC (.str n11)) aNil)))))))))))
set_option maxHeartbeats 0 in
theorem w38 (C : CF) (k : Nat) (X : Cx) (hw : X.w = w) (hx : X.xe = fun _ _ => False) (c : XC T C N38 (defScope (sub 34 0)) true k X) : PSs X (defBody (sub 34 0)) (rdS T.G (sh38 C)) :=
  (s_seq (c.sfld e28 (fW_book W) (c.var (i := 0) rfl (.inl rfl) (by decide) (by decide)) (c.var (i := 1) rfl (.inl rfl) (by decide) (by decide)) rfl)
  (s_seq (c.sfld e29 (fW_flows W) (c.var (i := 0) rfl (.inl rfl) (by decide) (by decide)) (c.lc (own := [("proc", 2)]) (c.SqA (c.fldS e13 (fW_procs W) (c.var (i := 1) rfl (.inl rfl) (by decide) (by decide)) rfl)) (by decide +kernel) (fun X1 c1 => (c1.nmL (vs := [2]) rfl rfl (by decide))) (fun X1 c1 => ts_nil) (fun X1 c1 => (c1.call W.gf_flow_in (W.lt 14 (by decide)) rfl (a_cons (c1.var (i := 2) rfl (.inl rfl) (by decide) (by decide)) a_nil rfl) (by decide) rfl rfl)) (fun _ => rfl)) rfl)
  (s_seq (c.sfld e0 (fW_variables W) (c.var (i := 0) rfl (.inl rfl) (by decide) (by decide)) (c.lc (own := [("proc", 2)]) (c.SqA (c.fldS e13 (fW_procs W) (c.var (i := 1) rfl (.inl rfl) (by decide) (by decide)) rfl)) (by decide +kernel) (fun X1 c1 => (c1.nmL (vs := [2]) rfl rfl (by decide))) (fun X1 c1 => ts_nil) (fun X1 c1 => (c1.call W.gf_variables_in (W.lt 13 (by decide)) rfl (a_cons (c1.var (i := 2) rfl (.inl rfl) (by decide) (by decide)) a_nil rfl) (by decide) rfl rfl)) (fun _ => rfl)) rfl)
  (s_seq (c.sfld e30 (fW_numbers W) (c.var (i := 0) rfl (.inl rfl) (by decide) (by decide)) (c.dc (own := [("number", 3), ("proc", 2)]) (c.En rfl W.fr_enumerate (a_cons (c.fldS e13 (fW_procs W) (c.var (i := 1) rfl (.inl rfl) (by decide) (by decide)) rfl) a_nil rfl) rfl) (by decide +kernel) (fun X1 c1 => (c1.tp (n := 2) (gs_cons (c1.nmL (vs := [3, 2]) rfl rfl (by decide)) (gs_cons (c1.nmL (vs := [3, 2]) rfl rfl (by decide)) gs_nil rfl) rfl) rfl rfl)) (fun X1 c1 => ts_nil) (fun X1 c1 => (c1.ix (c1.var (i := 2) rfl (.inl rfl) (by decide) (by decide)) k_int (fun _ _ => rfl))) (fun X1 c1 => (c1.var (i := 3) rfl (.inl rfl) (by decide) (by decide))) (fun _ => rfl)) rfl)
  (s_seq (c.sfld e31 (fW_things W) (c.var (i := 0) rfl (.inl rfl) (by decide) (by decide)) (c.make0 (mW_Things W) rfl (by decide)) rfl)
  (s_seq (c.sfld e32 (fW_frames W) (c.var (i := 0) rfl (.inl rfl) (by decide) (by decide)) (q_lst a_nil) rfl)
  (s_one (s_drop (c.mthS e34 (hM_enter W) (c.var (i := 0) rfl (.inl rfl) (by decide) (by decide)) (a_cons (c.ix (c.fldS e30 (fW_numbers W) (c.var (i := 0) rfl (.inl rfl) (by decide) (by decide)) rfl) (k_strS e33) (fun _ _ => rfl)) (a_cons (q_tup a_nil) (a_cons (k_strS e11) a_nil rfl) rfl) rfl) rfl rfl rfl) rfl))))))))
def N39 : List Str := ["self", "number", "given", "target", "held", "name", "node"]
def sh39 (C : CF) : DS := (sSeq (sAsg (eDc (iSqA (eOp fIx (eFld fl_variables n0 (eVar 0)) (eVar 1))) (gNm 5) bYes (eVar 5) (eNeg (eC (.int (Int.ofNat 1)))) [5]) (gNm 4))
  (sSeq (sFor (iZp (aCons (eOp fIx (eOp fIx (eFld fl_procs n13 (eFld fl_book n28 (eVar 0))) (eVar 1)) (eC (.int (Int.ofNat 1)))) (aCons (eVar 2) aNil))) (gTp 2 (gsCons (gNm 5) (gsCons (gNm 6) gsNil))) (sSub (eVar 6) (eVar 4) (eVar 5)))
  (sDrop (eBM isL fAppend (eFld fl_frames n32 (eVar 0)) (aCons (eDic [((eC (.str n16)), (eVar 1)), ((eC (.str n37)), (eC (.int (Int.ofNat 0)))), ((eC (.str n36)), (eVar 4)), ((eC (.str n35)), (eVar 3))]) aNil)))))
set_option maxHeartbeats 0 in
theorem w39 (C : CF) (k : Nat) (X : Cx) (hw : X.w = w) (hx : X.xe = fun _ _ => False) (c : XC T C N39 (defScope (sub 34 1)) true k X) : PSs X (defBody (sub 34 1)) (rdS T.G (sh39 C)) :=
  (s_seq (c.setDc (i := 4) rfl rfl rfl rfl rfl (own := [("name", 5)]) (c.SqA (c.ix (c.fldS e0 (fW_variables W) (c.var (i := 0) rfl (.inl rfl) (by decide) (by decide)) rfl) (c.var (i := 1) rfl (.inl rfl) (by decide) (by decide)) (fun _ _ => rfl))) (by decide +kernel) (fun X1 c1 => (c1.nmL (vs := [5]) rfl rfl (by decide))) (fun X1 c1 => ts_nil) (fun X1 c1 => (c1.var (i := 5) rfl (.inl rfl) (by decide) (by decide))) (fun X1 c1 => (k_neg k_int)) (fun _ => rfl))
  (s_seq (s_for c.own c.cal (c.Zp rfl W.fr_zip (a_cons (c.ix (c.ix (c.fldS e13 (fW_procs W) (c.fldS e28 (fW_book W) (c.var (i := 0) rfl (.inl rfl) (by decide) (by decide)) rfl) rfl) (c.var (i := 1) rfl (.inl rfl) (by decide) (by decide)) (fun _ _ => rfl)) k_int (fun _ _ => rfl)) (a_cons (c.var (i := 2) rfl (.inl rfl) (by decide) (by decide)) a_nil rfl) rfl) rfl rfl) (c.tp (n := 2) (gs_cons (c.nmL (vs := [5, 6]) rfl rfl (by decide)) (gs_cons (c.nmL (vs := [5, 6]) rfl rfl (by decide)) gs_nil rfl) rfl) rfl rfl) (s_one (s_sub1 c.u1 (c.var (i := 6) rfl (.inl rfl) (by decide) (by decide)) (c.var (i := 4) rfl (.inl rfl) (by decide) (by decide)) (c.var (i := 5) rfl (.inl rfl) (by decide) (by decide)) (fun _ => rfl) rfl rfl rfl)) (fun _ => rfl))
  (s_one (s_drop (c.bm (r := fun _ => rAppend) PySem.F.plainAttrs_list PySem.F.slot_list_append PySem.F.type_list_append mt_append s_append (c.fldS e32 (fW_frames W) (c.var (i := 0) rfl (.inl rfl) (by decide) (by decide)) rfl) (a_cons (q_dic (pp_cons (k_strS e16) (c.var (i := 1) rfl (.inl rfl) (by decide) (by decide)) (pp_cons (k_strS e37) k_int (pp_cons (k_strS e36) (c.var (i := 4) rfl (.inl rfl) (by decide) (by decide)) (pp_cons (k_strS e35) (c.var (i := 3) rfl (.inl rfl) (by decide) (by decide)) pp_nil)))) rfl rfl (by simp) (by decide) rfl) a_nil rfl) rfl rfl rfl rfl rfl) rfl))))
def N40 : List Str := ["self", "frames", "frame", "held", "name"]
def sh40 (C : CF) : DS := (sSeq (sAsg (eLst aNil) (gNm 1))
  (sSeq (sFor (iSqA (eFld fl_frames n32 (eVar 0))) (gNm 2) (sSeq (sAsg (eCB fTupleA (aCons (eLc (iSqA (eOp fIx (eFld fl_variables n0 (eVar 0)) (eOp fIx (eVar 2) (eC (.str n16))))) (gNm 4) bYes (eOp fIx (eOp fIx (eVar 2) (eC (.str n36))) (eVar 4)) [4]) aNil)) (gNm 3))
  (sDrop (eBM isL fAppend (eVar 1) (aCons (eTup (aCons (eOp fIx (eVar 2) (eC (.str n16))) (aCons (eOp fIx (eVar 2) (eC (.str n37))) (aCons (eVar 3) (aCons (eOp fIx (eVar 2) (eC (.str n35))) aNil))))) aNil)))))
  (sRet (eTup (aCons (eCB fTupleA (aCons (eVar 1) aNil)) (aCons (eCB fTupleA (aCons (eFld fl_nodes n19 (eFld fl_things n31 (eVar 0))) aNil)) aNil))))))
set_option maxHeartbeats 0 in
theorem w40 (C : CF) (k : Nat) (X : Cx) (hw : X.w = w) (hx : X.xe = fun _ _ => False) (c : XC T C N40 (defScope (sub 34 2)) true k X) : PSs X (defBody (sub 34 2)) (rdS T.G (sh40 C)) :=
  (s_seq (c.setL rfl rfl (q_lst a_nil) rfl)
  (s_seq (s_for c.own c.cal (c.SqA (c.fldS e32 (fW_frames W) (c.var (i := 0) rfl (.inl rfl) (by decide) (by decide)) rfl)) (c.nmC (vs := [2]) rfl rfl rfl (by decide)) (s_seq (c.setL rfl rfl (c.ct (c.kx (r := rTupleAD) (c_tupleA c.cal)) s_tupleA W.fr_tuple boot_tuple rfl (a_cons (c.lc (own := [("name", 4)]) (c.SqA (c.ix (c.fldS e0 (fW_variables W) (c.var (i := 0) rfl (.inl rfl) (by decide) (by decide)) rfl) (c.ix (c.var (i := 2) rfl (.inr (.inl rfl)) (by decide) (by decide)) (k_strS e16) (fun _ _ => rfl)) (fun _ _ => rfl))) (by decide +kernel) (fun X1 c1 => (c1.nmL (vs := [4]) rfl rfl (by decide))) (fun X1 c1 => ts_nil) (fun X1 c1 => (c1.ix (c1.ix (c1.var (i := 2) rfl (.inr (.inl rfl)) (by decide) (by decide)) (k_strS e36) (fun _ _ => rfl)) (c1.var (i := 4) rfl (.inl rfl) (by decide) (by decide)) (fun _ _ => rfl))) (fun _ => rfl)) a_nil rfl) (by decide) (by decide) rfl rfl) rfl)
  (s_one (s_drop (c.bm (r := fun _ => rAppend) PySem.F.plainAttrs_list PySem.F.slot_list_append PySem.F.type_list_append mt_append s_append (c.var (i := 1) rfl (.inl rfl) (by decide) (by decide)) (a_cons (q_tup (a_cons (c.ix (c.var (i := 2) rfl (.inr (.inl rfl)) (by decide) (by decide)) (k_strS e16) (fun _ _ => rfl)) (a_cons (c.ix (c.var (i := 2) rfl (.inr (.inl rfl)) (by decide) (by decide)) (k_strS e37) (fun _ _ => rfl)) (a_cons (c.var (i := 3) rfl (.inl rfl) (by decide) (by decide)) (a_cons (c.ix (c.var (i := 2) rfl (.inr (.inl rfl)) (by decide) (by decide)) (k_strS e35) (fun _ _ => rfl)) a_nil rfl) rfl) rfl) rfl)) a_nil rfl) rfl rfl rfl rfl rfl) rfl))) (fun _ => rfl))
  (s_one (s_ret (q_tup (a_cons (c.ct (c.kx (r := rTupleAD) (c_tupleA c.cal)) s_tupleA W.fr_tuple boot_tuple rfl (a_cons (c.var (i := 1) rfl (.inl rfl) (by decide) (by decide)) a_nil rfl) (by decide) (by decide) rfl rfl) (a_cons (c.ct (c.kx (r := rTupleAD) (c_tupleA c.cal)) s_tupleA W.fr_tuple boot_tuple rfl (a_cons (c.fldS e19 (fW_nodes W) (c.fldS e31 (fW_things W) (c.var (i := 0) rfl (.inl rfl) (by decide) (by decide)) rfl) rfl) a_nil rfl) (by decide) (by decide) rfl rfl) a_nil rfl) rfl))))))
def N41 : List Str := ["self", "frame", "flow", "row"]
def sh41 (C : CF) : DS := (sSeq (sAsg (eOp fIx (eFld fl_frames n32 (eVar 0)) (eNeg (eC (.int (Int.ofNat 1))))) (gNm 1))
  (sSeq (sAsg (eOp fIx (eFld fl_flows n29 (eVar 0)) (eOp fIx (eVar 1) (eC (.str n16)))) (gNm 2))
  (sRet (eLc (iRg1 (aCons (eCB fLen (aCons (eVar 2) aNil)) aNil)) (gNm 3) (bVal (eOp (fEqA C wEl) (eOp fIx (eOp fIx (eVar 2) (eVar 3)) (eC (.int (Int.ofNat 1)))) (eOp fIx (eVar 1) (eC (.str n37))))) (eVar 3) [3]))))
set_option maxHeartbeats 0 in
theorem w41 (C : CF) (k : Nat) (X : Cx) (hw : X.w = w) (hx : X.xe = fun _ _ => False) (c : XC T C N41 (defScope (sub 34 3)) true k X) : PSs X (defBody (sub 34 3)) (rdS T.G (sh41 C)) :=
  (s_seq (c.setC rfl rfl rfl (c.ix (c.fldS e32 (fW_frames W) (c.var (i := 0) rfl (.inl rfl) (by decide) (by decide)) rfl) (k_neg k_int) (fun _ _ => rfl)) rfl)
  (s_seq (c.setC rfl rfl rfl (c.ix (c.fldS e29 (fW_flows W) (c.var (i := 0) rfl (.inl rfl) (by decide) (by decide)) rfl) (c.ix (c.var (i := 1) rfl (.inr (.inl rfl)) (by decide) (by decide)) (k_strS e16) (fun _ _ => rfl)) (fun _ _ => rfl)) rfl)
  (s_one (s_ret (c.lc (own := [("row", 3)]) (i_rg1 (c.gl rfl) (c.mgn W.fr_range) (a_cons (c.cb (c.kx (r := rLenA) c_len) s_len W.fr_len PySem.boot_len rfl (a_cons (c.var (i := 2) rfl (.inr (.inl rfl)) (by decide) (by decide)) a_nil rfl) (by decide) (by decide) rfl rfl) a_nil rfl) rfl) (by decide +kernel) (fun X1 c1 => (c1.nmL (vs := [3]) rfl rfl (by decide))) (fun X1 c1 => (ts_one (c1.teq (wE W) (c1.ix (c1.ix (c1.var (i := 2) rfl (.inr (.inl rfl)) (by decide) (by decide)) (c1.var (i := 3) rfl (.inl rfl) (by decide) (by decide)) (fun _ _ => rfl)) k_int (fun _ _ => rfl)) (c1.ix (c1.var (i := 1) rfl (.inr (.inl rfl)) (by decide) (by decide)) (k_strS e37) (fun _ _ => rfl))))) (fun X1 c1 => (c1.var (i := 3) rfl (.inl rfl) (by decide) (by decide))) (fun _ => rfl))))))
def N42 : List Str := ["self", "frame", "name", "node", "old"]
def sh42 (C : CF) : DS := (sSeq (sAsg (eOp fIx (eOp fIx (eVar 1) (eC (.str n36))) (eVar 2)) (gNm 4))
  (sSeq (sSub (eNeg (eC (.int (Int.ofNat 1)))) (eOp fIx (eVar 1) (eC (.str n36))) (eVar 2))
  (sSeq (sDrop (eMth C ml_let_go n38 (eFld fl_things n31 (eVar 0)) (aCons (eVar 4) aNil)))
  (sSub (eVar 3) (eOp fIx (eVar 1) (eC (.str n36))) (eVar 2)))))
set_option maxHeartbeats 0 in
theorem w42 (C : CF) (k : Nat) (X : Cx) (hw : X.w = w) (hx : X.xe = fun _ _ => False) (c : XC T C N42 (defScope (sub 34 4)) true k X) : PSs X (defBody (sub 34 4)) (rdS T.G (sh42 C)) :=
  (s_seq (c.setL rfl rfl (c.ix (c.ix (c.var (i := 1) rfl (.inl rfl) (by decide) (by decide)) (k_strS e36) (fun _ _ => rfl)) (c.var (i := 2) rfl (.inl rfl) (by decide) (by decide)) (fun _ _ => rfl)) rfl)
  (s_seq (s_sub1 c.u1 (k_neg k_int) (c.ix (c.var (i := 1) rfl (.inl rfl) (by decide) (by decide)) (k_strS e36) (fun _ _ => rfl)) (c.var (i := 2) rfl (.inl rfl) (by decide) (by decide)) (fun _ => rfl) rfl rfl rfl)
  (s_seq (s_drop (c.mthS e38 (hM_let_go W) (c.fldS e31 (fW_things W) (c.var (i := 0) rfl (.inl rfl) (by decide) (by decide)) rfl) (a_cons (c.var (i := 4) rfl (.inl rfl) (by decide) (by decide)) a_nil rfl) rfl rfl rfl) rfl)
  (s_one (s_sub1 c.u1 (c.var (i := 3) rfl (.inl rfl) (by decide) (by decide)) (c.ix (c.var (i := 1) rfl (.inl rfl) (by decide) (by decide)) (k_strS e36) (fun _ _ => rfl)) (c.var (i := 2) rfl (.inl rfl) (by decide) (by decide)) (fun _ => rfl) rfl rfl rfl)))))
def N43 : List Str := ["self", "frame", "name", "node"]
def sh43 (C : CF) : DS := (sSeq (sAsg (eOp fIx (eOp fIx (eVar 1) (eC (.str n36))) (eVar 2)) (gNm 3))
  (sSeq (sIf (bVal (eOp (fNeA C wEl) (eOp fIx (eOp fIx (eFld fl_nodes n19 (eFld fl_things n31 (eVar 0))) (eVar 3)) (eC (.int (Int.ofNat 0)))) (eC (.str n25)))) (sSub (eNeg (eC (.int (Int.ofNat 1)))) (eOp fIx (eVar 1) (eC (.str n36))) (eVar 2)) sNop)
  (sRet (eVar 3))))
set_option maxHeartbeats 0 in
theorem w43 (C : CF) (k : Nat) (X : Cx) (hw : X.w = w) (hx : X.xe = fun _ _ => False) (c : XC T C N43 (defScope (sub 34 5)) true k X) : PSs X (defBody (sub 34 5)) (rdS T.G (sh43 C)) :=
  (s_seq (c.setL rfl rfl (c.ix (c.ix (c.var (i := 1) rfl (.inl rfl) (by decide) (by decide)) (k_strS e36) (fun _ _ => rfl)) (c.var (i := 2) rfl (.inl rfl) (by decide) (by decide)) (fun _ _ => rfl)) rfl)
  (s_seq (s_if (c.tne (wE W) (c.ix (c.ix (c.fldS e19 (fW_nodes W) (c.fldS e31 (fW_things W) (c.var (i := 0) rfl (.inl rfl) (by decide) (by decide)) rfl) rfl) (c.var (i := 3) rfl (.inl rfl) (by decide) (by decide)) (fun _ _ => rfl)) k_int (fun _ _ => rfl)) (k_strS e25)) (s_one (s_sub1 c.u1 (k_neg k_int) (c.ix (c.var (i := 1) rfl (.inl rfl) (by decide) (by decide)) (k_strS e36) (fun _ _ => rfl)) (c.var (i := 2) rfl (.inl rfl) (by decide) (by decide)) (fun _ => rfl) rfl rfl rfl)) s_nil)
  (s_one (s_ret (c.var (i := 3) rfl (.inl rfl) (by decide) (by decide))))))
def N44 : List Str := ["self", "row", "frame", "act", "_", "last", "wrong"]
def sh44 (C : CF) : DS := (sSeq (sAsg (eOp fIx (eFld fl_frames n32 (eVar 0)) (eNeg (eC (.int (Int.ofNat 1))))) (gNm 2))
  (sSeq (sAsg (eOp fIx (eOp fIx (eFld fl_flows n29 (eVar 0)) (eOp fIx (eVar 2) (eC (.str n16)))) (eVar 1)) (gTp 3 (gsCons (gNm 3) (gsCons (gNm 4) (gsCons (gNm 5) gsNil)))))
  (sSeq (sIf (bVal (eOp (fEqA C wEl) (eOp fIx (eVar 3) (eC (.int (Int.ofNat 0)))) (eC (.str n5)))) (sSeq (sDrop (eMth C ml_left n39 (eVar 0) (aCons (eVar 3) aNil)))
  (sRet (eC .non))) sNop)
  (sSeq (sIf (bVal (eOp (fEqA C wEl) (eOp fIx (eVar 3) (eC (.int (Int.ofNat 0)))) (eC (.str n10)))) (sRet (eMth C ml_called n40 (eVar 0) (aCons (eVar 2) (aCons (eVar 3) (aCons (eVar 5) aNil))))) sNop)
  (sSeq (sAsg (eMth C ml_acted n41 (eVar 0) (aCons (eVar 2) (aCons (eVar 3) aNil))) (gNm 6))
  (sSeq (sIf (bVal (eOp fIs (eVar 6) (eC .non))) (sSub (eVar 5) (eVar 2) (eC (.str n37))) sNop)
  (sRet (eVar 6))))))))
set_option maxHeartbeats 0 in
theorem w44 (C : CF) (k : Nat) (X : Cx) (hw : X.w = w) (hx : X.xe = fun _ _ => False) (c : XC T C N44 (defScope (sub 34 6)) true k X) : PSs X (defBody (sub 34 6)) (rdS T.G (sh44 C)) :=
  (s_seq (c.setL rfl rfl (c.ix (c.fldS e32 (fW_frames W) (c.var (i := 0) rfl (.inl rfl) (by decide) (by decide)) rfl) (k_neg k_int) (fun _ _ => rfl)) rfl)
  (s_seq (s_asg (c.ix (c.ix (c.fldS e29 (fW_flows W) (c.var (i := 0) rfl (.inl rfl) (by decide) (by decide)) rfl) (c.ix (c.var (i := 2) rfl (.inl rfl) (by decide) (by decide)) (k_strS e16) (fun _ _ => rfl)) (fun _ _ => rfl)) (c.var (i := 1) rfl (.inl rfl) (by decide) (by decide)) (fun _ _ => rfl)) (c.tp (n := 3) (gs_cons (c.nmL (vs := [3, 4, 5]) rfl rfl (by decide)) (gs_cons (c.nmL (vs := [3, 4, 5]) rfl rfl (by decide)) (gs_cons (c.nmL (vs := [3, 4, 5]) rfl rfl (by decide)) gs_nil rfl) rfl) rfl) rfl rfl) rfl rfl rfl)
  (s_seq (s_if (c.teq (wE W) (c.ix (c.var (i := 3) rfl (.inl rfl) (by decide) (by decide)) k_int (fun _ _ => rfl)) (k_strS e5)) (s_seq (s_drop (c.mthS e39 (hM_left W) (c.var (i := 0) rfl (.inl rfl) (by decide) (by decide)) (a_cons (c.var (i := 3) rfl (.inl rfl) (by decide) (by decide)) a_nil rfl) rfl rfl rfl) rfl)
  (s_one (s_ret k_non))) s_nil)
  (s_seq (s_if (c.teq (wE W) (c.ix (c.var (i := 3) rfl (.inl rfl) (by decide) (by decide)) k_int (fun _ _ => rfl)) (k_strS e10)) (s_one (s_ret (c.mthS e40 (hM_called W) (c.var (i := 0) rfl (.inl rfl) (by decide) (by decide)) (a_cons (c.var (i := 2) rfl (.inl rfl) (by decide) (by decide)) (a_cons (c.var (i := 3) rfl (.inl rfl) (by decide) (by decide)) (a_cons (c.var (i := 5) rfl (.inl rfl) (by decide) (by decide)) a_nil rfl) rfl) rfl) rfl rfl rfl))) s_nil)
  (s_seq (c.setL rfl rfl (c.mthS e41 (hM_acted W) (c.var (i := 0) rfl (.inl rfl) (by decide) (by decide)) (a_cons (c.var (i := 2) rfl (.inl rfl) (by decide) (by decide)) (a_cons (c.var (i := 3) rfl (.inl rfl) (by decide) (by decide)) a_nil rfl) rfl) rfl rfl rfl) rfl)
  (s_seq (s_if (c.tis (c.var (i := 6) rfl (.inl rfl) (by decide) (by decide)) k_non) (s_one (s_sub1 c.u1 (c.var (i := 5) rfl (.inl rfl) (by decide) (by decide)) (c.var (i := 2) rfl (.inl rfl) (by decide) (by decide)) (k_strS e37) (fun _ => rfl) rfl rfl rfl)) s_nil)
  (s_one (s_ret (c.var (i := 6) rfl (.inl rfl) (by decide) (by decide))))))))))
def N45 : List Str := ["self", "frame", "act", "sort", "node", "wrong"]
def sh45 (C : CF) : DS := (sSeq (sAsg (eOp fIx (eVar 2) (eC (.int (Int.ofNat 0)))) (gNm 3))
  (sSeq (sIf (bVal (eOp (fEqA C wEl) (eVar 3) (eC (.str n42)))) (sRet (eC .non)) sNop)
  (sSeq (sIf (bVal (eOp (fEqA C wEl) (eVar 3) (eC (.str n43)))) (sSeq (sDrop (eMth C ml_put n46 (eVar 0) (aCons (eVar 1) (aCons (eOp fIx (eVar 2) (eC (.int (Int.ofNat 1)))) (aCons (eMth C ml_made n45 (eFld fl_things n31 (eVar 0)) (aCons (eC (.str n44)) (aCons (eNeg (eC (.int (Int.ofNat 1)))) aNil))) aNil)))))
  (sRet (eC .non))) sNop)
  (sSeq (sAsg (eOp fIx (eOp fIx (eVar 1) (eC (.str n36))) (eOp fIx (eVar 2) (eNeg (eC (.int (Int.ofNat 1)))))) (gNm 4))
  (sSeq (sAsg (eMth C ml_wrong n48 (eFld fl_things n31 (eVar 0)) (aCons (eVar 4) (aCons (eOp fIn (eVar 3) (eTup (aCons (eC (.str n47)) (aCons (eC (.str n21)) aNil)))) aNil))) (gNm 5))
  (sSeq (sIf (bVal (eOp fIs (eVar 5) (eC .non))) (sDrop (eMth C ml_acted_on n49 (eVar 0) (aCons (eVar 1) (aCons (eVar 2) (aCons (eVar 4) aNil))))) sNop)
  (sRet (eVar 5))))))))
set_option maxHeartbeats 0 in
theorem w45 (C : CF) (k : Nat) (X : Cx) (hw : X.w = w) (hx : X.xe = fun _ _ => False) (c : XC T C N45 (defScope (sub 34 7)) true k X) : PSs X (defBody (sub 34 7)) (rdS T.G (sh45 C)) :=
  (s_seq (c.setL rfl rfl (c.ix (c.var (i := 2) rfl (.inl rfl) (by decide) (by decide)) k_int (fun _ _ => rfl)) rfl)
  (s_seq (s_if (c.teq (wE W) (c.var (i := 3) rfl (.inl rfl) (by decide) (by decide)) (k_strS e42)) (s_one (s_ret k_non)) s_nil)
  (s_seq (s_if (c.teq (wE W) (c.var (i := 3) rfl (.inl rfl) (by decide) (by decide)) (k_strS e43)) (s_seq (s_drop (c.mthS e46 (hM_put W) (c.var (i := 0) rfl (.inl rfl) (by decide) (by decide)) (a_cons (c.var (i := 1) rfl (.inl rfl) (by decide) (by decide)) (a_cons (c.ix (c.var (i := 2) rfl (.inl rfl) (by decide) (by decide)) k_int (fun _ _ => rfl)) (a_cons (c.mthS e45 (hM_made W) (c.fldS e31 (fW_things W) (c.var (i := 0) rfl (.inl rfl) (by decide) (by decide)) rfl) (a_cons (k_strS e44) (a_cons (k_neg k_int) a_nil rfl) rfl) rfl rfl rfl) a_nil rfl) rfl) rfl) rfl rfl rfl) rfl)
  (s_one (s_ret k_non))) s_nil)
  (s_seq (c.setL rfl rfl (c.ix (c.ix (c.var (i := 1) rfl (.inl rfl) (by decide) (by decide)) (k_strS e36) (fun _ _ => rfl)) (c.ix (c.var (i := 2) rfl (.inl rfl) (by decide) (by decide)) (k_neg k_int) (fun _ _ => rfl)) (fun _ _ => rfl)) rfl)
  (s_seq (c.setL rfl rfl (c.mthS e48 (hM_wrong W) (c.fldS e31 (fW_things W) (c.var (i := 0) rfl (.inl rfl) (by decide) (by decide)) rfl) (a_cons (c.var (i := 4) rfl (.inl rfl) (by decide) (by decide)) (a_cons (c.in_ (c.var (i := 3) rfl (.inl rfl) (by decide) (by decide)) (q_tup (a_cons (k_strS e47) (a_cons (k_strS e21) a_nil rfl) rfl)) rfl) a_nil rfl) rfl) rfl rfl rfl) rfl)
  (s_seq (s_if (c.tis (c.var (i := 5) rfl (.inl rfl) (by decide) (by decide)) k_non) (s_one (s_drop (c.mthS e49 (hM_acted_on W) (c.var (i := 0) rfl (.inl rfl) (by decide) (by decide)) (a_cons (c.var (i := 1) rfl (.inl rfl) (by decide) (by decide)) (a_cons (c.var (i := 2) rfl (.inl rfl) (by decide) (by decide)) (a_cons (c.var (i := 4) rfl (.inl rfl) (by decide) (by decide)) a_nil rfl) rfl) rfl) rfl rfl rfl) rfl)) s_nil)
  (s_one (s_ret (c.var (i := 5) rfl (.inl rfl) (by decide) (by decide))))))))))
def N46 : List Str := ["self", "frame", "act", "node", "sort"]
def sh46 (C : CF) : DS := (sSeq (sAsg (eOp fIx (eVar 2) (eC (.int (Int.ofNat 0)))) (gNm 4))
  (sSeq (sIf (bVal (eOp fIn (eVar 4) (eTup (aCons (eC (.str n50)) (aCons (eC (.str n25)) aNil))))) (sDrop (eMth C ml_looked_at n51 (eFld fl_things n31 (eVar 0)) (aCons (eVar 3) aNil))) sNop)
  (sSeq (sIf (bVal (eOp fIn (eVar 4) (eTup (aCons (eC (.str n47)) (aCons (eC (.str n21)) aNil))))) (sDrop (eMth C ml_changed n52 (eFld fl_things n31 (eVar 0)) (aCons (eVar 3) aNil))) sNop)
  (sSeq (sIf (bVal (eOp fIn (eVar 4) (eTup (aCons (eC (.str n25)) (aCons (eC (.str n21)) aNil))))) (sDrop (eMth C ml_put n46 (eVar 0) (aCons (eVar 1) (aCons (eOp fIx (eVar 2) (eC (.int (Int.ofNat 1)))) (aCons (eMth C ml_made n45 (eFld fl_things n31 (eVar 0)) (aCons (eVar 4) (aCons (eVar 3) aNil))) aNil))))) sNop)
  (sSeq (sIf (bVal (eOp (fEqA C wEl) (eVar 4) (eC (.str n53)))) (sDrop (eMth C ml_put n46 (eVar 0) (aCons (eVar 1) (aCons (eOp fIx (eVar 2) (eC (.int (Int.ofNat 1)))) (aCons (eMth C ml_taken n54 (eVar 0) (aCons (eVar 1) (aCons (eOp fIx (eVar 2) (eC (.int (Int.ofNat 2)))) aNil))) aNil))))) sNop)
  (sIf (bVal (eOp (fEqA C wEl) (eVar 4) (eC (.str n55)))) (sDrop (eMth C ml_put n46 (eVar 0) (aCons (eVar 1) (aCons (eOp fIx (eVar 2) (eC (.int (Int.ofNat 1)))) (aCons (eNeg (eC (.int (Int.ofNat 1)))) aNil))))) sNop))))))
set_option maxHeartbeats 0 in
theorem w46 (C : CF) (k : Nat) (X : Cx) (hw : X.w = w) (hx : X.xe = fun _ _ => False) (c : XC T C N46 (defScope (sub 34 8)) true k X) : PSs X (defBody (sub 34 8)) (rdS T.G (sh46 C)) :=
  (s_seq (c.setL rfl rfl (c.ix (c.var (i := 2) rfl (.inl rfl) (by decide) (by decide)) k_int (fun _ _ => rfl)) rfl)
  (s_seq (s_if (c.tin (c.var (i := 4) rfl (.inl rfl) (by decide) (by decide)) (q_tup (a_cons (k_strS e50) (a_cons (k_strS e25) a_nil rfl) rfl)) rfl) (s_one (s_drop (c.mthS e51 (hM_looked_at W) (c.fldS e31 (fW_things W) (c.var (i := 0) rfl (.inl rfl) (by decide) (by decide)) rfl) (a_cons (c.var (i := 3) rfl (.inl rfl) (by decide) (by decide)) a_nil rfl) rfl rfl rfl) rfl)) s_nil)
  (s_seq (s_if (c.tin (c.var (i := 4) rfl (.inl rfl) (by decide) (by decide)) (q_tup (a_cons (k_strS e47) (a_cons (k_strS e21) a_nil rfl) rfl)) rfl) (s_one (s_drop (c.mthS e52 (hM_changed W) (c.fldS e31 (fW_things W) (c.var (i := 0) rfl (.inl rfl) (by decide) (by decide)) rfl) (a_cons (c.var (i := 3) rfl (.inl rfl) (by decide) (by decide)) a_nil rfl) rfl rfl rfl) rfl)) s_nil)
  (s_seq (s_if (c.tin (c.var (i := 4) rfl (.inl rfl) (by decide) (by decide)) (q_tup (a_cons (k_strS e25) (a_cons (k_strS e21) a_nil rfl) rfl)) rfl) (s_one (s_drop (c.mthS e46 (hM_put W) (c.var (i := 0) rfl (.inl rfl) (by decide) (by decide)) (a_cons (c.var (i := 1) rfl (.inl rfl) (by decide) (by decide)) (a_cons (c.ix (c.var (i := 2) rfl (.inl rfl) (by decide) (by decide)) k_int (fun _ _ => rfl)) (a_cons (c.mthS e45 (hM_made W) (c.fldS e31 (fW_things W) (c.var (i := 0) rfl (.inl rfl) (by decide) (by decide)) rfl) (a_cons (c.var (i := 4) rfl (.inl rfl) (by decide) (by decide)) (a_cons (c.var (i := 3) rfl (.inl rfl) (by decide) (by decide)) a_nil rfl) rfl) rfl rfl rfl) a_nil rfl) rfl) rfl) rfl rfl rfl) rfl)) s_nil)
  (s_seq (s_if (c.teq (wE W) (c.var (i := 4) rfl (.inl rfl) (by decide) (by decide)) (k_strS e53)) (s_one (s_drop (c.mthS e46 (hM_put W) (c.var (i := 0) rfl (.inl rfl) (by decide) (by decide)) (a_cons (c.var (i := 1) rfl (.inl rfl) (by decide) (by decide)) (a_cons (c.ix (c.var (i := 2) rfl (.inl rfl) (by decide) (by decide)) k_int (fun _ _ => rfl)) (a_cons (c.mthS e54 (hM_taken W) (c.var (i := 0) rfl (.inl rfl) (by decide) (by decide)) (a_cons (c.var (i := 1) rfl (.inl rfl) (by decide) (by decide)) (a_cons (c.ix (c.var (i := 2) rfl (.inl rfl) (by decide) (by decide)) k_int (fun _ _ => rfl)) a_nil rfl) rfl) rfl rfl rfl) a_nil rfl) rfl) rfl) rfl rfl rfl) rfl)) s_nil)
  (s_one (s_if (c.teq (wE W) (c.var (i := 4) rfl (.inl rfl) (by decide) (by decide)) (k_strS e55)) (s_one (s_drop (c.mthS e46 (hM_put W) (c.var (i := 0) rfl (.inl rfl) (by decide) (by decide)) (a_cons (c.var (i := 1) rfl (.inl rfl) (by decide) (by decide)) (a_cons (c.ix (c.var (i := 2) rfl (.inl rfl) (by decide) (by decide)) k_int (fun _ _ => rfl)) (a_cons (k_neg k_int) a_nil rfl) rfl) rfl) rfl rfl rfl) rfl)) s_nil)))))))
def N47 : List Str := ["self", "frame", "act", "last", "held", "given", "name", "wrong"]
def sh47 (C : CF) : DS := (sSeq (sAsg (eCB fDict (aCons (eOp fIx (eVar 1) (eC (.str n36))) aNil)) (gNm 4))
  (sSeq (sAsg (eLst aNil) (gNm 5))
  (sSeq (sFor (iSqA (eOp fIx (eVar 2) (eC (.int (Int.ofNat 3))))) (gNm 6) (sSeq (sAsg (eMth C ml_wrong n48 (eFld fl_things n31 (eVar 0)) (aCons (eOp fIx (eOp fIx (eVar 1) (eC (.str n36))) (eVar 6)) (aCons (eC (.bl false)) aNil))) (gNm 7))
  (sSeq (sIf (bVal (eOp fIsN (eVar 7) (eC .non))) (sSeq (sSub (eVar 4) (eVar 1) (eC (.str n36)))
  (sRet (eVar 7))) sNop)
  (sDrop (eBM isL fAppend (eVar 5) (aCons (eMth C ml_taken n54 (eVar 0) (aCons (eVar 1) (aCons (eVar 6) aNil))) aNil))))))
  (sSeq (sSub (eVar 3) (eVar 1) (eC (.str n37)))
  (sSeq (sDrop (eMth C ml_enter n34 (eVar 0) (aCons (eOp fIx (eFld fl_numbers n30 (eVar 0)) (eOp fIx (eVar 2) (eC (.int (Int.ofNat 2))))) (aCons (eVar 5) (aCons (eOp fIx (eVar 2) (eC (.int (Int.ofNat 1)))) aNil)))))
  (sRet (eC .non)))))))
set_option maxHeartbeats 0 in
theorem w47 (C : CF) (k : Nat) (X : Cx) (hw : X.w = w) (hx : X.xe = fun _ _ => False) (c : XC T C N47 (defScope (sub 34 9)) true k X) : PSs X (defBody (sub 34 9)) (rdS T.G (sh47 C)) :=
  (s_seq (c.setL rfl rfl (c.ct call_dictD s_dict W.fr_dict boot_dict rfl (a_cons (c.ix (c.var (i := 1) rfl (.inl rfl) (by decide) (by decide)) (k_strS e36) (fun _ _ => rfl)) a_nil rfl) (by decide) (by decide) rfl rfl) rfl)
  (s_seq (c.setL rfl rfl (q_lst a_nil) rfl)
  (s_seq (s_for c.own c.cal (c.SqA (c.ix (c.var (i := 2) rfl (.inl rfl) (by decide) (by decide)) k_int (fun _ _ => rfl))) (c.nmL (vs := [6]) rfl rfl (by decide)) (s_seq (c.setL rfl rfl (c.mthS e48 (hM_wrong W) (c.fldS e31 (fW_things W) (c.var (i := 0) rfl (.inl rfl) (by decide) (by decide)) rfl) (a_cons (c.ix (c.ix (c.var (i := 1) rfl (.inl rfl) (by decide) (by decide)) (k_strS e36) (fun _ _ => rfl)) (c.var (i := 6) rfl (.inl rfl) (by decide) (by decide)) (fun _ _ => rfl)) (a_cons k_bl a_nil rfl) rfl) rfl rfl rfl) rfl)
  (s_seq (s_if (c.tisn (c.var (i := 7) rfl (.inl rfl) (by decide) (by decide)) k_non) (s_seq (s_sub1 c.u1 (c.var (i := 4) rfl (.inl rfl) (by decide) (by decide)) (c.var (i := 1) rfl (.inl rfl) (by decide) (by decide)) (k_strS e36) (fun _ => rfl) rfl rfl rfl)
  (s_one (s_ret (c.var (i := 7) rfl (.inl rfl) (by decide) (by decide))))) s_nil)
  (s_one (s_drop (c.bm (r := fun _ => rAppend) PySem.F.plainAttrs_list PySem.F.slot_list_append PySem.F.type_list_append mt_append s_append (c.var (i := 5) rfl (.inl rfl) (by decide) (by decide)) (a_cons (c.mthS e54 (hM_taken W) (c.var (i := 0) rfl (.inl rfl) (by decide) (by decide)) (a_cons (c.var (i := 1) rfl (.inl rfl) (by decide) (by decide)) (a_cons (c.var (i := 6) rfl (.inl rfl) (by decide) (by decide)) a_nil rfl) rfl) rfl rfl rfl) a_nil rfl) rfl rfl rfl rfl rfl) rfl)))) (fun _ => rfl))
  (s_seq (s_sub1 c.u1 (c.var (i := 3) rfl (.inl rfl) (by decide) (by decide)) (c.var (i := 1) rfl (.inl rfl) (by decide) (by decide)) (k_strS e37) (fun _ => rfl) rfl rfl rfl)
  (s_seq (s_drop (c.mthS e34 (hM_enter W) (c.var (i := 0) rfl (.inl rfl) (by decide) (by decide)) (a_cons (c.ix (c.fldS e30 (fW_numbers W) (c.var (i := 0) rfl (.inl rfl) (by decide) (by decide)) rfl) (c.ix (c.var (i := 2) rfl (.inl rfl) (by decide) (by decide)) k_int (fun _ _ => rfl)) (fun _ _ => rfl)) (a_cons (c.var (i := 5) rfl (.inl rfl) (by decide) (by decide)) (a_cons (c.ix (c.var (i := 2) rfl (.inl rfl) (by decide) (by decide)) k_int (fun _ _ => rfl)) a_nil rfl) rfl) rfl) rfl rfl rfl) rfl)
  (s_one (s_ret k_non)))))))
def N48 : List Str := ["self", "act", "frame", "name", "node"]
def sh48 (C : CF) : DS := (sSeq (sAsg (eBM isL fPop (eFld fl_frames n32 (eVar 0)) aNil) (gNm 2))
  (sSeq (sFor (iSqA (eOp fIx (eVar 1) (eC (.int (Int.ofNat 1))))) (gNm 3) (sDrop (eMth C ml_let_go n38 (eFld fl_things n31 (eVar 0)) (aCons (eOp fIx (eOp fIx (eVar 2) (eC (.str n36))) (eVar 3)) aNil))))
  (sSeq (sAsg (eIf (bVal (eOp (fNeA C wEl) (eOp fIx (eVar 1) (eC (.int (Int.ofNat 2)))) (eC (.str n11)))) (eOp fIx (eOp fIx (eVar 2) (eC (.str n36))) (eOp fIx (eVar 1) (eC (.int (Int.ofNat 2))))) (eNeg (eC (.int (Int.ofNat 1))))) (gNm 4))
  (sIf (bAnd (bVal (eOp fGt (eCB fLen (aCons (eFld fl_frames n32 (eVar 0)) aNil)) (eC (.int (Int.ofNat 0))))) (bVal (eOp (fNeA C wEl) (eOp fIx (eVar 2) (eC (.str n35))) (eC (.str n11))))) (sDrop (eMth C ml_put n46 (eVar 0) (aCons (eOp fIx (eFld fl_frames n32 (eVar 0)) (eNeg (eC (.int (Int.ofNat 1))))) (aCons (eOp fIx (eVar 2) (eC (.str n35))) (aCons (eVar 4) aNil))))) (sDrop (eMth C ml_let_go n38 (eFld fl_things n31 (eVar 0)) (aCons (eVar 4) aNil)))))))
set_option maxHeartbeats 0 in
theorem w48 (C : CF) (k : Nat) (X : Cx) (hw : X.w = w) (hx : X.xe = fun _ _ => False) (c : XC T C N48 (defScope (sub 34 10)) true k X) : PSs X (defBody (sub 34 10)) (rdS T.G (sh48 C)) :=
  (s_seq (c.setL rfl rfl (c.bm0 (r := fun _ => rPop) PySem.F.plainAttrs_list PySem.F.slot_list_pop PySem.F.type_list_pop mt_pop s_pop (c.fldS e32 (fW_frames W) (c.var (i := 0) rfl (.inl rfl) (by decide) (by decide)) rfl) rfl rfl) rfl)
  (s_seq (s_for c.own c.cal (c.SqA (c.ix (c.var (i := 1) rfl (.inl rfl) (by decide) (by decide)) k_int (fun _ _ => rfl))) (c.nmL (vs := [3]) rfl rfl (by decide)) (s_one (s_drop (c.mthS e38 (hM_let_go W) (c.fldS e31 (fW_things W) (c.var (i := 0) rfl (.inl rfl) (by decide) (by decide)) rfl) (a_cons (c.ix (c.ix (c.var (i := 2) rfl (.inl rfl) (by decide) (by decide)) (k_strS e36) (fun _ _ => rfl)) (c.var (i := 3) rfl (.inl rfl) (by decide) (by decide)) (fun _ _ => rfl)) a_nil rfl) rfl rfl rfl) rfl)) (fun _ => rfl))
  (s_seq (c.setL rfl rfl (q_if (c.tne (wE W) (c.ix (c.var (i := 1) rfl (.inl rfl) (by decide) (by decide)) k_int (fun _ _ => rfl)) (k_strS e11)) (c.ix (c.ix (c.var (i := 2) rfl (.inl rfl) (by decide) (by decide)) (k_strS e36) (fun _ _ => rfl)) (c.ix (c.var (i := 1) rfl (.inl rfl) (by decide) (by decide)) k_int (fun _ _ => rfl)) (fun _ _ => rfl)) (k_neg k_int)) rfl)
  (s_one (s_if (PW.pt (w_and (c.tgt (c.cb (c.kx (r := rLenA) c_len) s_len W.fr_len PySem.boot_len rfl (a_cons (c.fldS e32 (fW_frames W) (c.var (i := 0) rfl (.inl rfl) (by decide) (by decide)) rfl) a_nil rfl) (by decide) (by decide) rfl rfl) k_int) (w_and1 (c.tne (wE W) (c.ix (c.var (i := 2) rfl (.inl rfl) (by decide) (by decide)) (k_strS e35) (fun _ _ => rfl)) (k_strS e11))))) (s_one (s_drop (c.mthS e46 (hM_put W) (c.var (i := 0) rfl (.inl rfl) (by decide) (by decide)) (a_cons (c.ix (c.fldS e32 (fW_frames W) (c.var (i := 0) rfl (.inl rfl) (by decide) (by decide)) rfl) (k_neg k_int) (fun _ _ => rfl)) (a_cons (c.ix (c.var (i := 2) rfl (.inl rfl) (by decide) (by decide)) (k_strS e35) (fun _ _ => rfl)) (a_cons (c.var (i := 4) rfl (.inl rfl) (by decide) (by decide)) a_nil rfl) rfl) rfl) rfl rfl rfl) rfl)) (s_one (s_drop (c.mthS e38 (hM_let_go W) (c.fldS e31 (fW_things W) (c.var (i := 0) rfl (.inl rfl) (by decide) (by decide)) rfl) (a_cons (c.var (i := 4) rfl (.inl rfl) (by decide) (by decide)) a_nil rfl) rfl rfl rfl) rfl)))))))
def N49 : List Str := ["choices", "item"]
def sh49 (C : CF) : DS := (sSeq (sIf (bOr (bNot (bVal (eCB (C 1) (aCons (eVar 0) aNil)))) (bNot (bVal (eCB fAll (aCons (eLc (iSqA (eVar 0)) (gNm 1) bYes (eAnd (eCB (C 0) (aCons (eVar 1) aNil)) (eOp fGe (eVar 1) (eC (.int (Int.ofNat 0))))) [1]) aNil))))) sNo sNop)
  (sRet (eCB fTupleA (aCons (eVar 0) aNil))))
set_option maxHeartbeats 0 in
theorem w49 (C : CF) (k : Nat) (X : Cx) (hw : X.w = w) (hx : X.xe = fun _ _ => False) (c : XC T C N49 (defScope (top 35)) true k X) : PSs X (defBody (top 35)) (rdS T.G (sh49 C)) :=
  (s_seq (s_if (PW.pt (w_or (t_not (t_val (c.call W.gf_is_list (W.lt 1 (by decide)) rfl (a_cons (c.var (i := 0) rfl (.inl rfl) (by decide) (by decide)) a_nil rfl) (by decide) rfl rfl) (fun _ => rfl))) (w_or1 (t_not (t_val (c.cb (c.kx (r := rAll) (cr_all c.cal)) s_all W.fr_all boot_all rfl (a_cons (c.lc (own := [("item", 1)]) (c.SqA (c.var (i := 0) rfl (.inl rfl) (by decide) (by decide))) (by decide +kernel) (fun X1 c1 => (c1.nmL (vs := [1]) rfl rfl (by decide))) (fun X1 c1 => ts_nil) (fun X1 c1 => (q_and (c1.call W.gf_is_whole (W.lt 0 (by decide)) rfl (a_cons (c1.var (i := 1) rfl (.inl rfl) (by decide) (by decide)) a_nil rfl) (by decide) rfl rfl) (pe_one (c1.ge (c1.var (i := 1) rfl (.inl rfl) (by decide) (by decide)) k_int)))) (fun _ => rfl)) a_nil rfl) (by decide) (by decide) rfl rfl) (fun _ => rfl)))))) (s_one q_sno) s_nil)
  (s_one (s_ret (c.ct (c.kx (r := rTupleAD) (c_tupleA c.cal)) s_tupleA W.fr_tuple boot_tuple rfl (a_cons (c.var (i := 0) rfl (.inl rfl) (by decide) (by decide)) a_nil rfl) (by decide) (by decide) rfl rfl))))
def N50 : List Str := ["runner", "choices", "most", "known", "used", "acts", "ways", "row", "proc", "wrong"]
def sh50 (C : CF) : DS := (sSeq (sAsg (eCB (C 49) (aCons (eVar 1) aNil)) (gNm 3))
  (sSeq (sIf (bOr (bNot (bVal (eCB (C 0) (aCons (eVar 2) aNil)))) (bVal (eOp fLt (eVar 2) (eC (.int (Int.ofNat 0)))))) sNo sNop)
  (sSeq (sAsg (eC (.int (Int.ofNat 0))) (gNm 4))
  (sSeq (sAsg (eC (.int (Int.ofNat 0))) (gNm 5))
  (sSeq (sWhile (bVal (eOp fGt (eCB fLen (aCons (eFld fl_frames n32 (eVar 0)) aNil)) (eC (.int (Int.ofNat 0))))) (sSeq (sAsg (eMth C ml_ways n56 (eVar 0) aNil) (gNm 6))
  (sSeq (sIf (bOr (bVal (eOp (fEqA C wEl) (eVar 5) (eVar 2))) (bAnd (bVal (eOp fGt (eCB fLen (aCons (eVar 6) aNil)) (eC (.int (Int.ofNat 1))))) (bVal (eOp (fEqA C wEl) (eVar 4) (eCB fLen (aCons (eVar 3) aNil)))))) (sRet (eCB (mkI C 26 3) (aCons (eVar 5) aNil))) sNop)
  (sSeq (sAsg (eOp fIx (eVar 6) (eC (.int (Int.ofNat 0)))) (gNm 7))
  (sSeq (sIf (bVal (eOp fGt (eCB fLen (aCons (eVar 6) aNil)) (eC (.int (Int.ofNat 1))))) (sSeq (sIf (bVal (eOp fGe (eOp fIx (eVar 3) (eVar 4)) (eCB fLen (aCons (eVar 6) aNil)))) sNo sNop)
  (sSeq (sAsg (eOp fIx (eVar 6) (eOp fIx (eVar 3) (eVar 4))) (gNm 7))
  (sAugN 4 fIAdd (eC (.int (Int.ofNat 1)))))) sNop)
  (sSeq (sAsg (eOp fIx (eOp fIx (eFld fl_frames n32 (eVar 0)) (eNeg (eC (.int (Int.ofNat 1))))) (eC (.str n16))) (gNm 8))
  (sSeq (sAsg (eMth C ml_done n57 (eVar 0) (aCons (eVar 7) aNil)) (gNm 9))
  (sSeq (sIf (bVal (eOp fIsN (eVar 9) (eC .non))) (sRet (eCB (mkI C 23 2) (aCons (eVar 9) (aCons (eVar 8) (aCons (eVar 7) (aCons (eVar 5) aNil)))))) sNop)
  (sAugN 5 fIAdd (eC (.int (Int.ofNat 1))))))))))))
  (sRet (eCB (mkI C 21 1) (aCons (eVar 5) aNil))))))))
set_option maxHeartbeats 0 in
theorem w50 (C : CF) (k : Nat) (X : Cx) (hw : X.w = w) (hx : X.xe = fun _ _ => False) (c : XC T C N50 (defScope (top 36)) true k X) : PSs X (defBody (top 36)) (rdS T.G (sh50 C)) :=
  (s_seq (c.setL rfl rfl (c.call W.gf_choices_told (W.lt 49 (by decide)) rfl (a_cons (c.var (i := 1) rfl (.inl rfl) (by decide) (by decide)) a_nil rfl) (by decide) rfl rfl) rfl)
  (s_seq (s_if (PW.pt (w_or (t_not (t_val (c.call W.gf_is_whole (W.lt 0 (by decide)) rfl (a_cons (c.var (i := 2) rfl (.inl rfl) (by decide) (by decide)) a_nil rfl) (by decide) rfl rfl) (fun _ => rfl))) (w_or1 (c.tlt (c.var (i := 2) rfl (.inl rfl) (by decide) (by decide)) k_int)))) (s_one q_sno) s_nil)
  (s_seq (c.setL rfl rfl k_int rfl)
  (s_seq (c.setL rfl rfl k_int rfl)
  (s_seq (s_while c.own (c.tgt (c.cb (c.kx (r := rLenA) c_len) s_len W.fr_len PySem.boot_len rfl (a_cons (c.fldS e32 (fW_frames W) (c.var (i := 0) rfl (.inl rfl) (by decide) (by decide)) rfl) a_nil rfl) (by decide) (by decide) rfl rfl) k_int) (s_seq (c.setL rfl rfl (c.mthS0 e56 (hM_ways W) (c.var (i := 0) rfl (.inl rfl) (by decide) (by decide)) rfl) rfl)
  (s_seq (s_if (PW.pt (w_or (c.teq (wE W) (c.var (i := 5) rfl (.inl rfl) (by decide) (by decide)) (c.var (i := 2) rfl (.inl rfl) (by decide) (by decide))) (w_or1 (PW.pt (w_and (c.tgt (c.cb (c.kx (r := rLenA) c_len) s_len W.fr_len PySem.boot_len rfl (a_cons (c.var (i := 6) rfl (.inl rfl) (by decide) (by decide)) a_nil rfl) (by decide) (by decide) rfl rfl) k_int) (w_and1 (c.teq (wE W) (c.var (i := 4) rfl (.inl rfl) (by decide) (by decide)) (c.cb (c.kx (r := rLenA) c_len) s_len W.fr_len PySem.boot_len rfl (a_cons (c.var (i := 3) rfl (.inl rfl) (by decide) (by decide)) a_nil rfl) (by decide) (by decide) rfl rfl)))))))) (s_one (s_ret (c.make (mW_Open W) rfl (a_cons (c.var (i := 5) rfl (.inl rfl) (by decide) (by decide)) a_nil rfl) (by decide) rfl rfl))) s_nil)
  (s_seq (c.setL rfl rfl (c.ix (c.var (i := 6) rfl (.inl rfl) (by decide) (by decide)) k_int (fun _ _ => rfl)) rfl)
  (s_seq (s_if (c.tgt (c.cb (c.kx (r := rLenA) c_len) s_len W.fr_len PySem.boot_len rfl (a_cons (c.var (i := 6) rfl (.inl rfl) (by decide) (by decide)) a_nil rfl) (by decide) (by decide) rfl rfl) k_int) (s_seq (s_if (c.tge (c.ix (c.var (i := 3) rfl (.inl rfl) (by decide) (by decide)) (c.var (i := 4) rfl (.inl rfl) (by decide) (by decide)) (fun _ _ => rfl)) (c.cb (c.kx (r := rLenA) c_len) s_len W.fr_len PySem.boot_len rfl (a_cons (c.var (i := 6) rfl (.inl rfl) (by decide) (by decide)) a_nil rfl) (by decide) (by decide) rfl rfl)) (s_one q_sno) s_nil)
  (s_seq (c.setL rfl rfl (c.ix (c.var (i := 6) rfl (.inl rfl) (by decide) (by decide)) (c.ix (c.var (i := 3) rfl (.inl rfl) (by decide) (by decide)) (c.var (i := 4) rfl (.inl rfl) (by decide) (by decide)) (fun _ _ => rfl)) (fun _ _ => rfl)) rfl)
  (s_one (c.augL p_iadd s_iadd rfl rfl k_int)))) s_nil)
  (s_seq (c.setL rfl rfl (c.ix (c.ix (c.fldS e32 (fW_frames W) (c.var (i := 0) rfl (.inl rfl) (by decide) (by decide)) rfl) (k_neg k_int) (fun _ _ => rfl)) (k_strS e16) (fun _ _ => rfl)) rfl)
  (s_seq (c.setL rfl rfl (c.mthS e57 (hM_done W) (c.var (i := 0) rfl (.inl rfl) (by decide) (by decide)) (a_cons (c.var (i := 7) rfl (.inl rfl) (by decide) (by decide)) a_nil rfl) rfl rfl rfl) rfl)
  (s_seq (s_if (c.tisn (c.var (i := 9) rfl (.inl rfl) (by decide) (by decide)) k_non) (s_one (s_ret (c.make (mW_Fault W) rfl (a_cons (c.var (i := 9) rfl (.inl rfl) (by decide) (by decide)) (a_cons (c.var (i := 8) rfl (.inl rfl) (by decide) (by decide)) (a_cons (c.var (i := 7) rfl (.inl rfl) (by decide) (by decide)) (a_cons (c.var (i := 5) rfl (.inl rfl) (by decide) (by decide)) a_nil rfl) rfl) rfl) rfl) (by decide) rfl rfl))) s_nil)
  (s_one (c.augL p_iadd s_iadd rfl rfl k_int))))))))))
  (s_one (s_ret (c.make (mW_Over W) rfl (a_cons (c.var (i := 5) rfl (.inl rfl) (by decide) (by decide)) a_nil rfl) (by decide) rfl rfl))))))))
def N51 : List Str := ["book", "choices", "most"]
def sh51 (C : CF) : DS := (sRet (eCB (C 50) (aCons (eCB (mkI C 38 5) (aCons (eVar 0) aNil)) (aCons (eVar 1) (aCons (eVar 2) aNil)))))
set_option maxHeartbeats 0 in
theorem w51 (C : CF) (k : Nat) (X : Cx) (hw : X.w = w) (hx : X.xe = fun _ _ => False) (c : XC T C N51 (defScope (top 37)) true k X) : PSs X (defBody (top 37)) (rdS T.G (sh51 C)) :=
  (s_one (s_ret (c.call W.gf_walked (W.lt 50 (by decide)) rfl (a_cons (c.make (mW_Runner W) rfl (a_cons (c.var (i := 0) rfl (.inl rfl) (by decide) (by decide)) a_nil rfl) (by decide) rfl rfl) (a_cons (c.var (i := 1) rfl (.inl rfl) (by decide) (by decide)) (a_cons (c.var (i := 2) rfl (.inl rfl) (by decide) (by decide)) a_nil rfl) rfl) rfl) (by decide) rfl rfl)))
def N52 : List Str := ["book", "choices", "most", "runner"]
def sh52 (C : CF) : DS := (sSeq (sAsg (eCB (mkI C 38 5) (aCons (eVar 0) aNil)) (gNm 3))
  (sSeq (sDrop (eCB (C 50) (aCons (eVar 3) (aCons (eVar 1) (aCons (eVar 2) aNil)))))
  (sRet (eMth C ml_state n58 (eVar 3) aNil))))
set_option maxHeartbeats 0 in
theorem w52 (C : CF) (k : Nat) (X : Cx) (hw : X.w = w) (hx : X.xe = fun _ _ => False) (c : XC T C N52 (defScope (top 38)) true k X) : PSs X (defBody (top 38)) (rdS T.G (sh52 C)) :=
  (s_seq (c.setL rfl rfl (c.make (mW_Runner W) rfl (a_cons (c.var (i := 0) rfl (.inl rfl) (by decide) (by decide)) a_nil rfl) (by decide) rfl rfl) rfl)
  (s_seq (s_drop (c.call W.gf_walked (W.lt 50 (by decide)) rfl (a_cons (c.var (i := 3) rfl (.inl rfl) (by decide) (by decide)) (a_cons (c.var (i := 1) rfl (.inl rfl) (by decide) (by decide)) (a_cons (c.var (i := 2) rfl (.inl rfl) (by decide) (by decide)) a_nil rfl) rfl) rfl) (by decide) rfl rfl) rfl)
  (s_one (s_ret (c.mthS0 e58 (hM_state W) (c.var (i := 3) rfl (.inl rfl) (by decide) (by decide)) rfl)))))
def N53 : List Str := ["body", "statement"]
def sh53 (C : CF) : DS := (sRet (eCB fTupleA (aCons (eLc (iSqA (eVar 0)) (gNm 1) bYes (eCB (C 54) (aCons (eVar 1) aNil)) [1]) aNil)))
set_option maxHeartbeats 0 in
theorem w53 (C : CF) (k : Nat) (X : Cx) (hw : X.w = w) (hx : X.xe = fun _ _ => False) (c : XC T C N53 (defScope (top 46)) true k X) : PSs X (defBody (top 46)) (rdS T.G (sh53 C)) :=
  (s_one (s_ret (c.ct (c.kx (r := rTupleAD) (c_tupleA c.cal)) s_tupleA W.fr_tuple boot_tuple rfl (a_cons (c.lc (own := [("statement", 1)]) (c.SqA (c.var (i := 0) rfl (.inl rfl) (by decide) (by decide))) (by decide +kernel) (fun X1 c1 => (c1.nmL (vs := [1]) rfl rfl (by decide))) (fun X1 c1 => ts_nil) (fun X1 c1 => (c1.call W.gf_bare_statement (W.lt 54 (by decide)) rfl (a_cons (c1.var (i := 1) rfl (.inl rfl) (by decide) (by decide)) a_nil rfl) (by decide) rfl rfl)) (fun _ => rfl)) a_nil rfl) (by decide) (by decide) rfl rfl)))
def N54 : List Str := ["statement", "sort", "held", "body", "name"]
def sh54 (C : CF) : DS := (sSeq (sAsg (eOp fIx (eVar 0) (eC (.int (Int.ofNat 0)))) (gNm 1))
  (sSeq (sIf (bVal (eOp fIn (eVar 1) (eTup (aCons (eC (.str n7)) (aCons (eC (.str n9)) aNil))))) (sRet (eOp fAdd (eTup (aCons (eVar 1) aNil)) (eCB fTupleA (aCons (eLc (iSqA (eSl (eVar 0) (oSome (eC (.int (Int.ofNat 2)))) oNo)) (gNm 3) bYes (eCB (C 53) (aCons (eVar 3) aNil)) [3]) aNil)))) sNop)
  (sSeq (sIf (bVal (eOp (fEqA C wEl) (eVar 1) (eC (.str n10)))) (sSeq (sAsg (eIf (bVal (eOp fIsN (eOp fIx (eVar 0) (eC (.int (Int.ofNat 2)))) (eC .non))) (eOp fIx (eOp fIx (eVar 0) (eC (.int (Int.ofNat 2)))) (eC (.int (Int.ofNat 0)))) (eC (.str n11))) (gNm 2))
  (sRet (eTup (aCons (eVar 1) (aCons (eVar 2) (aCons (eOp fIx (eOp fIx (eVar 0) (eC (.int (Int.ofNat 3)))) (eC (.int (Int.ofNat 0)))) (aCons (eCB fTupleA (aCons (eLc (iSqA (eOp fIx (eVar 0) (eC (.int (Int.ofNat 4))))) (gNm 4) bYes (eOp fIx (eVar 4) (eC (.int (Int.ofNat 0)))) [4]) aNil)) aNil))))))) sNop)
  (sRet (eOp fAdd (eTup (aCons (eVar 1) aNil)) (eCB fTupleA (aCons (eLc (iSqA (eSl (eVar 0) (oSome (eC (.int (Int.ofNat 2)))) oNo)) (gNm 4) bYes (eOp fIx (eVar 4) (eC (.int (Int.ofNat 0)))) [4]) aNil)))))))
set_option maxHeartbeats 0 in
theorem w54 (C : CF) (k : Nat) (X : Cx) (hw : X.w = w) (hx : X.xe = fun _ _ => False) (c : XC T C N54 (defScope (top 47)) true k X) : PSs X (defBody (top 47)) (rdS T.G (sh54 C)) :=
  (s_seq (c.setL rfl rfl (c.ix (c.var (i := 0) rfl (.inl rfl) (by decide) (by decide)) k_int (fun _ _ => rfl)) rfl)
  (s_seq (s_if (c.tin (c.var (i := 1) rfl (.inl rfl) (by decide) (by decide)) (q_tup (a_cons (k_strS e7) (a_cons (k_strS e9) a_nil rfl) rfl)) rfl) (s_one (s_ret (c.add (q_tup (a_cons (c.var (i := 1) rfl (.inl rfl) (by decide) (by decide)) a_nil rfl)) (c.ct (c.kx (r := rTupleAD) (c_tupleA c.cal)) s_tupleA W.fr_tuple boot_tuple rfl (a_cons (c.lc (own := [("body", 3)]) (c.SqA (c.sl (c.var (i := 0) rfl (.inl rfl) (by decide) (by decide)) (o_some k_int) o_no)) (by decide +kernel) (fun X1 c1 => (c1.nmL (vs := [3]) rfl rfl (by decide))) (fun X1 c1 => ts_nil) (fun X1 c1 => (c1.call W.gf_bare_body (W.lt 53 (by decide)) rfl (a_cons (c1.var (i := 3) rfl (.inl rfl) (by decide) (by decide)) a_nil rfl) (by decide) rfl rfl)) (fun _ => rfl)) a_nil rfl) (by decide) (by decide) rfl rfl)))) s_nil)
  (s_seq (s_if (c.teq (wE W) (c.var (i := 1) rfl (.inl rfl) (by decide) (by decide)) (k_strS e10)) (s_seq (c.setL rfl rfl (q_if (c.tisn (c.ix (c.var (i := 0) rfl (.inl rfl) (by decide) (by decide)) k_int (fun _ _ => rfl)) k_non) (c.ix (c.ix (c.var (i := 0) rfl (.inl rfl) (by decide) (by decide)) k_int (fun _ _ => rfl)) k_int (fun _ _ => rfl)) (k_strS e11)) rfl)
  (s_one (s_ret (q_tup (a_cons (c.var (i := 1) rfl (.inl rfl) (by decide) (by decide)) (a_cons (c.var (i := 2) rfl (.inl rfl) (by decide) (by decide)) (a_cons (c.ix (c.ix (c.var (i := 0) rfl (.inl rfl) (by decide) (by decide)) k_int (fun _ _ => rfl)) k_int (fun _ _ => rfl)) (a_cons (c.ct (c.kx (r := rTupleAD) (c_tupleA c.cal)) s_tupleA W.fr_tuple boot_tuple rfl (a_cons (c.lc (own := [("name", 4)]) (c.SqA (c.ix (c.var (i := 0) rfl (.inl rfl) (by decide) (by decide)) k_int (fun _ _ => rfl))) (by decide +kernel) (fun X1 c1 => (c1.nmL (vs := [4]) rfl rfl (by decide))) (fun X1 c1 => ts_nil) (fun X1 c1 => (c1.ix (c1.var (i := 4) rfl (.inl rfl) (by decide) (by decide)) k_int (fun _ _ => rfl))) (fun _ => rfl)) a_nil rfl) (by decide) (by decide) rfl rfl) a_nil rfl) rfl) rfl) rfl))))) s_nil)
  (s_one (s_ret (c.add (q_tup (a_cons (c.var (i := 1) rfl (.inl rfl) (by decide) (by decide)) a_nil rfl)) (c.ct (c.kx (r := rTupleAD) (c_tupleA c.cal)) s_tupleA W.fr_tuple boot_tuple rfl (a_cons (c.lc (own := [("name", 4)]) (c.SqA (c.sl (c.var (i := 0) rfl (.inl rfl) (by decide) (by decide)) (o_some k_int) o_no)) (by decide +kernel) (fun X1 c1 => (c1.nmL (vs := [4]) rfl rfl (by decide))) (fun X1 c1 => ts_nil) (fun X1 c1 => (c1.ix (c1.var (i := 4) rfl (.inl rfl) (by decide) (by decide)) k_int (fun _ _ => rfl))) (fun _ => rfl)) a_nil rfl) (by decide) (by decide) rfl rfl)))))))
def N55 : List Str := ["proc", "name", "params", "body", "give", "param"]
def sh55 (C : CF) : DS := (sSeq (sAsg (eVar 0) (gTp 4 (gsCons (gNm 1) (gsCons (gNm 2) (gsCons (gNm 3) (gsCons (gNm 4) gsNil))))))
  (sRet (eTup (aCons (eOp fIx (eVar 1) (eC (.int (Int.ofNat 0)))) (aCons (eCB fTupleA (aCons (eLc (iSqA (eVar 2)) (gNm 5) bYes (eOp fIx (eVar 5) (eC (.int (Int.ofNat 0)))) [5]) aNil)) (aCons (eCB (C 53) (aCons (eVar 3) aNil)) (aCons (eIf (bVal (eOp fIsN (eVar 4) (eC .non))) (eOp fIx (eVar 4) (eC (.int (Int.ofNat 0)))) (eC (.str n11))) aNil)))))))
set_option maxHeartbeats 0 in
theorem w55 (C : CF) (k : Nat) (X : Cx) (hw : X.w = w) (hx : X.xe = fun _ _ => False) (c : XC T C N55 (defScope (top 48)) true k X) : PSs X (defBody (top 48)) (rdS T.G (sh55 C)) :=
  (s_seq (s_asg (c.var (i := 0) rfl (.inl rfl) (by decide) (by decide)) (c.tp (n := 4) (gs_cons (c.nmL (vs := [1, 2, 3, 4]) rfl rfl (by decide)) (gs_cons (c.nmL (vs := [1, 2, 3, 4]) rfl rfl (by decide)) (gs_cons (c.nmL (vs := [1, 2, 3, 4]) rfl rfl (by decide)) (gs_cons (c.nmL (vs := [1, 2, 3, 4]) rfl rfl (by decide)) gs_nil rfl) rfl) rfl) rfl) rfl rfl) rfl rfl rfl)
  (s_one (s_ret (q_tup (a_cons (c.ix (c.var (i := 1) rfl (.inl rfl) (by decide) (by decide)) k_int (fun _ _ => rfl)) (a_cons (c.ct (c.kx (r := rTupleAD) (c_tupleA c.cal)) s_tupleA W.fr_tuple boot_tuple rfl (a_cons (c.lc (own := [("param", 5)]) (c.SqA (c.var (i := 2) rfl (.inl rfl) (by decide) (by decide))) (by decide +kernel) (fun X1 c1 => (c1.nmL (vs := [5]) rfl rfl (by decide))) (fun X1 c1 => ts_nil) (fun X1 c1 => (c1.ix (c1.var (i := 5) rfl (.inl rfl) (by decide) (by decide)) k_int (fun _ _ => rfl))) (fun _ => rfl)) a_nil rfl) (by decide) (by decide) rfl rfl) (a_cons (c.call W.gf_bare_body (W.lt 53 (by decide)) rfl (a_cons (c.var (i := 3) rfl (.inl rfl) (by decide) (by decide)) a_nil rfl) (by decide) rfl rfl) (a_cons (q_if (c.tisn (c.var (i := 4) rfl (.inl rfl) (by decide) (by decide)) k_non) (c.ix (c.var (i := 4) rfl (.inl rfl) (by decide) (by decide)) k_int (fun _ _ => rfl)) (k_strS e11)) a_nil rfl) rfl) rfl) rfl)))))
def N56 : List Str := ["self", "procs"]
def sh56 (C : CF) : DS := (sSeq (sFldS fl_procs n13 (eVar 0) (eVar 1))
  (sSeq (sFldS fl_known n59 (eVar 0) (eDic []))
  (sFldS fl_many n60 (eVar 0) (eC (.int (Int.ofNat 0))))))
set_option maxHeartbeats 0 in
theorem w56 (C : CF) (k : Nat) (X : Cx) (hw : X.w = w) (hx : X.xe = fun _ _ => False) (c : XC T C N56 (defScope (sub 49 0)) true k X) : PSs X (defBody (sub 49 0)) (rdS T.G (sh56 C)) :=
  (s_seq (c.sfld e13 (fW_procs W) (c.var (i := 0) rfl (.inl rfl) (by decide) (by decide)) (c.var (i := 1) rfl (.inl rfl) (by decide) (by decide)) rfl)
  (s_seq (c.sfld e59 (fW_known W) (c.var (i := 0) rfl (.inl rfl) (by decide) (by decide)) q_dic0 rfl)
  (s_one (c.sfld e60 (fW_many W) (c.var (i := 0) rfl (.inl rfl) (by decide) (by decide)) k_int rfl))))
def N57 : List Str := ["self", "name"]
def sh57 (C : CF) : DS := (sIf (bVal (eOp fNotIn (eOp fIx (eVar 1) (eC (.int (Int.ofNat 0)))) (eFld fl_known n59 (eVar 0)))) (sSeq (sIf (bVal (eOp (fEqA C wEl) (eCB fLen (aCons (eFld fl_known n59 (eVar 0)) aNil)) (eC k_MOST_NAMES))) sNo sNop)
  (sSub (eC (.bl true)) (eFld fl_known n59 (eVar 0)) (eOp fIx (eVar 1) (eC (.int (Int.ofNat 0)))))) sNop)
set_option maxHeartbeats 0 in
theorem w57 (C : CF) (k : Nat) (X : Cx) (hw : X.w = w) (hx : X.xe = fun _ _ => False) (c : XC T C N57 (defScope (sub 49 1)) true k X) : PSs X (defBody (sub 49 1)) (rdS T.G (sh57 C)) :=
  (s_one (s_if (c.tnin (c.ix (c.var (i := 1) rfl (.inl rfl) (by decide) (by decide)) k_int (fun _ _ => rfl)) (c.fldS e59 (fW_known W) (c.var (i := 0) rfl (.inl rfl) (by decide) (by decide)) rfl) rfl) (s_seq (s_if (c.teq (wE W) (c.cb (c.kx (r := rLenA) c_len) s_len W.fr_len PySem.boot_len rfl (a_cons (c.fldS e59 (fW_known W) (c.var (i := 0) rfl (.inl rfl) (by decide) (by decide)) rfl) a_nil rfl) (by decide) (by decide) rfl rfl) (c.glob W.gk_MOST_NAMES rfl (by decide))) (s_one q_sno) s_nil)
  (s_one (s_sub1 c.u1 k_bl (c.fldS e59 (fW_known W) (c.var (i := 0) rfl (.inl rfl) (by decide) (by decide)) rfl) (c.ix (c.var (i := 1) rfl (.inl rfl) (by decide) (by decide)) k_int (fun _ _ => rfl)) (fun _ => rfl) rfl rfl rfl))) s_nil))
def N58 : List Str := ["self", "params", "param"]
def sh58 (C : CF) : DS := (sFor (iSqA (eVar 1)) (gNm 2) (sSeq (sIf (bVal (eOp fIn (eOp fIx (eVar 2) (eC (.int (Int.ofNat 0)))) (eFld fl_known n59 (eVar 0)))) sNo sNop)
  (sDrop (eMth C ml_variable n61 (eVar 0) (aCons (eVar 2) aNil)))))
set_option maxHeartbeats 0 in
theorem w58 (C : CF) (k : Nat) (X : Cx) (hw : X.w = w) (hx : X.xe = fun _ _ => False) (c : XC T C N58 (defScope (sub 49 2)) true k X) : PSs X (defBody (sub 49 2)) (rdS T.G (sh58 C)) :=
  (s_one (s_for c.own c.cal (c.SqA (c.var (i := 1) rfl (.inl rfl) (by decide) (by decide))) (c.nmL (vs := [2]) rfl rfl (by decide)) (s_seq (s_if (c.tin (c.ix (c.var (i := 2) rfl (.inl rfl) (by decide) (by decide)) k_int (fun _ _ => rfl)) (c.fldS e59 (fW_known W) (c.var (i := 0) rfl (.inl rfl) (by decide) (by decide)) rfl) rfl) (s_one q_sno) s_nil)
  (s_one (s_drop (c.mthS e61 (hM_variable W) (c.var (i := 0) rfl (.inl rfl) (by decide) (by decide)) (a_cons (c.var (i := 2) rfl (.inl rfl) (by decide) (by decide)) a_nil rfl) rfl rfl rfl) rfl))) (fun _ => rfl)))
def N59 : List Str := ["self", "body", "statement"]
def sh59 (C : CF) : DS := (sFor (iSqA (eVar 1)) (gNm 2) (sSeq (sIf (bVal (eOp (fEqA C wEl) (eFld fl_many n60 (eVar 0)) (eC k_MOST_STATEMENTS))) sNo sNop)
  (sSeq (sFldAg fl_many n60 Int.add (eVar 0) (eC (.int (Int.ofNat 1))))
  (sDrop (eMth C ml_statement n4 (eVar 0) (aCons (eVar 2) aNil))))))
set_option maxHeartbeats 0 in
theorem w59 (C : CF) (k : Nat) (X : Cx) (hw : X.w = w) (hx : X.xe = fun _ _ => False) (c : XC T C N59 (defScope (sub 49 3)) true k X) : PSs X (defBody (sub 49 3)) (rdS T.G (sh59 C)) :=
  (s_one (s_for c.own c.cal (c.SqA (c.var (i := 1) rfl (.inl rfl) (by decide) (by decide))) (c.nmL (vs := [2]) rfl rfl (by decide)) (s_seq (s_if (c.teq (wE W) (c.fldS e60 (fW_many W) (c.var (i := 0) rfl (.inl rfl) (by decide) (by decide)) rfl) (c.glob W.gk_MOST_STATEMENTS rfl (by decide))) (s_one q_sno) s_nil)
  (s_seq (c.sfldA e60 (fW_many W) (c.var (i := 0) rfl (.inl rfl) (by decide) (by decide)) k_int)
  (s_one (s_drop (c.mthS e4 (hM_statement W) (c.var (i := 0) rfl (.inl rfl) (by decide) (by decide)) (a_cons (c.var (i := 2) rfl (.inl rfl) (by decide) (by decide)) a_nil rfl) rfl rfl rfl) rfl)))) (fun _ => rfl)))
def N60 : List Str := ["self", "statement", "sort", "body", "name"]
def sh60 (C : CF) : DS := (sSeq (sAsg (eOp fIx (eVar 1) (eC (.int (Int.ofNat 0)))) (gNm 2))
  (sIf (bVal (eOp fIn (eVar 2) (eTup (aCons (eC (.str n7)) (aCons (eC (.str n9)) aNil))))) (sFor (iSqA (eSl (eVar 1) (oSome (eC (.int (Int.ofNat 2)))) oNo)) (gNm 3) (sDrop (eMth C ml_body n8 (eVar 0) (aCons (eVar 3) aNil)))) (sIf (bVal (eOp (fEqA C wEl) (eVar 2) (eC (.str n10)))) (sDrop (eMth C ml_call n10 (eVar 0) (aCons (eVar 1) aNil))) (sSeq (sDrop (eMth C ml_variable n61 (eVar 0) (aCons (eOp fIx (eVar 1) (eC (.int (Int.ofNat 2)))) aNil)))
  (sSeq (sIf (bAnd (bVal (eOp fIn (eVar 2) (eC k_OF_TWO))) (bVal (eOp (fEqA C wEl) (eOp fIx (eOp fIx (eVar 1) (eC (.int (Int.ofNat 3)))) (eC (.int (Int.ofNat 0)))) (eOp fIx (eOp fIx (eVar 1) (eC (.int (Int.ofNat 2)))) (eC (.int (Int.ofNat 0))))))) sNo sNop)
  (sFor (iSqA (eSl (eVar 1) (oSome (eC (.int (Int.ofNat 3)))) oNo)) (gNm 4) (sDrop (eMth C ml_variable n61 (eVar 0) (aCons (eVar 4) aNil)))))))))
set_option maxHeartbeats 0 in
theorem w60 (C : CF) (k : Nat) (X : Cx) (hw : X.w = w) (hx : X.xe = fun _ _ => False) (c : XC T C N60 (defScope (sub 49 4)) true k X) : PSs X (defBody (sub 49 4)) (rdS T.G (sh60 C)) :=
  (s_seq (c.setL rfl rfl (c.ix (c.var (i := 1) rfl (.inl rfl) (by decide) (by decide)) k_int (fun _ _ => rfl)) rfl)
  (s_one (s_if (c.tin (c.var (i := 2) rfl (.inl rfl) (by decide) (by decide)) (q_tup (a_cons (k_strS e7) (a_cons (k_strS e9) a_nil rfl) rfl)) rfl) (s_one (s_for c.own c.cal (c.SqA (c.sl (c.var (i := 1) rfl (.inl rfl) (by decide) (by decide)) (o_some k_int) o_no)) (c.nmL (vs := [3]) rfl rfl (by decide)) (s_one (s_drop (c.mthS e8 (hM_body W) (c.var (i := 0) rfl (.inl rfl) (by decide) (by decide)) (a_cons (c.var (i := 3) rfl (.inl rfl) (by decide) (by decide)) a_nil rfl) rfl rfl rfl) rfl)) (fun _ => rfl))) (s_one (s_if (c.teq (wE W) (c.var (i := 2) rfl (.inl rfl) (by decide) (by decide)) (k_strS e10)) (s_one (s_drop (c.mthS e10 (hM_call W) (c.var (i := 0) rfl (.inl rfl) (by decide) (by decide)) (a_cons (c.var (i := 1) rfl (.inl rfl) (by decide) (by decide)) a_nil rfl) rfl rfl rfl) rfl)) (s_seq (s_drop (c.mthS e61 (hM_variable W) (c.var (i := 0) rfl (.inl rfl) (by decide) (by decide)) (a_cons (c.ix (c.var (i := 1) rfl (.inl rfl) (by decide) (by decide)) k_int (fun _ _ => rfl)) a_nil rfl) rfl rfl rfl) rfl)
  (s_seq (s_if (PW.pt (w_and (c.tin (c.var (i := 2) rfl (.inl rfl) (by decide) (by decide)) (c.glob W.gk_OF_TWO rfl (by decide)) rfl) (w_and1 (c.teq (wE W) (c.ix (c.ix (c.var (i := 1) rfl (.inl rfl) (by decide) (by decide)) k_int (fun _ _ => rfl)) k_int (fun _ _ => rfl)) (c.ix (c.ix (c.var (i := 1) rfl (.inl rfl) (by decide) (by decide)) k_int (fun _ _ => rfl)) k_int (fun _ _ => rfl)))))) (s_one q_sno) s_nil)
  (s_one (s_for c.own c.cal (c.SqA (c.sl (c.var (i := 1) rfl (.inl rfl) (by decide) (by decide)) (o_some k_int) o_no)) (c.nmL (vs := [4]) rfl rfl (by decide)) (s_one (s_drop (c.mthS e61 (hM_variable W) (c.var (i := 0) rfl (.inl rfl) (by decide) (by decide)) (a_cons (c.var (i := 4) rfl (.inl rfl) (by decide) (by decide)) a_nil rfl) rfl rfl rfl) rfl)) (fun _ => rfl))))))))))
def N61 : List Str := ["self", "statement", "_", "held", "name", "given", "count", "gives", "one"]
def sh61 (C : CF) : DS := (sSeq (sAsg (eVar 1) (gTp 5 (gsCons (gNm 2) (gsCons (gNm 2) (gsCons (gNm 3) (gsCons (gNm 4) (gsCons (gNm 5) gsNil)))))))
  (sSeq (sIf (bVal (eOp fIsN (eVar 3) (eC .non))) (sDrop (eMth C ml_variable n61 (eVar 0) (aCons (eVar 3) aNil))) sNop)
  (sSeq (sIf (bVal (eOp fNotIn (eOp fIx (eVar 4) (eC (.int (Int.ofNat 0)))) (eFld fl_procs n13 (eVar 0)))) sNo sNop)
  (sSeq (sAsg (eOp fIx (eFld fl_procs n13 (eVar 0)) (eOp fIx (eVar 4) (eC (.int (Int.ofNat 0))))) (gTp 2 (gsCons (gNm 6) (gsCons (gNm 7) gsNil))))
  (sSeq (sIf (bVal (eOp (fNeA C wEl) (eVar 6) (eCB fLen (aCons (eVar 5) aNil)))) sNo sNop)
  (sSeq (sIf (bAnd (bVal (eOp fIsN (eVar 3) (eC .non))) (bNot (bVal (eVar 7)))) sNo sNop)
  (sFor (iSqA (eVar 5)) (gNm 8) (sDrop (eMth C ml_variable n61 (eVar 0) (aCons (eVar 8) aNil))))))))))
set_option maxHeartbeats 0 in
theorem w61 (C : CF) (k : Nat) (X : Cx) (hw : X.w = w) (hx : X.xe = fun _ _ => False) (c : XC T C N61 (defScope (sub 49 5)) true k X) : PSs X (defBody (sub 49 5)) (rdS T.G (sh61 C)) :=
  (s_seq (s_asg (c.var (i := 1) rfl (.inl rfl) (by decide) (by decide)) (c.tp (n := 5) (gs_cons (c.nmL (vs := [2, 3, 4, 5]) rfl rfl (by decide)) (gs_cons (c.nmL (vs := [2, 3, 4, 5]) rfl rfl (by decide)) (gs_cons (c.nmL (vs := [2, 3, 4, 5]) rfl rfl (by decide)) (gs_cons (c.nmL (vs := [2, 3, 4, 5]) rfl rfl (by decide)) (gs_cons (c.nmL (vs := [2, 3, 4, 5]) rfl rfl (by decide)) gs_nil rfl) rfl) rfl) rfl) rfl) rfl rfl) rfl rfl rfl)
  (s_seq (s_if (c.tisn (c.var (i := 3) rfl (.inl rfl) (by decide) (by decide)) k_non) (s_one (s_drop (c.mthS e61 (hM_variable W) (c.var (i := 0) rfl (.inl rfl) (by decide) (by decide)) (a_cons (c.var (i := 3) rfl (.inl rfl) (by decide) (by decide)) a_nil rfl) rfl rfl rfl) rfl)) s_nil)
  (s_seq (s_if (c.tnin (c.ix (c.var (i := 4) rfl (.inl rfl) (by decide) (by decide)) k_int (fun _ _ => rfl)) (c.fldS e13 (fW_procs W) (c.var (i := 0) rfl (.inl rfl) (by decide) (by decide)) rfl) rfl) (s_one q_sno) s_nil)
  (s_seq (s_asg (c.ix (c.fldS e13 (fW_procs W) (c.var (i := 0) rfl (.inl rfl) (by decide) (by decide)) rfl) (c.ix (c.var (i := 4) rfl (.inl rfl) (by decide) (by decide)) k_int (fun _ _ => rfl)) (fun _ _ => rfl)) (c.tp (n := 2) (gs_cons (c.nmL (vs := [6, 7]) rfl rfl (by decide)) (gs_cons (c.nmL (vs := [6, 7]) rfl rfl (by decide)) gs_nil rfl) rfl) rfl rfl) rfl rfl rfl)
  (s_seq (s_if (c.tne (wE W) (c.var (i := 6) rfl (.inl rfl) (by decide) (by decide)) (c.cb (c.kx (r := rLenA) c_len) s_len W.fr_len PySem.boot_len rfl (a_cons (c.var (i := 5) rfl (.inl rfl) (by decide) (by decide)) a_nil rfl) (by decide) (by decide) rfl rfl)) (s_one q_sno) s_nil)
  (s_seq (s_if (PW.pt (w_and (c.tisn (c.var (i := 3) rfl (.inl rfl) (by decide) (by decide)) k_non) (w_and1 (t_not (t_val (c.var (i := 7) rfl (.inl rfl) (by decide) (by decide)) (fun _ => rfl)))))) (s_one q_sno) s_nil)
  (s_one (s_for c.own c.cal (c.SqA (c.var (i := 5) rfl (.inl rfl) (by decide) (by decide))) (c.nmL (vs := [8]) rfl rfl (by decide)) (s_one (s_drop (c.mthS e61 (hM_variable W) (c.var (i := 0) rfl (.inl rfl) (by decide) (by decide)) (a_cons (c.var (i := 8) rfl (.inl rfl) (by decide) (by decide)) a_nil rfl) rfl rfl rfl) rfl)) (fun _ => rfl)))))))))
def N62 : List Str := ["procs", "proc", "_", "params", "body", "give", "inside"]
def sh62 (C : CF) : DS := (sSeq (sAsg (eVar 1) (gTp 4 (gsCons (gNm 2) (gsCons (gNm 3) (gsCons (gNm 4) (gsCons (gNm 5) gsNil))))))
  (sSeq (sAsg (eCB (mkI C 56 6) (aCons (eVar 0) aNil)) (gNm 6))
  (sSeq (sDrop (eMth C ml_params n62 (eVar 6) (aCons (eVar 3) aNil)))
  (sSeq (sDrop (eMth C ml_body n8 (eVar 6) (aCons (eVar 4) aNil)))
  (sIf (bVal (eOp fIsN (eVar 5) (eC .non))) (sDrop (eMth C ml_variable n61 (eVar 6) (aCons (eVar 5) aNil))) sNop)))))
set_option maxHeartbeats 0 in
theorem w62 (C : CF) (k : Nat) (X : Cx) (hw : X.w = w) (hx : X.xe = fun _ _ => False) (c : XC T C N62 (defScope (top 50)) true k X) : PSs X (defBody (top 50)) (rdS T.G (sh62 C)) :=
  (s_seq (s_asg (c.var (i := 1) rfl (.inl rfl) (by decide) (by decide)) (c.tp (n := 4) (gs_cons (c.nmL (vs := [2, 3, 4, 5]) rfl rfl (by decide)) (gs_cons (c.nmL (vs := [2, 3, 4, 5]) rfl rfl (by decide)) (gs_cons (c.nmL (vs := [2, 3, 4, 5]) rfl rfl (by decide)) (gs_cons (c.nmL (vs := [2, 3, 4, 5]) rfl rfl (by decide)) gs_nil rfl) rfl) rfl) rfl) rfl rfl) rfl rfl rfl)
  (s_seq (c.setL rfl rfl (c.make (mW_Inside W) rfl (a_cons (c.var (i := 0) rfl (.inl rfl) (by decide) (by decide)) a_nil rfl) (by decide) rfl rfl) rfl)
  (s_seq (s_drop (c.mthS e62 (hM_params W) (c.var (i := 6) rfl (.inl rfl) (by decide) (by decide)) (a_cons (c.var (i := 3) rfl (.inl rfl) (by decide) (by decide)) a_nil rfl) rfl rfl rfl) rfl)
  (s_seq (s_drop (c.mthS e8 (hM_body W) (c.var (i := 6) rfl (.inl rfl) (by decide) (by decide)) (a_cons (c.var (i := 4) rfl (.inl rfl) (by decide) (by decide)) a_nil rfl) rfl rfl rfl) rfl)
  (s_one (s_if (c.tisn (c.var (i := 5) rfl (.inl rfl) (by decide) (by decide)) k_non) (s_one (s_drop (c.mthS e61 (hM_variable W) (c.var (i := 6) rfl (.inl rfl) (by decide) (by decide)) (a_cons (c.var (i := 5) rfl (.inl rfl) (by decide) (by decide)) a_nil rfl) rfl rfl rfl) rfl)) s_nil))))))
def N63 : List Str := ["proc"]
def sh63 (C : CF) : DS := (sRet (eTup (aCons (eCB fLen (aCons (eOp fIx (eVar 0) (eC (.int (Int.ofNat 1)))) aNil)) (aCons (eOp fIsN (eOp fIx (eVar 0) (eC (.int (Int.ofNat 3)))) (eC .non)) aNil))))
set_option maxHeartbeats 0 in
theorem w63 (C : CF) (k : Nat) (X : Cx) (hw : X.w = w) (hx : X.xe = fun _ _ => False) (c : XC T C N63 (defScope (top 51)) true k X) : PSs X (defBody (top 51)) (rdS T.G (sh63 C)) :=
  (s_one (s_ret (q_tup (a_cons (c.cb (c.kx (r := rLenA) c_len) s_len W.fr_len PySem.boot_len rfl (a_cons (c.ix (c.var (i := 0) rfl (.inl rfl) (by decide) (by decide)) k_int (fun _ _ => rfl)) a_nil rfl) (by decide) (by decide) rfl rfl) (a_cons (c.isn (c.ix (c.var (i := 0) rfl (.inl rfl) (by decide) (by decide)) k_int (fun _ _ => rfl)) k_non) a_nil rfl) rfl))))
def N64 : List Str := ["procs", "end", "known", "proc"]
def sh64 (C : CF) : DS := (sSeq (sAsg (eDic []) (gNm 2))
  (sSeq (sFor (iSqA (eVar 0)) (gNm 3) (sSeq (sIf (bVal (eOp fIn (eOp fIx (eOp fIx (eVar 3) (eC (.int (Int.ofNat 0)))) (eC (.int (Int.ofNat 0)))) (eVar 2))) sNo sNop)
  (sSeq (sIf (bVal (eOp (fEqA C wEl) (eCB fLen (aCons (eVar 2) aNil)) (eC k_MOST_PROCS))) sNo sNop)
  (sSub (eCB (C 63) (aCons (eVar 3) aNil)) (eVar 2) (eOp fIx (eOp fIx (eVar 3) (eC (.int (Int.ofNat 0)))) (eC (.int (Int.ofNat 0))))))))
  (sSeq (sIf (bVal (eOp fNotIn (eC (.str n33)) (eVar 2))) sNo sNop)
  (sSeq (sFor (iSqA (eVar 0)) (gNm 3) (sIf (bAnd (bVal (eOp (fEqA C wEl) (eOp fIx (eOp fIx (eVar 3) (eC (.int (Int.ofNat 0)))) (eC (.int (Int.ofNat 0)))) (eC (.str n33)))) (bVal (eOp fGt (eCB fLen (aCons (eOp fIx (eVar 3) (eC (.int (Int.ofNat 1)))) aNil)) (eC (.int (Int.ofNat 0)))))) sNo sNop))
  (sFor (iSqA (eVar 0)) (gNm 3) (sDrop (eCB (C 62) (aCons (eVar 2) (aCons (eVar 3) aNil)))))))))
set_option maxHeartbeats 0 in
theorem w64 (C : CF) (k : Nat) (X : Cx) (hw : X.w = w) (hx : X.xe = fun _ _ => False) (c : XC T C N64 (defScope (top 52)) true k X) : PSs X (defBody (top 52)) (rdS T.G (sh64 C)) :=
  (s_seq (c.setL rfl rfl q_dic0 rfl)
  (s_seq (s_for c.own c.cal (c.SqA (c.var (i := 0) rfl (.inl rfl) (by decide) (by decide))) (c.nmL (vs := [3]) rfl rfl (by decide)) (s_seq (s_if (c.tin (c.ix (c.ix (c.var (i := 3) rfl (.inl rfl) (by decide) (by decide)) k_int (fun _ _ => rfl)) k_int (fun _ _ => rfl)) (c.var (i := 2) rfl (.inl rfl) (by decide) (by decide)) rfl) (s_one q_sno) s_nil)
  (s_seq (s_if (c.teq (wE W) (c.cb (c.kx (r := rLenA) c_len) s_len W.fr_len PySem.boot_len rfl (a_cons (c.var (i := 2) rfl (.inl rfl) (by decide) (by decide)) a_nil rfl) (by decide) (by decide) rfl rfl) (c.glob W.gk_MOST_PROCS rfl (by decide))) (s_one q_sno) s_nil)
  (s_one (s_sub1 c.u1 (c.call W.gf_shape_of (W.lt 63 (by decide)) rfl (a_cons (c.var (i := 3) rfl (.inl rfl) (by decide) (by decide)) a_nil rfl) (by decide) rfl rfl) (c.var (i := 2) rfl (.inl rfl) (by decide) (by decide)) (c.ix (c.ix (c.var (i := 3) rfl (.inl rfl) (by decide) (by decide)) k_int (fun _ _ => rfl)) k_int (fun _ _ => rfl)) (fun _ => rfl) rfl rfl rfl)))) (fun _ => rfl))
  (s_seq (s_if (c.tnin (k_strS e33) (c.var (i := 2) rfl (.inl rfl) (by decide) (by decide)) rfl) (s_one q_sno) s_nil)
  (s_seq (s_for c.own c.cal (c.SqA (c.var (i := 0) rfl (.inl rfl) (by decide) (by decide))) (c.nmL (vs := [3]) rfl rfl (by decide)) (s_one (s_if (PW.pt (w_and (c.teq (wE W) (c.ix (c.ix (c.var (i := 3) rfl (.inl rfl) (by decide) (by decide)) k_int (fun _ _ => rfl)) k_int (fun _ _ => rfl)) (k_strS e33)) (w_and1 (c.tgt (c.cb (c.kx (r := rLenA) c_len) s_len W.fr_len PySem.boot_len rfl (a_cons (c.ix (c.var (i := 3) rfl (.inl rfl) (by decide) (by decide)) k_int (fun _ _ => rfl)) a_nil rfl) (by decide) (by decide) rfl rfl) k_int)))) (s_one q_sno) s_nil)) (fun _ => rfl))
  (s_one (s_for c.own c.cal (c.SqA (c.var (i := 0) rfl (.inl rfl) (by decide) (by decide))) (c.nmL (vs := [3]) rfl rfl (by decide)) (s_one (s_drop (c.call W.gf_proc_looked (W.lt 62 (by decide)) rfl (a_cons (c.var (i := 2) rfl (.inl rfl) (by decide) (by decide)) (a_cons (c.var (i := 3) rfl (.inl rfl) (by decide) (by decide)) a_nil rfl) rfl) (by decide) rfl rfl) rfl)) (fun _ => rfl)))))))
def N65 : List Str := ["statement", "sort", "ahead"]
def sh65 (C : CF) : DS := (sSeq (sAsg (eOp fIx (eVar 0) (eC (.int (Int.ofNat 0)))) (gNm 1))
  (sSeq (sIf (bVal (eOp (fEqA C wEl) (eVar 1) (eC (.str n9)))) (sRet (eOp fAdd (eC (.str n63)) (eCB (C 66) (aCons (eOp fIx (eVar 0) (eC (.int (Int.ofNat 1)))) aNil)))) sNop)
  (sSeq (sIf (bVal (eOp (fEqA C wEl) (eVar 1) (eC (.str n7)))) (sRet (eOp fAdd (eOp fAdd (eOp fAdd (eC (.str n64)) (eCB (C 66) (aCons (eOp fIx (eVar 0) (eC (.int (Int.ofNat 1)))) aNil))) (eC (.str n65))) (eCB (C 66) (aCons (eOp fIx (eVar 0) (eC (.int (Int.ofNat 2)))) aNil)))) sNop)
  (sSeq (sIf (bVal (eOp (fEqA C wEl) (eVar 1) (eC (.str n10)))) (sSeq (sAsg (eIf (bVal (eOp (fNeA C wEl) (eOp fIx (eVar 0) (eC (.int (Int.ofNat 1)))) (eC (.str n11)))) (eOp fAdd (eOp fIx (eVar 0) (eC (.int (Int.ofNat 1)))) (eC (.str n66))) (eC (.str n11))) (gNm 2))
  (sRet (eOp fAdd (eOp fAdd (eOp fAdd (eOp fAdd (eVar 2) (eOp fIx (eVar 0) (eC (.int (Int.ofNat 2))))) (eC (.str n67))) (eBM isS fJoin (eC (.str n68)) (aCons (eOp fIx (eVar 0) (eC (.int (Int.ofNat 3)))) aNil))) (eC (.str n69))))) sNop)
  (sSeq (sIf (bVal (eOp fIn (eVar 1) (eTup (aCons (eC (.str n50)) (aCons (eC (.str n47)) (aCons (eC (.str n55)) aNil)))))) (sRet (eOp fAdd (eOp fAdd (eOp fAdd (eVar 1) (eC (.str n70))) (eOp fIx (eVar 0) (eC (.int (Int.ofNat 1))))) (eC (.str n71)))) sNop)
  (sSeq (sIf (bVal (eOp (fEqA C wEl) (eVar 1) (eC (.str n43)))) (sRet (eOp fAdd (eOp fIx (eVar 0) (eC (.int (Int.ofNat 1)))) (eC (.str n72)))) sNop)
  (sRet (eOp fAdd (eOp fAdd (eOp fAdd (eOp fAdd (eOp fIx (eVar 0) (eC (.int (Int.ofNat 1)))) (eC (.str n66))) (eIf (bVal (eOp (fEqA C wEl) (eVar 1) (eC (.str n53)))) (eC (.str n11)) (eOp fAdd (eVar 1) (eC (.str n70))))) (eOp fIx (eVar 0) (eC (.int (Int.ofNat 2))))) (eC (.str n71))))))))))
set_option maxHeartbeats 0 in
theorem w65 (C : CF) (k : Nat) (X : Cx) (hw : X.w = w) (hx : X.xe = fun _ _ => False) (c : XC T C N65 (defScope (top 54)) true k X) : PSs X (defBody (top 54)) (rdS T.G (sh65 C)) :=
  (s_seq (c.setL rfl rfl (c.ix (c.var (i := 0) rfl (.inl rfl) (by decide) (by decide)) k_int (fun _ _ => rfl)) rfl)
  (s_seq (s_if (c.teq (wE W) (c.var (i := 1) rfl (.inl rfl) (by decide) (by decide)) (k_strS e9)) (s_one (s_ret (c.add (k_strS e63) (c.call W.gf_body_text (W.lt 66 (by decide)) rfl (a_cons (c.ix (c.var (i := 0) rfl (.inl rfl) (by decide) (by decide)) k_int (fun _ _ => rfl)) a_nil rfl) (by decide) rfl rfl)))) s_nil)
  (s_seq (s_if (c.teq (wE W) (c.var (i := 1) rfl (.inl rfl) (by decide) (by decide)) (k_strS e7)) (s_one (s_ret (c.add (c.add (c.add (k_strS e64) (c.call W.gf_body_text (W.lt 66 (by decide)) rfl (a_cons (c.ix (c.var (i := 0) rfl (.inl rfl) (by decide) (by decide)) k_int (fun _ _ => rfl)) a_nil rfl) (by decide) rfl rfl)) (k_strS e65)) (c.call W.gf_body_text (W.lt 66 (by decide)) rfl (a_cons (c.ix (c.var (i := 0) rfl (.inl rfl) (by decide) (by decide)) k_int (fun _ _ => rfl)) a_nil rfl) (by decide) rfl rfl)))) s_nil)
  (s_seq (s_if (c.teq (wE W) (c.var (i := 1) rfl (.inl rfl) (by decide) (by decide)) (k_strS e10)) (s_seq (c.setL rfl rfl (q_if (c.tne (wE W) (c.ix (c.var (i := 0) rfl (.inl rfl) (by decide) (by decide)) k_int (fun _ _ => rfl)) (k_strS e11)) (c.add (c.ix (c.var (i := 0) rfl (.inl rfl) (by decide) (by decide)) k_int (fun _ _ => rfl)) (k_strS e66)) (k_strS e11)) rfl)
  (s_one (s_ret (c.add (c.add (c.add (c.add (c.var (i := 2) rfl (.inl rfl) (by decide) (by decide)) (c.ix (c.var (i := 0) rfl (.inl rfl) (by decide) (by decide)) k_int (fun _ _ => rfl))) (k_strS e67)) (c.bm (r := rJoinA) PySem.F.plainAttrs_str PySem.F.slot_str_join PySem.F.type_str_join mt_join s_join (k_strS e68) (a_cons (c.ix (c.var (i := 0) rfl (.inl rfl) (by decide) (by decide)) k_int (fun _ _ => rfl)) a_nil rfl) rfl rfl rfl rfl rfl)) (k_strS e69))))) s_nil)
  (s_seq (s_if (c.tin (c.var (i := 1) rfl (.inl rfl) (by decide) (by decide)) (q_tup (a_cons (k_strS e50) (a_cons (k_strS e47) (a_cons (k_strS e55) a_nil rfl) rfl) rfl)) rfl) (s_one (s_ret (c.add (c.add (c.add (c.var (i := 1) rfl (.inl rfl) (by decide) (by decide)) (k_strS e70)) (c.ix (c.var (i := 0) rfl (.inl rfl) (by decide) (by decide)) k_int (fun _ _ => rfl))) (k_strS e71)))) s_nil)
  (s_seq (s_if (c.teq (wE W) (c.var (i := 1) rfl (.inl rfl) (by decide) (by decide)) (k_strS e43)) (s_one (s_ret (c.add (c.ix (c.var (i := 0) rfl (.inl rfl) (by decide) (by decide)) k_int (fun _ _ => rfl)) (k_strS e72)))) s_nil)
  (s_one (s_ret (c.add (c.add (c.add (c.add (c.ix (c.var (i := 0) rfl (.inl rfl) (by decide) (by decide)) k_int (fun _ _ => rfl)) (k_strS e66)) (q_if (c.teq (wE W) (c.var (i := 1) rfl (.inl rfl) (by decide) (by decide)) (k_strS e53)) (k_strS e11) (c.add (c.var (i := 1) rfl (.inl rfl) (by decide) (by decide)) (k_strS e70)))) (c.ix (c.var (i := 0) rfl (.inl rfl) (by decide) (by decide)) k_int (fun _ _ => rfl))) (k_strS e71))))))))))
def N66 : List Str := ["body", "statement"]
def sh66 (C : CF) : DS := (sRet (eOp fAdd (eOp fAdd (eC (.str n73)) (eBM isS fJoin (eC (.str n11)) (aCons (eLc (iSqA (eVar 0)) (gNm 1) bYes (eOp fAdd (eCB (C 65) (aCons (eVar 1) aNil)) (eC (.str n70))) [1]) aNil))) (eC (.str n74))))
set_option maxHeartbeats 0 in
theorem w66 (C : CF) (k : Nat) (X : Cx) (hw : X.w = w) (hx : X.xe = fun _ _ => False) (c : XC T C N66 (defScope (top 55)) true k X) : PSs X (defBody (top 55)) (rdS T.G (sh66 C)) :=
  (s_one (s_ret (c.add (c.add (k_strS e73) (c.bm (r := rJoinA) PySem.F.plainAttrs_str PySem.F.slot_str_join PySem.F.type_str_join mt_join s_join (k_strS e11) (a_cons (c.lc (own := [("statement", 1)]) (c.SqA (c.var (i := 0) rfl (.inl rfl) (by decide) (by decide))) (by decide +kernel) (fun X1 c1 => (c1.nmL (vs := [1]) rfl rfl (by decide))) (fun X1 c1 => ts_nil) (fun X1 c1 => (c1.add (c1.call W.gf_statement_text (W.lt 65 (by decide)) rfl (a_cons (c1.var (i := 1) rfl (.inl rfl) (by decide) (by decide)) a_nil rfl) (by decide) rfl rfl) (k_strS e70))) (fun _ => rfl)) a_nil rfl) rfl rfl rfl rfl rfl)) (k_strS e74))))
def N67 : List Str := ["proc", "name", "params", "body", "give", "words", "head", "statement", "word"]
def sh67 (C : CF) : DS := (sSeq (sAsg (eVar 0) (gTp 4 (gsCons (gNm 1) (gsCons (gNm 2) (gsCons (gNm 3) (gsCons (gNm 4) gsNil))))))
  (sSeq (sAsg (eLc (iSqA (eVar 3)) (gNm 7) bYes (eCB (C 65) (aCons (eVar 7) aNil)) [7]) (gNm 5))
  (sSeq (sIf (bVal (eOp (fNeA C wEl) (eVar 4) (eC (.str n11)))) (sDrop (eBM isL fAppend (eVar 5) (aCons (eOp fAdd (eOp fAdd (eC (.str n75)) (eVar 4)) (eC (.str n71))) aNil))) sNop)
  (sSeq (sAsg (eOp fAdd (eOp fAdd (eOp fAdd (eOp fAdd (eC (.str n76)) (eVar 1)) (eC (.str n67))) (eBM isS fJoin (eC (.str n68)) (aCons (eVar 2) aNil))) (eC (.str n77))) (gNm 6))
  (sRet (eOp fAdd (eOp fAdd (eVar 6) (eBM isS fJoin (eC (.str n11)) (aCons (eLc (iSqA (eVar 5)) (gNm 8) bYes (eOp fAdd (eVar 8) (eC (.str n70))) [8]) aNil))) (eC (.str n74))))))))
set_option maxHeartbeats 0 in
theorem w67 (C : CF) (k : Nat) (X : Cx) (hw : X.w = w) (hx : X.xe = fun _ _ => False) (c : XC T C N67 (defScope (top 56)) true k X) : PSs X (defBody (top 56)) (rdS T.G (sh67 C)) :=
  (s_seq (s_asg (c.var (i := 0) rfl (.inl rfl) (by decide) (by decide)) (c.tp (n := 4) (gs_cons (c.nmL (vs := [1, 2, 3, 4]) rfl rfl (by decide)) (gs_cons (c.nmL (vs := [1, 2, 3, 4]) rfl rfl (by decide)) (gs_cons (c.nmL (vs := [1, 2, 3, 4]) rfl rfl (by decide)) (gs_cons (c.nmL (vs := [1, 2, 3, 4]) rfl rfl (by decide)) gs_nil rfl) rfl) rfl) rfl) rfl rfl) rfl rfl rfl)
  (s_seq (c.setLc (i := 5) rfl rfl rfl rfl rfl (own := [("statement", 7)]) (c.SqA (c.var (i := 3) rfl (.inl rfl) (by decide) (by decide))) (by decide +kernel) (fun X1 c1 => (c1.nmL (vs := [7]) rfl rfl (by decide))) (fun X1 c1 => ts_nil) (fun X1 c1 => (c1.call W.gf_statement_text (W.lt 65 (by decide)) rfl (a_cons (c1.var (i := 7) rfl (.inl rfl) (by decide) (by decide)) a_nil rfl) (by decide) rfl rfl)) (fun _ => rfl))
  (s_seq (s_if (c.tne (wE W) (c.var (i := 4) rfl (.inl rfl) (by decide) (by decide)) (k_strS e11)) (s_one (s_drop (c.bm (r := fun _ => rAppend) PySem.F.plainAttrs_list PySem.F.slot_list_append PySem.F.type_list_append mt_append s_append (c.var (i := 5) rfl (.inl rfl) (by decide) (by decide)) (a_cons (c.add (c.add (k_strS e75) (c.var (i := 4) rfl (.inl rfl) (by decide) (by decide))) (k_strS e71)) a_nil rfl) rfl rfl rfl rfl rfl) rfl)) s_nil)
  (s_seq (c.setL rfl rfl (c.add (c.add (c.add (c.add (k_strS e76) (c.var (i := 1) rfl (.inl rfl) (by decide) (by decide))) (k_strS e67)) (c.bm (r := rJoinA) PySem.F.plainAttrs_str PySem.F.slot_str_join PySem.F.type_str_join mt_join s_join (k_strS e68) (a_cons (c.var (i := 2) rfl (.inl rfl) (by decide) (by decide)) a_nil rfl) rfl rfl rfl rfl rfl)) (k_strS e77)) rfl)
  (s_one (s_ret (c.add (c.add (c.var (i := 6) rfl (.inl rfl) (by decide) (by decide)) (c.bm (r := rJoinA) PySem.F.plainAttrs_str PySem.F.slot_str_join PySem.F.type_str_join mt_join s_join (k_strS e11) (a_cons (c.lc (own := [("word", 8)]) (c.SqA (c.var (i := 5) rfl (.inl rfl) (by decide) (by decide))) (by decide +kernel) (fun X1 c1 => (c1.nmL (vs := [8]) rfl rfl (by decide))) (fun X1 c1 => ts_nil) (fun X1 c1 => (c1.add (c1.var (i := 8) rfl (.inl rfl) (by decide) (by decide)) (k_strS e70))) (fun _ => rfl)) a_nil rfl) rfl rfl rfl rfl rfl)) (k_strS e74))))))))
def N68 : List Str := ["procs", "proc"]
def sh68 (C : CF) : DS := (sRet (eBM isS fJoin (eC (.str n78)) (aCons (eLc (iSqA (eVar 0)) (gNm 1) bYes (eCB (C 67) (aCons (eVar 1) aNil)) [1]) aNil)))
set_option maxHeartbeats 0 in
theorem w68 (C : CF) (k : Nat) (X : Cx) (hw : X.w = w) (hx : X.xe = fun _ _ => False) (c : XC T C N68 (defScope (top 57)) true k X) : PSs X (defBody (top 57)) (rdS T.G (sh68 C)) :=
  (s_one (s_ret (c.bm (r := rJoinA) PySem.F.plainAttrs_str PySem.F.slot_str_join PySem.F.type_str_join mt_join s_join (k_strS e78) (a_cons (c.lc (own := [("proc", 1)]) (c.SqA (c.var (i := 0) rfl (.inl rfl) (by decide) (by decide))) (by decide +kernel) (fun X1 c1 => (c1.nmL (vs := [1]) rfl rfl (by decide))) (fun X1 c1 => ts_nil) (fun X1 c1 => (c1.call W.gf_proc_text (W.lt 67 (by decide)) rfl (a_cons (c1.var (i := 1) rfl (.inl rfl) (by decide) (by decide)) a_nil rfl) (by decide) rfl rfl)) (fun _ => rfl)) a_nil rfl) rfl rfl rfl rfl rfl)))
def N69 : List Str := ["line", "at", "signs", "end"]
def sh69 (C : CF) : DS := (sSeq (sAsg (eVar 1) (gNm 3))
  (sSeq (sWhile (bAnd (bVal (eOp fLt (eVar 3) (eCB fLen (aCons (eVar 0) aNil)))) (bVal (eOp fIn (eOp fIx (eVar 0) (eVar 3)) (eVar 2)))) (sAugN 3 fIAdd (eC (.int (Int.ofNat 1)))))
  (sRet (eVar 3))))
set_option maxHeartbeats 0 in
theorem w69 (C : CF) (k : Nat) (X : Cx) (hw : X.w = w) (hx : X.xe = fun _ _ => False) (c : XC T C N69 (defScope (top 62)) true k X) : PSs X (defBody (top 62)) (rdS T.G (sh69 C)) :=
  (s_seq (c.setL rfl rfl (c.var (i := 1) rfl (.inl rfl) (by decide) (by decide)) rfl)
  (s_seq (s_while c.own (PW.pt (w_and (c.tlt (c.var (i := 3) rfl (.inl rfl) (by decide) (by decide)) (c.cb (c.kx (r := rLenA) c_len) s_len W.fr_len PySem.boot_len rfl (a_cons (c.var (i := 0) rfl (.inl rfl) (by decide) (by decide)) a_nil rfl) (by decide) (by decide) rfl rfl)) (w_and1 (c.tin (c.ix (c.var (i := 0) rfl (.inl rfl) (by decide) (by decide)) (c.var (i := 3) rfl (.inl rfl) (by decide) (by decide)) (fun _ _ => rfl)) (c.var (i := 2) rfl (.inl rfl) (by decide) (by decide)) rfl)))) (s_one (c.augL p_iadd s_iadd rfl rfl k_int)))
  (s_one (s_ret (c.var (i := 3) rfl (.inl rfl) (by decide) (by decide))))))
def N70 : List Str := ["line", "at", "letters"]
def sh70 (C : CF) : DS := (sSeq (sAsg (eSl (eVar 0) (oSome (eVar 1)) (oSome (eCB (C 69) (aCons (eVar 0) (aCons (eVar 1) (aCons (eC k_SIGNS) aNil)))))) (gNm 2))
  (sSeq (sIf (bVal (eOp fGt (eCB fLen (aCons (eVar 2) aNil)) (eC k_LONGEST_WORD))) (sRet (eTup (aCons (eC (.str n80)) (aCons (eC (.str n79)) aNil)))) sNop)
  (sRet (eTup (aCons (eIf (bVal (eOp fIn (eVar 2) (eC k_OWN_WORDS))) (eC (.str n81)) (eC (.str n82))) (aCons (eVar 2) aNil))))))
set_option maxHeartbeats 0 in
theorem w70 (C : CF) (k : Nat) (X : Cx) (hw : X.w = w) (hx : X.xe = fun _ _ => False) (c : XC T C N70 (defScope (top 63)) true k X) : PSs X (defBody (top 63)) (rdS T.G (sh70 C)) :=
  (s_seq (c.setL rfl rfl (c.sl (c.var (i := 0) rfl (.inl rfl) (by decide) (by decide)) (o_some (c.var (i := 1) rfl (.inl rfl) (by decide) (by decide))) (o_some (c.call W.gf_row_end (W.lt 69 (by decide)) rfl (a_cons (c.var (i := 0) rfl (.inl rfl) (by decide) (by decide)) (a_cons (c.var (i := 1) rfl (.inl rfl) (by decide) (by decide)) (a_cons (c.glob W.gk_SIGNS rfl (by decide)) a_nil rfl) rfl) rfl) (by decide) rfl rfl))) rfl)
  (s_seq (s_if (c.tgt (c.cb (c.kx (r := rLenA) c_len) s_len W.fr_len PySem.boot_len rfl (a_cons (c.var (i := 2) rfl (.inl rfl) (by decide) (by decide)) a_nil rfl) (by decide) (by decide) rfl rfl) (c.glob W.gk_LONGEST_WORD rfl (by decide))) (s_one (s_ret (q_tup (a_cons (k_strS e80) (a_cons (k_strS e79) a_nil rfl) rfl)))) s_nil)
  (s_one (s_ret (q_tup (a_cons (q_if (c.tin (c.var (i := 2) rfl (.inl rfl) (by decide) (by decide)) (c.glob W.gk_OWN_WORDS rfl (by decide)) rfl) (k_strS e81) (k_strS e82)) (a_cons (c.var (i := 2) rfl (.inl rfl) (by decide) (by decide)) a_nil rfl) rfl))))))
def N71 : List Str := ["line", "at"]
def sh71 (C : CF) : DS := (sSeq (sIf (bVal (eOp fIn (eOp fIx (eVar 0) (eVar 1)) (eC k_LETTERS))) (sRet (eCB (C 70) (aCons (eVar 0) (aCons (eVar 1) aNil)))) sNop)
  (sRet (eIf (bVal (eOp fIn (eOp fIx (eVar 0) (eVar 1)) (eC k_ONE_SIGNS))) (eTup (aCons (eC (.str n83)) (aCons (eOp fIx (eVar 0) (eVar 1)) aNil))) (eTup (aCons (eC (.str n80)) (aCons (eC (.str n83)) aNil))))))
set_option maxHeartbeats 0 in
theorem w71 (C : CF) (k : Nat) (X : Cx) (hw : X.w = w) (hx : X.xe = fun _ _ => False) (c : XC T C N71 (defScope (top 64)) true k X) : PSs X (defBody (top 64)) (rdS T.G (sh71 C)) :=
  (s_seq (s_if (c.tin (c.ix (c.var (i := 0) rfl (.inl rfl) (by decide) (by decide)) (c.var (i := 1) rfl (.inl rfl) (by decide) (by decide)) (fun _ _ => rfl)) (c.glob W.gk_LETTERS rfl (by decide)) rfl) (s_one (s_ret (c.call W.gf_letter_word (W.lt 70 (by decide)) rfl (a_cons (c.var (i := 0) rfl (.inl rfl) (by decide) (by decide)) (a_cons (c.var (i := 1) rfl (.inl rfl) (by decide) (by decide)) a_nil rfl) rfl) (by decide) rfl rfl))) s_nil)
  (s_one (s_ret (q_if (c.tin (c.ix (c.var (i := 0) rfl (.inl rfl) (by decide) (by decide)) (c.var (i := 1) rfl (.inl rfl) (by decide) (by decide)) (fun _ _ => rfl)) (c.glob W.gk_ONE_SIGNS rfl (by decide)) rfl) (q_tup (a_cons (k_strS e83) (a_cons (c.ix (c.var (i := 0) rfl (.inl rfl) (by decide) (by decide)) (c.var (i := 1) rfl (.inl rfl) (by decide) (by decide)) (fun _ _ => rfl)) a_nil rfl) rfl)) (q_tup (a_cons (k_strS e80) (a_cons (k_strS e83) a_nil rfl) rfl))))))
def N72 : List Str := ["text", "found", "lines", "number", "line", "at", "sort", "letters"]
def sh72 (C : CF) : DS := (sSeq (sAsg (eLst aNil) (gNm 1))
  (sSeq (sAsg (eBM isS fSplit (eVar 0) (aCons (eC (.str n78)) aNil)) (gNm 2))
  (sSeq (sFor (iRg1 (aCons (eCB fLen (aCons (eVar 2) aNil)) aNil)) (gNm 3) (sSeq (sAsg (eOp fIx (eVar 2) (eVar 3)) (gNm 4))
  (sSeq (sAsg (eC (.int (Int.ofNat 0))) (gNm 5))
  (sWhile (bAnd (bVal (eOp fLt (eVar 5) (eCB fLen (aCons (eVar 4) aNil)))) (bVal (eOp (fNeA C wEl) (eOp fIx (eVar 4) (eVar 5)) (eC (.str n84))))) (sSeq (sIf (bVal (eOp (fEqA C wEl) (eOp fIx (eVar 4) (eVar 5)) (eC (.str n70)))) (sSeq (sAugN 5 fIAdd (eC (.int (Int.ofNat 1))))
  sCont) sNop)
  (sSeq (sAsg (eCB (C 71) (aCons (eVar 4) (aCons (eVar 5) aNil))) (gTp 2 (gsCons (gNm 6) (gsCons (gNm 7) gsNil))))
  (sSeq (sDrop (eBM isL fAppend (eVar 1) (aCons (eTup (aCons (eVar 6) (aCons (eVar 7) (aCons (eVar 3) (aCons (eVar 5) aNil))))) aNil)))
  (sSeq (sIf (bVal (eOp (fEqA C wEl) (eVar 6) (eC (.str n80)))) (sRet (eVar 1)) sNop)
  (sAugN 5 fIAdd (eCB fLen (aCons (eVar 7) aNil)))))))))))
  (sSeq (sDrop (eBM isL fAppend (eVar 1) (aCons (eTup (aCons (eC (.str n85)) (aCons (eC (.str n11)) (aCons (eOp fSub (eCB fLen (aCons (eVar 2) aNil)) (eC (.int (Int.ofNat 1)))) (aCons (eCB fLen (aCons (eOp fIx (eVar 2) (eNeg (eC (.int (Int.ofNat 1))))) aNil)) aNil))))) aNil)))
  (sRet (eVar 1))))))
set_option maxHeartbeats 0 in
theorem w72 (C : CF) (k : Nat) (X : Cx) (hw : X.w = w) (hx : X.xe = fun _ _ => False) (c : XC T C N72 (defScope (top 65)) true k X) : PSs X (defBody (top 65)) (rdS T.G (sh72 C)) :=
  (s_seq (c.setL rfl rfl (q_lst a_nil) rfl)
  (s_seq (c.setL rfl rfl (c.bm (r := fun _ => rSplitA) PySem.F.plainAttrs_str PySem.F.slot_str_split PySem.F.type_str_split mt_split s_split (c.var (i := 0) rfl (.inl rfl) (by decide) (by decide)) (a_cons (k_strS e78) a_nil rfl) rfl rfl rfl rfl rfl) rfl)
  (s_seq (s_for c.own c.cal (i_rg1 (c.gl rfl) (c.mgn W.fr_range) (a_cons (c.cb (c.kx (r := rLenA) c_len) s_len W.fr_len PySem.boot_len rfl (a_cons (c.var (i := 2) rfl (.inl rfl) (by decide) (by decide)) a_nil rfl) (by decide) (by decide) rfl rfl) a_nil rfl) rfl) (c.nmL (vs := [3]) rfl rfl (by decide)) (s_seq (c.setL rfl rfl (c.ix (c.var (i := 2) rfl (.inl rfl) (by decide) (by decide)) (c.var (i := 3) rfl (.inl rfl) (by decide) (by decide)) (fun _ _ => rfl)) rfl)
  (s_seq (c.setL rfl rfl k_int rfl)
  (s_one (s_while c.own (PW.pt (w_and (c.tlt (c.var (i := 5) rfl (.inl rfl) (by decide) (by decide)) (c.cb (c.kx (r := rLenA) c_len) s_len W.fr_len PySem.boot_len rfl (a_cons (c.var (i := 4) rfl (.inl rfl) (by decide) (by decide)) a_nil rfl) (by decide) (by decide) rfl rfl)) (w_and1 (c.tne (wE W) (c.ix (c.var (i := 4) rfl (.inl rfl) (by decide) (by decide)) (c.var (i := 5) rfl (.inl rfl) (by decide) (by decide)) (fun _ _ => rfl)) (k_strS e84))))) (s_seq (s_if (c.teq (wE W) (c.ix (c.var (i := 4) rfl (.inl rfl) (by decide) (by decide)) (c.var (i := 5) rfl (.inl rfl) (by decide) (by decide)) (fun _ _ => rfl)) (k_strS e70)) (s_seq (c.augL p_iadd s_iadd rfl rfl k_int)
  (s_one s_cont)) s_nil)
  (s_seq (s_asg (c.call W.gf_word_from (W.lt 71 (by decide)) rfl (a_cons (c.var (i := 4) rfl (.inl rfl) (by decide) (by decide)) (a_cons (c.var (i := 5) rfl (.inl rfl) (by decide) (by decide)) a_nil rfl) rfl) (by decide) rfl rfl) (c.tp (n := 2) (gs_cons (c.nmL (vs := [6, 7]) rfl rfl (by decide)) (gs_cons (c.nmL (vs := [6, 7]) rfl rfl (by decide)) gs_nil rfl) rfl) rfl rfl) rfl rfl rfl)
  (s_seq (s_drop (c.bm (r := fun _ => rAppend) PySem.F.plainAttrs_list PySem.F.slot_list_append PySem.F.type_list_append mt_append s_append (c.var (i := 1) rfl (.inl rfl) (by decide) (by decide)) (a_cons (q_tup (a_cons (c.var (i := 6) rfl (.inl rfl) (by decide) (by decide)) (a_cons (c.var (i := 7) rfl (.inl rfl) (by decide) (by decide)) (a_cons (c.var (i := 3) rfl (.inl rfl) (by decide) (by decide)) (a_cons (c.var (i := 5) rfl (.inl rfl) (by decide) (by decide)) a_nil rfl) rfl) rfl) rfl)) a_nil rfl) rfl rfl rfl rfl rfl) rfl)
  (s_seq (s_if (c.teq (wE W) (c.var (i := 6) rfl (.inl rfl) (by decide) (by decide)) (k_strS e80)) (s_one (s_ret (c.var (i := 1) rfl (.inl rfl) (by decide) (by decide)))) s_nil)
  (s_one (c.augL p_iadd s_iadd rfl rfl (c.cb (c.kx (r := rLenA) c_len) s_len W.fr_len PySem.boot_len rfl (a_cons (c.var (i := 7) rfl (.inl rfl) (by decide) (by decide)) a_nil rfl) (by decide) (by decide) rfl rfl))))))))))) (fun _ => rfl))
  (s_seq (s_drop (c.bm (r := fun _ => rAppend) PySem.F.plainAttrs_list PySem.F.slot_list_append PySem.F.type_list_append mt_append s_append (c.var (i := 1) rfl (.inl rfl) (by decide) (by decide)) (a_cons (q_tup (a_cons (k_strS e85) (a_cons (k_strS e11) (a_cons (c.sub (c.cb (c.kx (r := rLenA) c_len) s_len W.fr_len PySem.boot_len rfl (a_cons (c.var (i := 2) rfl (.inl rfl) (by decide) (by decide)) a_nil rfl) (by decide) (by decide) rfl rfl) k_int) (a_cons (c.cb (c.kx (r := rLenA) c_len) s_len W.fr_len PySem.boot_len rfl (a_cons (c.ix (c.var (i := 2) rfl (.inl rfl) (by decide) (by decide)) (k_neg k_int) (fun _ _ => rfl)) a_nil rfl) (by decide) (by decide) rfl rfl) a_nil rfl) rfl) rfl) rfl)) a_nil rfl) rfl rfl rfl rfl rfl) rfl)
  (s_one (s_ret (c.var (i := 1) rfl (.inl rfl) (by decide) (by decide))))))))
def N73 : List Str := ["text"]
def sh73 (C : CF) : DS := (sSeq (sIf (bNot (bVal (eIsi [kt_3] nC (eVar 0)))) (sRet (eTup (aCons (eTup (aCons (eC (.str n80)) (aCons (eC (.str n86)) (aCons (eC (.int (Int.ofNat 0))) (aCons (eC (.int (Int.ofNat 0))) aNil))))) aNil))) sNop)
  (sRet (eCB fTupleA (aCons (eCB (C 72) (aCons (eVar 0) aNil)) aNil))))
set_option maxHeartbeats 0 in
theorem w73 (C : CF) (k : Nat) (X : Cx) (hw : X.w = w) (hx : X.xe = fun _ _ => False) (c : XC T C N73 (defScope (top 66)) true k X) : PSs X (defBody (top 66)) (rdS T.G (sh73 C)) :=
  (s_seq (s_if (t_not (t_val (c.isi W.own W.kt_3 (c.clsT W.fr_str rfl boot_str rfl (by decide) (by decide)) W.fr_isinstance boot_isinstance rfl (c.var (i := 0) rfl (.inl rfl) (by decide) (by decide)) rfl rfl rfl) (fun _ => rfl))) (s_one (s_ret (q_tup (a_cons (q_tup (a_cons (k_strS e80) (a_cons (k_strS e86) (a_cons k_int (a_cons k_int a_nil rfl) rfl) rfl) rfl)) a_nil rfl)))) s_nil)
  (s_one (s_ret (c.ct (c.kx (r := rTupleAD) (c_tupleA c.cal)) s_tupleA W.fr_tuple boot_tuple rfl (a_cons (c.call W.gf_words_in (W.lt 72 (by decide)) rfl (a_cons (c.var (i := 0) rfl (.inl rfl) (by decide) (by decide)) a_nil rfl) (by decide) rfl rfl) a_nil rfl) (by decide) (by decide) rfl rfl))))
def N74 : List Str := ["self", "text"]
def sh74 (C : CF) : DS := (sSeq (sFldS fl_words n87 (eVar 0) (eCB (C 73) (aCons (eVar 1) aNil)))
  (sSeq (sFldS fl_at n88 (eVar 0) (eC (.int (Int.ofNat 0))))
  (sFldS fl_storeys n89 (eVar 0) (eC (.int (Int.ofNat 0))))))
set_option maxHeartbeats 0 in
theorem w74 (C : CF) (k : Nat) (X : Cx) (hw : X.w = w) (hx : X.xe = fun _ _ => False) (c : XC T C N74 (defScope (sub 68 0)) true k X) : PSs X (defBody (sub 68 0)) (rdS T.G (sh74 C)) :=
  (s_seq (c.sfld e87 (fW_words W) (c.var (i := 0) rfl (.inl rfl) (by decide) (by decide)) (c.call W.gf_words_of (W.lt 73 (by decide)) rfl (a_cons (c.var (i := 1) rfl (.inl rfl) (by decide) (by decide)) a_nil rfl) (by decide) rfl rfl) rfl)
  (s_seq (c.sfld e88 (fW_at W) (c.var (i := 0) rfl (.inl rfl) (by decide) (by decide)) k_int rfl)
  (s_one (c.sfld e89 (fW_storeys W) (c.var (i := 0) rfl (.inl rfl) (by decide) (by decide)) k_int rfl))))
def N75 : List Str := ["self"]
def sh75 (C : CF) : DS := (sRet (eSl (eOp fIx (eFld fl_words n87 (eVar 0)) (eFld fl_at n88 (eVar 0))) (oSome (eC (.int (Int.ofNat 2)))) oNo))
set_option maxHeartbeats 0 in
theorem w75 (C : CF) (k : Nat) (X : Cx) (hw : X.w = w) (hx : X.xe = fun _ _ => False) (c : XC T C N75 (defScope (sub 68 1)) true k X) : PSs X (defBody (sub 68 1)) (rdS T.G (sh75 C)) :=
  (s_one (s_ret (c.sl (c.ix (c.fldS e87 (fW_words W) (c.var (i := 0) rfl (.inl rfl) (by decide) (by decide)) rfl) (c.fldS e88 (fW_at W) (c.var (i := 0) rfl (.inl rfl) (by decide) (by decide)) rfl) (fun _ _ => rfl)) (o_some k_int) o_no)))
def N76 : List Str := ["self", "some", "sort", "here"]
def sh76 (C : CF) : DS := (sSeq (sAsg (eSl (eOp fIx (eFld fl_words n87 (eVar 0)) (eFld fl_at n88 (eVar 0))) oNo (oSome (eC (.int (Int.ofNat 2))))) (gTp 2 (gsCons (gNm 2) (gsCons (gNm 3) gsNil))))
  (sRet (eAnd (eOp fIn (eVar 2) (eTup (aCons (eC (.str n81)) (aCons (eC (.str n83)) aNil)))) (eOp fIn (eVar 3) (eVar 1)))))
set_option maxHeartbeats 0 in
theorem w76 (C : CF) (k : Nat) (X : Cx) (hw : X.w = w) (hx : X.xe = fun _ _ => False) (c : XC T C N76 (defScope (sub 68 3)) true k X) : PSs X (defBody (sub 68 3)) (rdS T.G (sh76 C)) :=
  (s_seq (s_asg (c.sl (c.ix (c.fldS e87 (fW_words W) (c.var (i := 0) rfl (.inl rfl) (by decide) (by decide)) rfl) (c.fldS e88 (fW_at W) (c.var (i := 0) rfl (.inl rfl) (by decide) (by decide)) rfl) (fun _ _ => rfl)) o_no (o_some k_int)) (c.tp (n := 2) (gs_cons (c.nmL (vs := [2, 3]) rfl rfl (by decide)) (gs_cons (c.nmL (vs := [2, 3]) rfl rfl (by decide)) gs_nil rfl) rfl) rfl rfl) rfl rfl rfl)
  (s_one (s_ret (q_and (c.in_ (c.var (i := 2) rfl (.inl rfl) (by decide) (by decide)) (q_tup (a_cons (k_strS e81) (a_cons (k_strS e83) a_nil rfl) rfl)) rfl) (pe_one (c.in_ (c.var (i := 3) rfl (.inl rfl) (by decide) (by decide)) (c.var (i := 1) rfl (.inl rfl) (by decide) (by decide)) rfl))))))
def N77 : List Str := ["self", "letters"]
def sh77 (C : CF) : DS := (sRet (eMth C ml_next_in n90 (eVar 0) (aCons (eTup (aCons (eVar 1) aNil)) aNil)))
set_option maxHeartbeats 0 in
theorem w77 (C : CF) (k : Nat) (X : Cx) (hw : X.w = w) (hx : X.xe = fun _ _ => False) (c : XC T C N77 (defScope (sub 68 4)) true k X) : PSs X (defBody (sub 68 4)) (rdS T.G (sh77 C)) :=
  (s_one (s_ret (c.mthS e90 (hM_next_in W) (c.var (i := 0) rfl (.inl rfl) (by decide) (by decide)) (a_cons (q_tup (a_cons (c.var (i := 1) rfl (.inl rfl) (by decide) (by decide)) a_nil rfl)) a_nil rfl) rfl rfl rfl)))
def N78 : List Str := ["self"]
def sh78 (C : CF) : DS := (sRet (eOp fIx (eOp fIx (eFld fl_words n87 (eVar 0)) (eFld fl_at n88 (eVar 0))) (eC (.int (Int.ofNat 0)))))
set_option maxHeartbeats 0 in
theorem w78 (C : CF) (k : Nat) (X : Cx) (hw : X.w = w) (hx : X.xe = fun _ _ => False) (c : XC T C N78 (defScope (sub 68 5)) true k X) : PSs X (defBody (sub 68 5)) (rdS T.G (sh78 C)) :=
  (s_one (s_ret (c.ix (c.ix (c.fldS e87 (fW_words W) (c.var (i := 0) rfl (.inl rfl) (by decide) (by decide)) rfl) (c.fldS e88 (fW_at W) (c.var (i := 0) rfl (.inl rfl) (by decide) (by decide)) rfl) (fun _ _ => rfl)) k_int (fun _ _ => rfl))))
def N79 : List Str := ["self", "letters"]
def sh79 (C : CF) : DS := (sSeq (sAsg (eOp fIx (eOp fIx (eFld fl_words n87 (eVar 0)) (eFld fl_at n88 (eVar 0))) (eC (.int (Int.ofNat 1)))) (gNm 1))
  (sSeq (sFldAg fl_at n88 Int.add (eVar 0) (eC (.int (Int.ofNat 1))))
  (sRet (eVar 1))))
set_option maxHeartbeats 0 in
theorem w79 (C : CF) (k : Nat) (X : Cx) (hw : X.w = w) (hx : X.xe = fun _ _ => False) (c : XC T C N79 (defScope (sub 68 6)) true k X) : PSs X (defBody (sub 68 6)) (rdS T.G (sh79 C)) :=
  (s_seq (c.setL rfl rfl (c.ix (c.ix (c.fldS e87 (fW_words W) (c.var (i := 0) rfl (.inl rfl) (by decide) (by decide)) rfl) (c.fldS e88 (fW_at W) (c.var (i := 0) rfl (.inl rfl) (by decide) (by decide)) rfl) (fun _ _ => rfl)) k_int (fun _ _ => rfl)) rfl)
  (s_seq (c.sfldA e88 (fW_at W) (c.var (i := 0) rfl (.inl rfl) (by decide) (by decide)) k_int)
  (s_one (s_ret (c.var (i := 1) rfl (.inl rfl) (by decide) (by decide))))))
def N80 : List Str := ["self", "letters"]
def sh80 (C : CF) : DS := (sSeq (sIf (bNot (bVal (eMth C ml_next_is n91 (eVar 0) (aCons (eVar 1) aNil)))) (sDrop (eMth C ml_wrong n48 (eVar 0) aNil)) sNop)
  (sRet (eMth C ml_take n92 (eVar 0) aNil)))
set_option maxHeartbeats 0 in
theorem w80 (C : CF) (k : Nat) (X : Cx) (hw : X.w = w) (hx : X.xe = fun _ _ => False) (c : XC T C N80 (defScope (sub 68 7)) true k X) : PSs X (defBody (sub 68 7)) (rdS T.G (sh80 C)) :=
  (s_seq (s_if (t_not (t_val (c.mthS e91 (hM_next_is W) (c.var (i := 0) rfl (.inl rfl) (by decide) (by decide)) (a_cons (c.var (i := 1) rfl (.inl rfl) (by decide) (by decide)) a_nil rfl) rfl rfl rfl) (fun _ => rfl))) (s_one (s_drop (c.mthS0 e48 (hM_wrong W) (c.var (i := 0) rfl (.inl rfl) (by decide) (by decide)) rfl) rfl)) s_nil)
  (s_one (s_ret (c.mthS0 e92 (hM_take W) (c.var (i := 0) rfl (.inl rfl) (by decide) (by decide)) rfl))))
def N81 : List Str := ["self", "place"]
def sh81 (C : CF) : DS := (sSeq (sIf (bVal (eOp (fNeA C wEl) (eMth C ml_next_sort n93 (eVar 0) aNil) (eC (.str n82)))) (sDrop (eMth C ml_wrong n48 (eVar 0) aNil)) sNop)
  (sSeq (sAsg (eMth C ml_place n94 (eVar 0) aNil) (gNm 1))
  (sRet (eTup (aCons (eMth C ml_take n92 (eVar 0) aNil) (aCons (eVar 1) aNil))))))
set_option maxHeartbeats 0 in
theorem w81 (C : CF) (k : Nat) (X : Cx) (hw : X.w = w) (hx : X.xe = fun _ _ => False) (c : XC T C N81 (defScope (sub 68 8)) true k X) : PSs X (defBody (sub 68 8)) (rdS T.G (sh81 C)) :=
  (s_seq (s_if (c.tne (wE W) (c.mthS0 e93 (hM_next_sort W) (c.var (i := 0) rfl (.inl rfl) (by decide) (by decide)) rfl) (k_strS e82)) (s_one (s_drop (c.mthS0 e48 (hM_wrong W) (c.var (i := 0) rfl (.inl rfl) (by decide) (by decide)) rfl) rfl)) s_nil)
  (s_seq (c.setL rfl rfl (c.mthS0 e94 (hM_place W) (c.var (i := 0) rfl (.inl rfl) (by decide) (by decide)) rfl) rfl)
  (s_one (s_ret (q_tup (a_cons (c.mthS0 e92 (hM_take W) (c.var (i := 0) rfl (.inl rfl) (by decide) (by decide)) rfl) (a_cons (c.var (i := 1) rfl (.inl rfl) (by decide) (by decide)) a_nil rfl) rfl))))))
def N82 : List Str := ["reader", "found"]
def sh82 (C : CF) : DS := (sSeq (sDrop (eMth C ml_need n95 (eVar 0) (aCons (eC (.str n67)) aNil)))
  (sSeq (sAsg (eLst aNil) (gNm 1))
  (sSeq (sWhile (bNot (bVal (eMth C ml_next_is n91 (eVar 0) (aCons (eC (.str n96)) aNil)))) (sSeq (sIf (bVal (eOp fGt (eCB fLen (aCons (eVar 1) aNil)) (eC (.int (Int.ofNat 0))))) (sDrop (eMth C ml_need n95 (eVar 0) (aCons (eC (.str n97)) aNil))) sNop)
  (sDrop (eBM isL fAppend (eVar 1) (aCons (eMth C ml_name n82 (eVar 0) aNil) aNil)))))
  (sSeq (sDrop (eMth C ml_need n95 (eVar 0) (aCons (eC (.str n96)) aNil)))
  (sRet (eVar 1))))))
set_option maxHeartbeats 0 in
theorem w82 (C : CF) (k : Nat) (X : Cx) (hw : X.w = w) (hx : X.xe = fun _ _ => False) (c : XC T C N82 (defScope (top 71)) true k X) : PSs X (defBody (top 71)) (rdS T.G (sh82 C)) :=
  (s_seq (s_drop (c.mthS e95 (hM_need W) (c.var (i := 0) rfl (.inl rfl) (by decide) (by decide)) (a_cons (k_strS e67) a_nil rfl) rfl rfl rfl) rfl)
  (s_seq (c.setL rfl rfl (q_lst a_nil) rfl)
  (s_seq (s_while c.own (t_not (t_val (c.mthS e91 (hM_next_is W) (c.var (i := 0) rfl (.inl rfl) (by decide) (by decide)) (a_cons (k_strS e96) a_nil rfl) rfl rfl rfl) (fun _ => rfl))) (s_seq (s_if (c.tgt (c.cb (c.kx (r := rLenA) c_len) s_len W.fr_len PySem.boot_len rfl (a_cons (c.var (i := 1) rfl (.inl rfl) (by decide) (by decide)) a_nil rfl) (by decide) (by decide) rfl rfl) k_int) (s_one (s_drop (c.mthS e95 (hM_need W) (c.var (i := 0) rfl (.inl rfl) (by decide) (by decide)) (a_cons (k_strS e97) a_nil rfl) rfl rfl rfl) rfl)) s_nil)
  (s_one (s_drop (c.bm (r := fun _ => rAppend) PySem.F.plainAttrs_list PySem.F.slot_list_append PySem.F.type_list_append mt_append s_append (c.var (i := 1) rfl (.inl rfl) (by decide) (by decide)) (a_cons (c.mthS0 e82 (hM_name W) (c.var (i := 0) rfl (.inl rfl) (by decide) (by decide)) rfl) a_nil rfl) rfl rfl rfl rfl rfl) rfl))))
  (s_seq (s_drop (c.mthS e95 (hM_need W) (c.var (i := 0) rfl (.inl rfl) (by decide) (by decide)) (a_cons (k_strS e96) a_nil rfl) rfl rfl rfl) rfl)
  (s_one (s_ret (c.var (i := 1) rfl (.inl rfl) (by decide) (by decide))))))))
def N83 : List Str := ["reader", "place", "name", "word", "other"]
def sh83 (C : CF) : DS := (sSeq (sFor (iSqA (eTup (aCons (eC (.str n43)) (aCons (eC (.str n25)) (aCons (eC (.str n21)) aNil))))) (gNm 3) (sIf (bVal (eMth C ml_next_is n91 (eVar 0) (aCons (eVar 3) aNil))) (sSeq (sDrop (eMth C ml_take n92 (eVar 0) aNil))
  (sRet (eIf (bVal (eOp (fEqA C wEl) (eVar 3) (eC (.str n43)))) (eTup (aCons (eVar 3) (aCons (eVar 1) (aCons (eVar 2) aNil)))) (eTup (aCons (eVar 3) (aCons (eVar 1) (aCons (eVar 2) (aCons (eMth C ml_name n82 (eVar 0) aNil) aNil)))))))) sNop))
  (sSeq (sAsg (eMth C ml_name n82 (eVar 0) aNil) (gNm 4))
  (sSeq (sIf (bVal (eMth C ml_next_is n91 (eVar 0) (aCons (eC (.str n67)) aNil))) (sRet (eTup (aCons (eC (.str n10)) (aCons (eVar 1) (aCons (eVar 2) (aCons (eVar 4) (aCons (eCB (C 82) (aCons (eVar 0) aNil)) aNil))))))) sNop)
  (sRet (eTup (aCons (eC (.str n53)) (aCons (eVar 1) (aCons (eVar 2) (aCons (eVar 4) aNil)))))))))
set_option maxHeartbeats 0 in
theorem w83 (C : CF) (k : Nat) (X : Cx) (hw : X.w = w) (hx : X.xe = fun _ _ => False) (c : XC T C N83 (defScope (top 72)) true k X) : PSs X (defBody (top 72)) (rdS T.G (sh83 C)) :=
  (s_seq (s_for c.own c.cal (c.SqA (q_tup (a_cons (k_strS e43) (a_cons (k_strS e25) (a_cons (k_strS e21) a_nil rfl) rfl) rfl))) (c.nmL (vs := [3]) rfl rfl (by decide)) (s_one (s_if (t_val (c.mthS e91 (hM_next_is W) (c.var (i := 0) rfl (.inl rfl) (by decide) (by decide)) (a_cons (c.var (i := 3) rfl (.inl rfl) (by decide) (by decide)) a_nil rfl) rfl rfl rfl) (fun _ => rfl)) (s_seq (s_drop (c.mthS0 e92 (hM_take W) (c.var (i := 0) rfl (.inl rfl) (by decide) (by decide)) rfl) rfl)
  (s_one (s_ret (q_if (c.teq (wE W) (c.var (i := 3) rfl (.inl rfl) (by decide) (by decide)) (k_strS e43)) (q_tup (a_cons (c.var (i := 3) rfl (.inl rfl) (by decide) (by decide)) (a_cons (c.var (i := 1) rfl (.inl rfl) (by decide) (by decide)) (a_cons (c.var (i := 2) rfl (.inl rfl) (by decide) (by decide)) a_nil rfl) rfl) rfl)) (q_tup (a_cons (c.var (i := 3) rfl (.inl rfl) (by decide) (by decide)) (a_cons (c.var (i := 1) rfl (.inl rfl) (by decide) (by decide)) (a_cons (c.var (i := 2) rfl (.inl rfl) (by decide) (by decide)) (a_cons (c.mthS0 e82 (hM_name W) (c.var (i := 0) rfl (.inl rfl) (by decide) (by decide)) rfl) a_nil rfl) rfl) rfl) rfl)))))) s_nil)) (fun _ => rfl))
  (s_seq (c.setL rfl rfl (c.mthS0 e82 (hM_name W) (c.var (i := 0) rfl (.inl rfl) (by decide) (by decide)) rfl) rfl)
  (s_seq (s_if (t_val (c.mthS e91 (hM_next_is W) (c.var (i := 0) rfl (.inl rfl) (by decide) (by decide)) (a_cons (k_strS e67) a_nil rfl) rfl rfl rfl) (fun _ => rfl)) (s_one (s_ret (q_tup (a_cons (k_strS e10) (a_cons (c.var (i := 1) rfl (.inl rfl) (by decide) (by decide)) (a_cons (c.var (i := 2) rfl (.inl rfl) (by decide) (by decide)) (a_cons (c.var (i := 4) rfl (.inl rfl) (by decide) (by decide)) (a_cons (c.call W.gf_read_names (W.lt 82 (by decide)) rfl (a_cons (c.var (i := 0) rfl (.inl rfl) (by decide) (by decide)) a_nil rfl) (by decide) rfl rfl) a_nil rfl) rfl) rfl) rfl) rfl)))) s_nil)
  (s_one (s_ret (q_tup (a_cons (k_strS e53) (a_cons (c.var (i := 1) rfl (.inl rfl) (by decide) (by decide)) (a_cons (c.var (i := 2) rfl (.inl rfl) (by decide) (by decide)) (a_cons (c.var (i := 4) rfl (.inl rfl) (by decide) (by decide)) a_nil rfl) rfl) rfl) rfl)))))))
def N84 : List Str := ["reader", "found"]
def sh84 (C : CF) : DS := (sSeq (sDrop (eMth C ml_need n95 (eVar 0) (aCons (eC (.str n98)) aNil)))
  (sSeq (sAsg (eLst aNil) (gNm 1))
  (sSeq (sWhile (bNot (bVal (eMth C ml_next_is n91 (eVar 0) (aCons (eC (.str n74)) aNil)))) (sDrop (eBM isL fAppend (eVar 1) (aCons (eCB (C 86) (aCons (eVar 0) aNil)) aNil))))
  (sSeq (sDrop (eMth C ml_need n95 (eVar 0) (aCons (eC (.str n74)) aNil)))
  (sRet (eVar 1))))))
set_option maxHeartbeats 0 in
theorem w84 (C : CF) (k : Nat) (X : Cx) (hw : X.w = w) (hx : X.xe = fun _ _ => False) (c : XC T C N84 (defScope (top 73)) true k X) : PSs X (defBody (top 73)) (rdS T.G (sh84 C)) :=
  (s_seq (s_drop (c.mthS e95 (hM_need W) (c.var (i := 0) rfl (.inl rfl) (by decide) (by decide)) (a_cons (k_strS e98) a_nil rfl) rfl rfl rfl) rfl)
  (s_seq (c.setL rfl rfl (q_lst a_nil) rfl)
  (s_seq (s_while c.own (t_not (t_val (c.mthS e91 (hM_next_is W) (c.var (i := 0) rfl (.inl rfl) (by decide) (by decide)) (a_cons (k_strS e74) a_nil rfl) rfl rfl rfl) (fun _ => rfl))) (s_one (s_drop (c.bm (r := fun _ => rAppend) PySem.F.plainAttrs_list PySem.F.slot_list_append PySem.F.type_list_append mt_append s_append (c.var (i := 1) rfl (.inl rfl) (by decide) (by decide)) (a_cons (c.call W.gf_read_statement (W.lt 86 (by decide)) rfl (a_cons (c.var (i := 0) rfl (.inl rfl) (by decide) (by decide)) a_nil rfl) (by decide) rfl rfl) a_nil rfl) rfl rfl rfl rfl rfl) rfl)))
  (s_seq (s_drop (c.mthS e95 (hM_need W) (c.var (i := 0) rfl (.inl rfl) (by decide) (by decide)) (a_cons (k_strS e74) a_nil rfl) rfl rfl rfl) rfl)
  (s_one (s_ret (c.var (i := 1) rfl (.inl rfl) (by decide) (by decide))))))))
def N85 : List Str := ["reader", "place", "sort", "found"]
def sh85 (C : CF) : DS := (sSeq (sAsg (eMth C ml_place n94 (eVar 0) aNil) (gNm 1))
  (sSeq (sIf (bVal (eOp (fEqA C wEl) (eFld fl_storeys n89 (eVar 0)) (eOp fSub (eC k_MOST_STOREYS) (eC (.int (Int.ofNat 1)))))) (sDrop (eMth C ml_wrong n48 (eVar 0) (aCons (eC (.str n99)) aNil))) sNop)
  (sSeq (sAsg (eMth C ml_take n92 (eVar 0) aNil) (gNm 2))
  (sSeq (sFldAg fl_storeys n89 Int.add (eVar 0) (eC (.int (Int.ofNat 1))))
  (sSeq (sAsg (eTup (aCons (eVar 2) (aCons (eVar 1) (aCons (eCB (C 84) (aCons (eVar 0) aNil)) aNil)))) (gNm 3))
  (sSeq (sIf (bVal (eOp (fEqA C wEl) (eVar 2) (eC (.str n7)))) (sSeq (sDrop (eMth C ml_need n95 (eVar 0) (aCons (eC (.str n100)) aNil)))
  (sAsg (eOp fAdd (eVar 3) (eTup (aCons (eCB (C 84) (aCons (eVar 0) aNil)) aNil))) (gNm 3))) sNop)
  (sSeq (sFldAg fl_storeys n89 Int.sub (eVar 0) (eC (.int (Int.ofNat 1))))
  (sRet (eVar 3)))))))))
set_option maxHeartbeats 0 in
theorem w85 (C : CF) (k : Nat) (X : Cx) (hw : X.w = w) (hx : X.xe = fun _ _ => False) (c : XC T C N85 (defScope (top 74)) true k X) : PSs X (defBody (top 74)) (rdS T.G (sh85 C)) :=
  (s_seq (c.setL rfl rfl (c.mthS0 e94 (hM_place W) (c.var (i := 0) rfl (.inl rfl) (by decide) (by decide)) rfl) rfl)
  (s_seq (s_if (c.teq (wE W) (c.fldS e89 (fW_storeys W) (c.var (i := 0) rfl (.inl rfl) (by decide) (by decide)) rfl) (c.sub (c.glob W.gk_MOST_STOREYS rfl (by decide)) k_int)) (s_one (s_drop (c.mthS e48 (hM_wrong W) (c.var (i := 0) rfl (.inl rfl) (by decide) (by decide)) (a_cons (k_strS e99) a_nil rfl) rfl rfl rfl) rfl)) s_nil)
  (s_seq (c.setL rfl rfl (c.mthS0 e92 (hM_take W) (c.var (i := 0) rfl (.inl rfl) (by decide) (by decide)) rfl) rfl)
  (s_seq (c.sfldA e89 (fW_storeys W) (c.var (i := 0) rfl (.inl rfl) (by decide) (by decide)) k_int)
  (s_seq (c.setL rfl rfl (q_tup (a_cons (c.var (i := 2) rfl (.inl rfl) (by decide) (by decide)) (a_cons (c.var (i := 1) rfl (.inl rfl) (by decide) (by decide)) (a_cons (c.call W.gf_read_body (W.lt 84 (by decide)) rfl (a_cons (c.var (i := 0) rfl (.inl rfl) (by decide) (by decide)) a_nil rfl) (by decide) rfl rfl) a_nil rfl) rfl) rfl)) rfl)
  (s_seq (s_if (c.teq (wE W) (c.var (i := 2) rfl (.inl rfl) (by decide) (by decide)) (k_strS e7)) (s_seq (s_drop (c.mthS e95 (hM_need W) (c.var (i := 0) rfl (.inl rfl) (by decide) (by decide)) (a_cons (k_strS e100) a_nil rfl) rfl rfl rfl) rfl)
  (s_one (c.setL rfl rfl (c.add (c.var (i := 3) rfl (.inl rfl) (by decide) (by decide)) (q_tup (a_cons (c.call W.gf_read_body (W.lt 84 (by decide)) rfl (a_cons (c.var (i := 0) rfl (.inl rfl) (by decide) (by decide)) a_nil rfl) (by decide) rfl rfl) a_nil rfl))) rfl))) s_nil)
  (s_seq (c.sfldM e89 (fW_storeys W) (c.var (i := 0) rfl (.inl rfl) (by decide) (by decide)) k_int)
  (s_one (s_ret (c.var (i := 3) rfl (.inl rfl) (by decide) (by decide)))))))))))
def N86 : List Str := ["reader", "place", "found", "name"]
def sh86 (C : CF) : DS := (sSeq (sIf (bVal (eMth C ml_next_in n90 (eVar 0) (aCons (eTup (aCons (eC (.str n7)) (aCons (eC (.str n9)) aNil))) aNil))) (sRet (eCB (C 85) (aCons (eVar 0) aNil))) sNop)
  (sSeq (sAsg (eMth C ml_place n94 (eVar 0) aNil) (gNm 1))
  (sSeq (sIf (bVal (eMth C ml_next_in n90 (eVar 0) (aCons (eTup (aCons (eC (.str n50)) (aCons (eC (.str n47)) (aCons (eC (.str n55)) aNil)))) aNil))) (sAsg (eTup (aCons (eMth C ml_take n92 (eVar 0) aNil) (aCons (eVar 1) (aCons (eMth C ml_name n82 (eVar 0) aNil) aNil)))) (gNm 2)) (sSeq (sAsg (eMth C ml_name n82 (eVar 0) aNil) (gNm 3))
  (sIf (bVal (eMth C ml_next_is n91 (eVar 0) (aCons (eC (.str n67)) aNil))) (sAsg (eTup (aCons (eC (.str n10)) (aCons (eVar 1) (aCons (eC .non) (aCons (eVar 3) (aCons (eCB (C 82) (aCons (eVar 0) aNil)) aNil)))))) (gNm 2)) (sSeq (sDrop (eMth C ml_need n95 (eVar 0) (aCons (eC (.str n101)) aNil)))
  (sAsg (eCB (C 83) (aCons (eVar 0) (aCons (eVar 1) (aCons (eVar 3) aNil)))) (gNm 2))))))
  (sSeq (sDrop (eMth C ml_need n95 (eVar 0) (aCons (eC (.str n71)) aNil)))
  (sRet (eVar 2))))))
set_option maxHeartbeats 0 in
theorem w86 (C : CF) (k : Nat) (X : Cx) (hw : X.w = w) (hx : X.xe = fun _ _ => False) (c : XC T C N86 (defScope (top 75)) true k X) : PSs X (defBody (top 75)) (rdS T.G (sh86 C)) :=
  (s_seq (s_if (t_val (c.mthS e90 (hM_next_in W) (c.var (i := 0) rfl (.inl rfl) (by decide) (by decide)) (a_cons (q_tup (a_cons (k_strS e7) (a_cons (k_strS e9) a_nil rfl) rfl)) a_nil rfl) rfl rfl rfl) (fun _ => rfl)) (s_one (s_ret (c.call W.gf_read_branches (W.lt 85 (by decide)) rfl (a_cons (c.var (i := 0) rfl (.inl rfl) (by decide) (by decide)) a_nil rfl) (by decide) rfl rfl))) s_nil)
  (s_seq (c.setL rfl rfl (c.mthS0 e94 (hM_place W) (c.var (i := 0) rfl (.inl rfl) (by decide) (by decide)) rfl) rfl)
  (s_seq (s_if (t_val (c.mthS e90 (hM_next_in W) (c.var (i := 0) rfl (.inl rfl) (by decide) (by decide)) (a_cons (q_tup (a_cons (k_strS e50) (a_cons (k_strS e47) (a_cons (k_strS e55) a_nil rfl) rfl) rfl)) a_nil rfl) rfl rfl rfl) (fun _ => rfl)) (s_one (c.setL rfl rfl (q_tup (a_cons (c.mthS0 e92 (hM_take W) (c.var (i := 0) rfl (.inl rfl) (by decide) (by decide)) rfl) (a_cons (c.var (i := 1) rfl (.inl rfl) (by decide) (by decide)) (a_cons (c.mthS0 e82 (hM_name W) (c.var (i := 0) rfl (.inl rfl) (by decide) (by decide)) rfl) a_nil rfl) rfl) rfl)) rfl)) (s_seq (c.setL rfl rfl (c.mthS0 e82 (hM_name W) (c.var (i := 0) rfl (.inl rfl) (by decide) (by decide)) rfl) rfl)
  (s_one (s_if (t_val (c.mthS e91 (hM_next_is W) (c.var (i := 0) rfl (.inl rfl) (by decide) (by decide)) (a_cons (k_strS e67) a_nil rfl) rfl rfl rfl) (fun _ => rfl)) (s_one (c.setL rfl rfl (q_tup (a_cons (k_strS e10) (a_cons (c.var (i := 1) rfl (.inl rfl) (by decide) (by decide)) (a_cons k_non (a_cons (c.var (i := 3) rfl (.inl rfl) (by decide) (by decide)) (a_cons (c.call W.gf_read_names (W.lt 82 (by decide)) rfl (a_cons (c.var (i := 0) rfl (.inl rfl) (by decide) (by decide)) a_nil rfl) (by decide) rfl rfl) a_nil rfl) rfl) rfl) rfl) rfl)) rfl)) (s_seq (s_drop (c.mthS e95 (hM_need W) (c.var (i := 0) rfl (.inl rfl) (by decide) (by decide)) (a_cons (k_strS e101) a_nil rfl) rfl rfl rfl) rfl)
  (s_one (c.setL rfl rfl (c.call W.gf_read_given (W.lt 83 (by decide)) rfl (a_cons (c.var (i := 0) rfl (.inl rfl) (by decide) (by decide)) (a_cons (c.var (i := 1) rfl (.inl rfl) (by decide) (by decide)) (a_cons (c.var (i := 3) rfl (.inl rfl) (by decide) (by decide)) a_nil rfl) rfl) rfl) (by decide) rfl rfl) rfl)))))))
  (s_seq (s_drop (c.mthS e95 (hM_need W) (c.var (i := 0) rfl (.inl rfl) (by decide) (by decide)) (a_cons (k_strS e71) a_nil rfl) rfl rfl rfl) rfl)
  (s_one (s_ret (c.var (i := 2) rfl (.inl rfl) (by decide) (by decide))))))))
def N87 : List Str := ["reader", "name", "params", "body", "give"]
def sh87 (C : CF) : DS := (sSeq (sDrop (eMth C ml_need n95 (eVar 0) (aCons (eC (.str n16)) aNil)))
  (sSeq (sAsg (eMth C ml_name n82 (eVar 0) aNil) (gNm 1))
  (sSeq (sAsg (eCB (C 82) (aCons (eVar 0) aNil)) (gNm 2))
  (sSeq (sDrop (eMth C ml_need n95 (eVar 0) (aCons (eC (.str n98)) aNil)))
  (sSeq (sPar 3 4 (aCons (eLst aNil) (aCons (eC .non) aNil)))
  (sSeq (sWhile (bAnd (bVal (eOp fIs (eVar 4) (eC .non))) (bNot (bVal (eMth C ml_next_is n91 (eVar 0) (aCons (eC (.str n74)) aNil))))) (sIf (bVal (eMth C ml_next_is n91 (eVar 0) (aCons (eC (.str n1)) aNil))) (sSeq (sDrop (eMth C ml_take n92 (eVar 0) aNil))
  (sSeq (sAsg (eMth C ml_name n82 (eVar 0) aNil) (gNm 4))
  (sDrop (eMth C ml_need n95 (eVar 0) (aCons (eC (.str n71)) aNil))))) (sDrop (eBM isL fAppend (eVar 3) (aCons (eCB (C 86) (aCons (eVar 0) aNil)) aNil)))))
  (sSeq (sDrop (eMth C ml_need n95 (eVar 0) (aCons (eC (.str n74)) aNil)))
  (sRet (eTup (aCons (eVar 1) (aCons (eVar 2) (aCons (eVar 3) (aCons (eVar 4) aNil)))))))))))))
set_option maxHeartbeats 0 in
theorem w87 (C : CF) (k : Nat) (X : Cx) (hw : X.w = w) (hx : X.xe = fun _ _ => False) (c : XC T C N87 (defScope (top 76)) true k X) : PSs X (defBody (top 76)) (rdS T.G (sh87 C)) :=
  (s_seq (s_drop (c.mthS e95 (hM_need W) (c.var (i := 0) rfl (.inl rfl) (by decide) (by decide)) (a_cons (k_strS e16) a_nil rfl) rfl rfl rfl) rfl)
  (s_seq (c.setL rfl rfl (c.mthS0 e82 (hM_name W) (c.var (i := 0) rfl (.inl rfl) (by decide) (by decide)) rfl) rfl)
  (s_seq (c.setL rfl rfl (c.call W.gf_read_names (W.lt 82 (by decide)) rfl (a_cons (c.var (i := 0) rfl (.inl rfl) (by decide) (by decide)) a_nil rfl) (by decide) rfl rfl) rfl)
  (s_seq (s_drop (c.mthS e95 (hM_need W) (c.var (i := 0) rfl (.inl rfl) (by decide) (by decide)) (a_cons (k_strS e98) a_nil rfl) rfl rfl rfl) rfl)
  (s_seq (s_par c.cal c.nN (c.hn (i := 3) rfl) (c.hn (i := 4) rfl) (by decide) (c.lk rfl) (c.lk rfl) (a_cons (q_lst a_nil) (a_cons k_non a_nil rfl) rfl) (swp (c.kindF rfl) (c.lk rfl) (c.lk rfl) rfl) rfl)
  (s_seq (s_while c.own (PW.pt (w_and (c.tis (c.var (i := 4) rfl (.inl rfl) (by decide) (by decide)) k_non) (w_and1 (t_not (t_val (c.mthS e91 (hM_next_is W) (c.var (i := 0) rfl (.inl rfl) (by decide) (by decide)) (a_cons (k_strS e74) a_nil rfl) rfl rfl rfl) (fun _ => rfl)))))) (s_one (s_if (t_val (c.mthS e91 (hM_next_is W) (c.var (i := 0) rfl (.inl rfl) (by decide) (by decide)) (a_cons (k_strS e1) a_nil rfl) rfl rfl rfl) (fun _ => rfl)) (s_seq (s_drop (c.mthS0 e92 (hM_take W) (c.var (i := 0) rfl (.inl rfl) (by decide) (by decide)) rfl) rfl)
  (s_seq (c.setL rfl rfl (c.mthS0 e82 (hM_name W) (c.var (i := 0) rfl (.inl rfl) (by decide) (by decide)) rfl) rfl)
  (s_one (s_drop (c.mthS e95 (hM_need W) (c.var (i := 0) rfl (.inl rfl) (by decide) (by decide)) (a_cons (k_strS e71) a_nil rfl) rfl rfl rfl) rfl)))) (s_one (s_drop (c.bm (r := fun _ => rAppend) PySem.F.plainAttrs_list PySem.F.slot_list_append PySem.F.type_list_append mt_append s_append (c.var (i := 3) rfl (.inl rfl) (by decide) (by decide)) (a_cons (c.call W.gf_read_statement (W.lt 86 (by decide)) rfl (a_cons (c.var (i := 0) rfl (.inl rfl) (by decide) (by decide)) a_nil rfl) (by decide) rfl rfl) a_nil rfl) rfl rfl rfl rfl rfl) rfl)))))
  (s_seq (s_drop (c.mthS e95 (hM_need W) (c.var (i := 0) rfl (.inl rfl) (by decide) (by decide)) (a_cons (k_strS e74) a_nil rfl) rfl rfl rfl) rfl)
  (s_one (s_ret (q_tup (a_cons (c.var (i := 1) rfl (.inl rfl) (by decide) (by decide)) (a_cons (c.var (i := 2) rfl (.inl rfl) (by decide) (by decide)) (a_cons (c.var (i := 3) rfl (.inl rfl) (by decide) (by decide)) (a_cons (c.var (i := 4) rfl (.inl rfl) (by decide) (by decide)) a_nil rfl) rfl) rfl) rfl)))))))))))
def N88 : List Str := ["reader", "found"]
def sh88 (C : CF) : DS := (sSeq (sAsg (eLst aNil) (gNm 1))
  (sSeq (sWhile (bVal (eMth C ml_next_is n91 (eVar 0) (aCons (eC (.str n16)) aNil))) (sDrop (eBM isL fAppend (eVar 1) (aCons (eCB (C 87) (aCons (eVar 0) aNil)) aNil))))
  (sSeq (sIf (bVal (eOp (fNeA C wEl) (eMth C ml_next_sort n93 (eVar 0) aNil) (eC (.str n85)))) (sDrop (eMth C ml_wrong n48 (eVar 0) aNil)) sNop)
  (sRet (eTup (aCons (eVar 1) (aCons (eMth C ml_place n94 (eVar 0) aNil) aNil)))))))
set_option maxHeartbeats 0 in
theorem w88 (C : CF) (k : Nat) (X : Cx) (hw : X.w = w) (hx : X.xe = fun _ _ => False) (c : XC T C N88 (defScope (top 77)) true k X) : PSs X (defBody (top 77)) (rdS T.G (sh88 C)) :=
  (s_seq (c.setL rfl rfl (q_lst a_nil) rfl)
  (s_seq (s_while c.own (t_val (c.mthS e91 (hM_next_is W) (c.var (i := 0) rfl (.inl rfl) (by decide) (by decide)) (a_cons (k_strS e16) a_nil rfl) rfl rfl rfl) (fun _ => rfl)) (s_one (s_drop (c.bm (r := fun _ => rAppend) PySem.F.plainAttrs_list PySem.F.slot_list_append PySem.F.type_list_append mt_append s_append (c.var (i := 1) rfl (.inl rfl) (by decide) (by decide)) (a_cons (c.call W.gf_read_proc (W.lt 87 (by decide)) rfl (a_cons (c.var (i := 0) rfl (.inl rfl) (by decide) (by decide)) a_nil rfl) (by decide) rfl rfl) a_nil rfl) rfl rfl rfl rfl rfl) rfl)))
  (s_seq (s_if (c.tne (wE W) (c.mthS0 e93 (hM_next_sort W) (c.var (i := 0) rfl (.inl rfl) (by decide) (by decide)) rfl) (k_strS e85)) (s_one (s_drop (c.mthS0 e48 (hM_wrong W) (c.var (i := 0) rfl (.inl rfl) (by decide) (by decide)) rfl) rfl)) s_nil)
  (s_one (s_ret (q_tup (a_cons (c.var (i := 1) rfl (.inl rfl) (by decide) (by decide)) (a_cons (c.mthS0 e94 (hM_place W) (c.var (i := 0) rfl (.inl rfl) (by decide) (by decide)) rfl) a_nil rfl) rfl)))))))
def N89 : List Str := ["text"]
def sh89 (C : CF) : DS := (sRet (eCB (C 88) (aCons (eCB (mkI C 74 7) (aCons (eVar 0) aNil)) aNil)))
set_option maxHeartbeats 0 in
theorem w89 (C : CF) (k : Nat) (X : Cx) (hw : X.w = w) (hx : X.xe = fun _ _ => False) (c : XC T C N89 (defScope (top 78)) true k X) : PSs X (defBody (top 78)) (rdS T.G (sh89 C)) :=
  (s_one (s_ret (c.call W.gf_read_procs (W.lt 88 (by decide)) rfl (a_cons (c.make (mW_Reader W) rfl (a_cons (c.var (i := 0) rfl (.inl rfl) (by decide) (by decide)) a_nil rfl) (by decide) rfl rfl) a_nil rfl) (by decide) rfl rfl)))
def N90 : List Str := ["value"]
def sh90 (C : CF) : DS := (sRet (eAnd (eCB (C 3) (aCons (eVar 0) aNil)) (eOp fNotIn (eVar 0) (eC k_OWN_WORDS))))
set_option maxHeartbeats 0 in
theorem w90 (C : CF) (k : Nat) (X : Cx) (hw : X.w = w) (hx : X.xe = fun _ _ => False) (c : XC T C N90 (defScope (top 81)) true k X) : PSs X (defBody (top 81)) (rdS T.G (sh90 C)) :=
  (s_one (s_ret (q_and (c.call W.gf_is_name (W.lt 3 (by decide)) rfl (a_cons (c.var (i := 0) rfl (.inl rfl) (by decide) (by decide)) a_nil rfl) (by decide) rfl rfl) (pe_one (c.nin (c.var (i := 0) rfl (.inl rfl) (by decide) (by decide)) (c.glob W.gk_OWN_WORDS rfl (by decide)) rfl)))))
def N91 : List Str := ["bad", "what", "value"]
def sh91 (C : CF) : DS := (sIf (bVal (eVar 0)) sNo sNop)
set_option maxHeartbeats 0 in
theorem w91 (C : CF) (k : Nat) (X : Cx) (hw : X.w = w) (hx : X.xe = fun _ _ => False) (c : XC T C N91 (defScope (top 82)) true k X) : PSs X (defBody (top 82)) (rdS T.G (sh91 C)) :=
  (s_one (s_if (t_val (c.var (i := 0) rfl (.inl rfl) (by decide) (by decide)) (fun _ => rfl)) (s_one q_sno) s_nil))
def N92 : List Str := ["name"]
def sh92 (C : CF) : DS := (sRet (eTup (aCons (eVar 0) (aCons (eVar 0) aNil))))
set_option maxHeartbeats 0 in
theorem w92 (C : CF) (k : Nat) (X : Cx) (hw : X.w = w) (hx : X.xe = fun _ _ => False) (c : XC T C N92 (defScope (top 83)) true k X) : PSs X (defBody (top 83)) (rdS T.G (sh92 C)) :=
  (s_one (s_ret (q_tup (a_cons (c.var (i := 0) rfl (.inl rfl) (by decide) (by decide)) (a_cons (c.var (i := 0) rfl (.inl rfl) (by decide) (by decide)) a_nil rfl) rfl))))
def N93 : List Str := ["names", "name"]
def sh93 (C : CF) : DS := (sRet (eLc (iSqA (eVar 0)) (gNm 1) bYes (eCB (C 92) (aCons (eVar 1) aNil)) [1]))
set_option maxHeartbeats 0 in
theorem w93 (C : CF) (k : Nat) (X : Cx) (hw : X.w = w) (hx : X.xe = fun _ _ => False) (c : XC T C N93 (defScope (top 84)) true k X) : PSs X (defBody (top 84)) (rdS T.G (sh93 C)) :=
  (s_one (s_ret (c.lc (own := [("name", 1)]) (c.SqA (c.var (i := 0) rfl (.inl rfl) (by decide) (by decide))) (by decide +kernel) (fun X1 c1 => (c1.nmL (vs := [1]) rfl rfl (by decide))) (fun X1 c1 => ts_nil) (fun X1 c1 => (c1.call W.gf_placed (W.lt 92 (by decide)) rfl (a_cons (c1.var (i := 1) rfl (.inl rfl) (by decide) (by decide)) a_nil rfl) (by decide) rfl rfl)) (fun _ => rfl))))
def N94 : List Str := ["value", "name"]
def sh94 (C : CF) : DS := (sRet (eAnd (eCB (C 1) (aCons (eVar 0) aNil)) (eCB fAll (aCons (eLc (iSqA (eVar 0)) (gNm 1) bYes (eCB (C 90) (aCons (eVar 1) aNil)) [1]) aNil))))
set_option maxHeartbeats 0 in
theorem w94 (C : CF) (k : Nat) (X : Cx) (hw : X.w = w) (hx : X.xe = fun _ _ => False) (c : XC T C N94 (defScope (top 85)) true k X) : PSs X (defBody (top 85)) (rdS T.G (sh94 C)) :=
  (s_one (s_ret (q_and (c.call W.gf_is_list (W.lt 1 (by decide)) rfl (a_cons (c.var (i := 0) rfl (.inl rfl) (by decide) (by decide)) a_nil rfl) (by decide) rfl rfl) (pe_one (c.cb (c.kx (r := rAll) (cr_all c.cal)) s_all W.fr_all boot_all rfl (a_cons (c.lc (own := [("name", 1)]) (c.SqA (c.var (i := 0) rfl (.inl rfl) (by decide) (by decide))) (by decide +kernel) (fun X1 c1 => (c1.nmL (vs := [1]) rfl rfl (by decide))) (fun X1 c1 => ts_nil) (fun X1 c1 => (c1.call W.gf_is_free_name (W.lt 90 (by decide)) rfl (a_cons (c1.var (i := 1) rfl (.inl rfl) (by decide) (by decide)) a_nil rfl) (by decide) rfl rfl)) (fun _ => rfl)) a_nil rfl) (by decide) (by decide) rfl rfl)))))
def N95 : List Str := ["body", "what", "value", "storey", "statement"]
def sh95 (C : CF) : DS := (sSeq (sDrop (eCB (C 91) (aCons (eNot (eCB (C 1) (aCons (eVar 0) aNil))) (aCons (eVar 1) (aCons (eVar 2) aNil)))))
  (sRet (eLc (iSqA (eVar 0)) (gNm 4) bYes (eCB (C 96) (aCons (eVar 4) (aCons (eVar 3) aNil))) [4])))
set_option maxHeartbeats 0 in
theorem w95 (C : CF) (k : Nat) (X : Cx) (hw : X.w = w) (hx : X.xe = fun _ _ => False) (c : XC T C N95 (defScope (top 86)) true k X) : PSs X (defBody (top 86)) (rdS T.G (sh95 C)) :=
  (s_seq (s_drop (c.call W.gf_wrong_if (W.lt 91 (by decide)) rfl (a_cons (q_not (c.call W.gf_is_list (W.lt 1 (by decide)) rfl (a_cons (c.var (i := 0) rfl (.inl rfl) (by decide) (by decide)) a_nil rfl) (by decide) rfl rfl)) (a_cons (c.var (i := 1) rfl (.inl rfl) (by decide) (by decide)) (a_cons (c.var (i := 2) rfl (.inl rfl) (by decide) (by decide)) a_nil rfl) rfl) rfl) (by decide) rfl rfl) rfl)
  (s_one (s_ret (c.lc (own := [("statement", 4)]) (c.SqA (c.var (i := 0) rfl (.inl rfl) (by decide) (by decide))) (by decide +kernel) (fun X1 c1 => (c1.nmL (vs := [4]) rfl rfl (by decide))) (fun X1 c1 => ts_nil) (fun X1 c1 => (c1.call W.gf_statement_told (W.lt 96 (by decide)) rfl (a_cons (c1.var (i := 4) rfl (.inl rfl) (by decide) (by decide)) (a_cons (c1.var (i := 3) rfl (.inr (.inl rfl)) (by decide) (by decide)) a_nil rfl) rfl) (by decide) rfl rfl)) (fun _ => rfl)))))
def N96 : List Str := ["statement", "storey", "bad", "sort", "length", "bodies", "holds", "given", "body", "name"]
def sh96 (C : CF) : DS := (sSeq (sAsg (eOr (eNot (eCB (C 1) (aCons (eVar 0) aNil))) (eOr (eOp (fEqA C wEl) (eCB fLen (aCons (eVar 0) aNil)) (eC (.int (Int.ofNat 0)))) (eNot (eIsi [kt_3] nC (eOp fIx (eVar 0) (eC (.int (Int.ofNat 0)))))))) (gNm 2))
  (sSeq (sDrop (eCB (C 91) (aCons (eVar 2) (aCons (eC (.str n4)) (aCons (eVar 0) aNil)))))
  (sSeq (sAsg (eOp fIx (eVar 0) (eC (.int (Int.ofNat 0)))) (gNm 3))
  (sSeq (sAsg (eIf (bVal (eOp fIn (eVar 3) (eC k_OF_ONE))) (eC (.int (Int.ofNat 2))) (eIf (bVal (eOp fIn (eVar 3) (eC k_OF_TWO))) (eC (.int (Int.ofNat 3))) (eKGet 2000 tb_LENGTHS (eC (.glo 2000)) (aCons (eVar 3) (aCons (eC (.int (Int.ofNat 0))) aNil))))) (gNm 4))
  (sSeq (sDrop (eCB (C 91) (aCons (eOp (fNeA C wEl) (eCB fLen (aCons (eVar 0) aNil)) (eVar 4)) (aCons (eC (.str n4)) (aCons (eVar 0) aNil)))))
  (sSeq (sIf (bVal (eOp fIn (eVar 3) (eTup (aCons (eC (.str n7)) (aCons (eC (.str n9)) aNil))))) (sSeq (sDrop (eCB (C 91) (aCons (eNot (eCB fAll (aCons (eLc (iSqA (eSl (eVar 0) (oSome (eC (.int (Int.ofNat 1)))) oNo)) (gNm 8) bYes (eCB (C 1) (aCons (eVar 8) aNil)) [8]) aNil))) (aCons (eC (.str n4)) (aCons (eVar 0) aNil)))))
  (sSeq (sDrop (eCB (C 91) (aCons (eOp (fEqA C wEl) (eVar 1) (eC k_MOST_STOREYS)) (aCons (eC (.str n99)) (aCons (eVar 0) aNil)))))
  (sSeq (sAsg (eLc (iSqA (eSl (eVar 0) (oSome (eC (.int (Int.ofNat 1)))) oNo)) (gNm 8) bYes (eCB (C 95) (aCons (eVar 8) (aCons (eC (.str n4)) (aCons (eVar 0) (aCons (eOp fAdd (eVar 1) (eC (.int (Int.ofNat 1)))) aNil))))) [8]) (gNm 5))
  (sRet (eOp fAdd (eTup (aCons (eVar 3) (aCons (eVar 0) aNil))) (eCB fTupleA (aCons (eVar 5) aNil))))))) sNop)
  (sSeq (sIf (bVal (eOp (fEqA C wEl) (eVar 3) (eC (.str n10)))) (sSeq (sAsg (eOr (eNot (eIsi [kt_3] nC (eOp fIx (eVar 0) (eC (.int (Int.ofNat 1)))))) (eOp (fNeA C wEl) (eOp fIx (eVar 0) (eC (.int (Int.ofNat 1)))) (eC (.str n11)))) (gNm 6))
  (sSeq (sDrop (eCB (C 91) (aCons (eAnd (eVar 6) (eNot (eCB (C 90) (aCons (eOp fIx (eVar 0) (eC (.int (Int.ofNat 1)))) aNil)))) (aCons (eC (.str n4)) (aCons (eVar 0) aNil)))))
  (sSeq (sDrop (eCB (C 91) (aCons (eOr (eNot (eCB (C 90) (aCons (eOp fIx (eVar 0) (eC (.int (Int.ofNat 2)))) aNil))) (eNot (eCB (C 94) (aCons (eOp fIx (eVar 0) (eC (.int (Int.ofNat 3)))) aNil)))) (aCons (eC (.str n4)) (aCons (eVar 0) aNil)))))
  (sSeq (sAsg (eCB (C 93) (aCons (eOp fIx (eVar 0) (eC (.int (Int.ofNat 3)))) aNil)) (gNm 7))
  (sRet (eTup (aCons (eVar 3) (aCons (eVar 0) (aCons (eIf (bVal (eVar 6)) (eCB (C 92) (aCons (eOp fIx (eVar 0) (eC (.int (Int.ofNat 1)))) aNil)) (eC .non)) (aCons (eCB (C 92) (aCons (eOp fIx (eVar 0) (eC (.int (Int.ofNat 2)))) aNil)) (aCons (eVar 7) aNil))))))))))) sNop)
  (sSeq (sDrop (eCB (C 91) (aCons (eNot (eCB fAll (aCons (eLc (iSqA (eSl (eVar 0) (oSome (eC (.int (Int.ofNat 1)))) oNo)) (gNm 9) bYes (eCB (C 90) (aCons (eVar 9) aNil)) [9]) aNil))) (aCons (eC (.str n4)) (aCons (eVar 0) aNil)))))
  (sRet (eOp fAdd (eTup (aCons (eVar 3) (aCons (eVar 0) aNil))) (eCB fTupleA (aCons (eCB (C 93) (aCons (eSl (eVar 0) (oSome (eC (.int (Int.ofNat 1)))) oNo) aNil)) aNil))))))))))))
set_option maxHeartbeats 0 in
theorem w96 (C : CF) (k : Nat) (X : Cx) (hw : X.w = w) (hx : X.xe = fun _ _ => False) (c : XC T C N96 (defScope (top 87)) true k X) : PSs X (defBody (top 87)) (rdS T.G (sh96 C)) :=
  (s_seq (c.setL rfl rfl (q_or (q_not (c.call W.gf_is_list (W.lt 1 (by decide)) rfl (a_cons (c.var (i := 0) rfl (.inr (.inl rfl)) (by decide) (by decide)) a_nil rfl) (by decide) rfl rfl)) (q_or (c.eq (wE W) (c.cb (c.kx (r := rLenA) c_len) s_len W.fr_len PySem.boot_len rfl (a_cons (c.var (i := 0) rfl (.inr (.inl rfl)) (by decide) (by decide)) a_nil rfl) (by decide) (by decide) rfl rfl) k_int) (pe_one (q_not (c.isi W.own W.kt_3 (c.clsT W.fr_str rfl boot_str rfl (by decide) (by decide)) W.fr_isinstance boot_isinstance rfl (c.ix (c.var (i := 0) rfl (.inr (.inl rfl)) (by decide) (by decide)) k_int (fun _ _ => rfl)) rfl rfl rfl))))) rfl)
  (s_seq (s_drop (c.call W.gf_wrong_if (W.lt 91 (by decide)) rfl (a_cons (c.var (i := 2) rfl (.inl rfl) (by decide) (by decide)) (a_cons (k_strS e4) (a_cons (c.var (i := 0) rfl (.inr (.inl rfl)) (by decide) (by decide)) a_nil rfl) rfl) rfl) (by decide) rfl rfl) rfl)
  (s_seq (c.setL rfl rfl (c.ix (c.var (i := 0) rfl (.inr (.inl rfl)) (by decide) (by decide)) k_int (fun _ _ => rfl)) rfl)
  (s_seq (c.setL rfl rfl (q_if (c.tin (c.var (i := 3) rfl (.inl rfl) (by decide) (by decide)) (c.glob W.gk_OF_ONE rfl (by decide)) rfl) k_int (q_if (c.tin (c.var (i := 3) rfl (.inl rfl) (by decide) (by decide)) (c.glob W.gk_OF_TWO rfl (by decide)) rfl) k_int (c.kget (by rw [hw]; exact W.tb_LENGTHS) (c.glob W.gt_LENGTHS rfl (by decide)) (a_cons (c.var (i := 3) rfl (.inl rfl) (by decide) (by decide)) (a_cons k_int a_nil rfl) rfl) rfl rfl rfl rfl rfl))) rfl)
  (s_seq (s_drop (c.call W.gf_wrong_if (W.lt 91 (by decide)) rfl (a_cons (c.ne (wE W) (c.cb (c.kx (r := rLenA) c_len) s_len W.fr_len PySem.boot_len rfl (a_cons (c.var (i := 0) rfl (.inr (.inl rfl)) (by decide) (by decide)) a_nil rfl) (by decide) (by decide) rfl rfl) (c.var (i := 4) rfl (.inl rfl) (by decide) (by decide))) (a_cons (k_strS e4) (a_cons (c.var (i := 0) rfl (.inr (.inl rfl)) (by decide) (by decide)) a_nil rfl) rfl) rfl) (by decide) rfl rfl) rfl)
  (s_seq (s_if (c.tin (c.var (i := 3) rfl (.inl rfl) (by decide) (by decide)) (q_tup (a_cons (k_strS e7) (a_cons (k_strS e9) a_nil rfl) rfl)) rfl) (s_seq (s_drop (c.call W.gf_wrong_if (W.lt 91 (by decide)) rfl (a_cons (q_not (c.cb (c.kx (r := rAll) (cr_all c.cal)) s_all W.fr_all boot_all rfl (a_cons (c.lc (own := [("body", 8)]) (c.SqA (c.sl (c.var (i := 0) rfl (.inr (.inl rfl)) (by decide) (by decide)) (o_some k_int) o_no)) (by decide +kernel) (fun X1 c1 => (c1.nmL (vs := [8]) rfl rfl (by decide))) (fun X1 c1 => ts_nil) (fun X1 c1 => (c1.call W.gf_is_list (W.lt 1 (by decide)) rfl (a_cons (c1.var (i := 8) rfl (.inl rfl) (by decide) (by decide)) a_nil rfl) (by decide) rfl rfl)) (fun _ => rfl)) a_nil rfl) (by decide) (by decide) rfl rfl)) (a_cons (k_strS e4) (a_cons (c.var (i := 0) rfl (.inr (.inl rfl)) (by decide) (by decide)) a_nil rfl) rfl) rfl) (by decide) rfl rfl) rfl)
  (s_seq (s_drop (c.call W.gf_wrong_if (W.lt 91 (by decide)) rfl (a_cons (c.eq (wE W) (c.var (i := 1) rfl (.inr (.inl rfl)) (by decide) (by decide)) (c.glob W.gk_MOST_STOREYS rfl (by decide))) (a_cons (k_strS e99) (a_cons (c.var (i := 0) rfl (.inr (.inl rfl)) (by decide) (by decide)) a_nil rfl) rfl) rfl) (by decide) rfl rfl) rfl)
  (s_seq (c.setLc (i := 5) rfl rfl rfl rfl rfl (own := [("body", 8)]) (c.SqA (c.sl (c.var (i := 0) rfl (.inr (.inl rfl)) (by decide) (by decide)) (o_some k_int) o_no)) (by decide +kernel) (fun X1 c1 => (c1.nmL (vs := [8]) rfl rfl (by decide))) (fun X1 c1 => ts_nil) (fun X1 c1 => (c1.call W.gf_body_told (W.lt 95 (by decide)) rfl (a_cons (c1.var (i := 8) rfl (.inl rfl) (by decide) (by decide)) (a_cons (k_strS e4) (a_cons (c1.var (i := 0) rfl (.inr (.inl rfl)) (by decide) (by decide)) (a_cons (c1.add (c1.var (i := 1) rfl (.inr (.inl rfl)) (by decide) (by decide)) k_int) a_nil rfl) rfl) rfl) rfl) (by decide) rfl rfl)) (fun _ => rfl))
  (s_one (s_ret (c.add (q_tup (a_cons (c.var (i := 3) rfl (.inl rfl) (by decide) (by decide)) (a_cons (c.var (i := 0) rfl (.inr (.inl rfl)) (by decide) (by decide)) a_nil rfl) rfl)) (c.ct (c.kx (r := rTupleAD) (c_tupleA c.cal)) s_tupleA W.fr_tuple boot_tuple rfl (a_cons (c.var (i := 5) rfl (.inl rfl) (by decide) (by decide)) a_nil rfl) (by decide) (by decide) rfl rfl))))))) s_nil)
  (s_seq (s_if (c.teq (wE W) (c.var (i := 3) rfl (.inl rfl) (by decide) (by decide)) (k_strS e10)) (s_seq (c.setL rfl rfl (q_or (q_not (c.isi W.own W.kt_3 (c.clsT W.fr_str rfl boot_str rfl (by decide) (by decide)) W.fr_isinstance boot_isinstance rfl (c.ix (c.var (i := 0) rfl (.inr (.inl rfl)) (by decide) (by decide)) k_int (fun _ _ => rfl)) rfl rfl rfl)) (pe_one (c.ne (wE W) (c.ix (c.var (i := 0) rfl (.inr (.inl rfl)) (by decide) (by decide)) k_int (fun _ _ => rfl)) (k_strS e11)))) rfl)
  (s_seq (s_drop (c.call W.gf_wrong_if (W.lt 91 (by decide)) rfl (a_cons (q_and (c.var (i := 6) rfl (.inl rfl) (by decide) (by decide)) (pe_one (q_not (c.call W.gf_is_free_name (W.lt 90 (by decide)) rfl (a_cons (c.ix (c.var (i := 0) rfl (.inr (.inl rfl)) (by decide) (by decide)) k_int (fun _ _ => rfl)) a_nil rfl) (by decide) rfl rfl)))) (a_cons (k_strS e4) (a_cons (c.var (i := 0) rfl (.inr (.inl rfl)) (by decide) (by decide)) a_nil rfl) rfl) rfl) (by decide) rfl rfl) rfl)
  (s_seq (s_drop (c.call W.gf_wrong_if (W.lt 91 (by decide)) rfl (a_cons (q_or (q_not (c.call W.gf_is_free_name (W.lt 90 (by decide)) rfl (a_cons (c.ix (c.var (i := 0) rfl (.inr (.inl rfl)) (by decide) (by decide)) k_int (fun _ _ => rfl)) a_nil rfl) (by decide) rfl rfl)) (pe_one (q_not (c.call W.gf_are_free_names (W.lt 94 (by decide)) rfl (a_cons (c.ix (c.var (i := 0) rfl (.inr (.inl rfl)) (by decide) (by decide)) k_int (fun _ _ => rfl)) a_nil rfl) (by decide) rfl rfl)))) (a_cons (k_strS e4) (a_cons (c.var (i := 0) rfl (.inr (.inl rfl)) (by decide) (by decide)) a_nil rfl) rfl) rfl) (by decide) rfl rfl) rfl)
  (s_seq (c.setL rfl rfl (c.call W.gf_names_placed (W.lt 93 (by decide)) rfl (a_cons (c.ix (c.var (i := 0) rfl (.inr (.inl rfl)) (by decide) (by decide)) k_int (fun _ _ => rfl)) a_nil rfl) (by decide) rfl rfl) rfl)
  (s_one (s_ret (q_tup (a_cons (c.var (i := 3) rfl (.inl rfl) (by decide) (by decide)) (a_cons (c.var (i := 0) rfl (.inr (.inl rfl)) (by decide) (by decide)) (a_cons (q_if (t_val (c.var (i := 6) rfl (.inl rfl) (by decide) (by decide)) (fun _ => rfl)) (c.call W.gf_placed (W.lt 92 (by decide)) rfl (a_cons (c.ix (c.var (i := 0) rfl (.inr (.inl rfl)) (by decide) (by decide)) k_int (fun _ _ => rfl)) a_nil rfl) (by decide) rfl rfl) k_non) (a_cons (c.call W.gf_placed (W.lt 92 (by decide)) rfl (a_cons (c.ix (c.var (i := 0) rfl (.inr (.inl rfl)) (by decide) (by decide)) k_int (fun _ _ => rfl)) a_nil rfl) (by decide) rfl rfl) (a_cons (c.var (i := 7) rfl (.inl rfl) (by decide) (by decide)) a_nil rfl) rfl) rfl) rfl) rfl)))))))) s_nil)
  (s_seq (s_drop (c.call W.gf_wrong_if (W.lt 91 (by decide)) rfl (a_cons (q_not (c.cb (c.kx (r := rAll) (cr_all c.cal)) s_all W.fr_all boot_all rfl (a_cons (c.lc (own := [("name", 9)]) (c.SqA (c.sl (c.var (i := 0) rfl (.inr (.inl rfl)) (by decide) (by decide)) (o_some k_int) o_no)) (by decide +kernel) (fun X1 c1 => (c1.nmL (vs := [9]) rfl rfl (by decide))) (fun X1 c1 => ts_nil) (fun X1 c1 => (c1.call W.gf_is_free_name (W.lt 90 (by decide)) rfl (a_cons (c1.var (i := 9) rfl (.inl rfl) (by decide) (by decide)) a_nil rfl) (by decide) rfl rfl)) (fun _ => rfl)) a_nil rfl) (by decide) (by decide) rfl rfl)) (a_cons (k_strS e4) (a_cons (c.var (i := 0) rfl (.inr (.inl rfl)) (by decide) (by decide)) a_nil rfl) rfl) rfl) (by decide) rfl rfl) rfl)
  (s_one (s_ret (c.add (q_tup (a_cons (c.var (i := 3) rfl (.inl rfl) (by decide) (by decide)) (a_cons (c.var (i := 0) rfl (.inr (.inl rfl)) (by decide) (by decide)) a_nil rfl) rfl)) (c.ct (c.kx (r := rTupleAD) (c_tupleA c.cal)) s_tupleA W.fr_tuple boot_tuple rfl (a_cons (c.call W.gf_names_placed (W.lt 93 (by decide)) rfl (a_cons (c.sl (c.var (i := 0) rfl (.inr (.inl rfl)) (by decide) (by decide)) (o_some k_int) o_no) a_nil rfl) (by decide) rfl rfl) a_nil rfl) (by decide) (by decide) rfl rfl))))))))))))
def N97 : List Str := ["proc", "gives", "body"]
def sh97 (C : CF) : DS := (sSeq (sDrop (eCB (C 91) (aCons (eOr (eNot (eCB (C 1) (aCons (eVar 0) aNil))) (eOr (eOp (fNeA C wEl) (eCB fLen (aCons (eVar 0) aNil)) (eC (.int (Int.ofNat 4)))) (eNot (eCB (C 90) (aCons (eOp fIx (eVar 0) (eC (.int (Int.ofNat 0)))) aNil))))) (aCons (eC (.str n16)) (aCons (eVar 0) aNil)))))
  (sSeq (sAsg (eCB (C 90) (aCons (eOp fIx (eVar 0) (eC (.int (Int.ofNat 3)))) aNil)) (gNm 1))
  (sSeq (sDrop (eCB (C 91) (aCons (eOr (eNot (eCB (C 94) (aCons (eOp fIx (eVar 0) (eC (.int (Int.ofNat 1)))) aNil))) (eNot (eOr (eVar 1) (eAnd (eIsi [kt_3] nC (eOp fIx (eVar 0) (eC (.int (Int.ofNat 3))))) (eOp (fEqA C wEl) (eOp fIx (eVar 0) (eC (.int (Int.ofNat 3)))) (eC (.str n11))))))) (aCons (eC (.str n16)) (aCons (eVar 0) aNil)))))
  (sSeq (sAsg (eCB (C 95) (aCons (eOp fIx (eVar 0) (eC (.int (Int.ofNat 2)))) (aCons (eC (.str n16)) (aCons (eVar 0) (aCons (eC (.int (Int.ofNat 1))) aNil))))) (gNm 2))
  (sRet (eTup (aCons (eCB (C 92) (aCons (eOp fIx (eVar 0) (eC (.int (Int.ofNat 0)))) aNil)) (aCons (eCB (C 93) (aCons (eOp fIx (eVar 0) (eC (.int (Int.ofNat 1)))) aNil)) (aCons (eVar 2) (aCons (eIf (bVal (eVar 1)) (eCB (C 92) (aCons (eOp fIx (eVar 0) (eC (.int (Int.ofNat 3)))) aNil)) (eC .non)) aNil))))))))))
set_option maxHeartbeats 0 in
theorem w97 (C : CF) (k : Nat) (X : Cx) (hw : X.w = w) (hx : X.xe = fun _ _ => False) (c : XC T C N97 (defScope (top 88)) true k X) : PSs X (defBody (top 88)) (rdS T.G (sh97 C)) :=
  (s_seq (s_drop (c.call W.gf_wrong_if (W.lt 91 (by decide)) rfl (a_cons (q_or (q_not (c.call W.gf_is_list (W.lt 1 (by decide)) rfl (a_cons (c.var (i := 0) rfl (.inl rfl) (by decide) (by decide)) a_nil rfl) (by decide) rfl rfl)) (q_or (c.ne (wE W) (c.cb (c.kx (r := rLenA) c_len) s_len W.fr_len PySem.boot_len rfl (a_cons (c.var (i := 0) rfl (.inl rfl) (by decide) (by decide)) a_nil rfl) (by decide) (by decide) rfl rfl) k_int) (pe_one (q_not (c.call W.gf_is_free_name (W.lt 90 (by decide)) rfl (a_cons (c.ix (c.var (i := 0) rfl (.inl rfl) (by decide) (by decide)) k_int (fun _ _ => rfl)) a_nil rfl) (by decide) rfl rfl))))) (a_cons (k_strS e16) (a_cons (c.var (i := 0) rfl (.inl rfl) (by decide) (by decide)) a_nil rfl) rfl) rfl) (by decide) rfl rfl) rfl)
  (s_seq (c.setL rfl rfl (c.call W.gf_is_free_name (W.lt 90 (by decide)) rfl (a_cons (c.ix (c.var (i := 0) rfl (.inl rfl) (by decide) (by decide)) k_int (fun _ _ => rfl)) a_nil rfl) (by decide) rfl rfl) rfl)
  (s_seq (s_drop (c.call W.gf_wrong_if (W.lt 91 (by decide)) rfl (a_cons (q_or (q_not (c.call W.gf_are_free_names (W.lt 94 (by decide)) rfl (a_cons (c.ix (c.var (i := 0) rfl (.inl rfl) (by decide) (by decide)) k_int (fun _ _ => rfl)) a_nil rfl) (by decide) rfl rfl)) (pe_one (q_not (q_or (c.var (i := 1) rfl (.inl rfl) (by decide) (by decide)) (pe_one (q_and (c.isi W.own W.kt_3 (c.clsT W.fr_str rfl boot_str rfl (by decide) (by decide)) W.fr_isinstance boot_isinstance rfl (c.ix (c.var (i := 0) rfl (.inl rfl) (by decide) (by decide)) k_int (fun _ _ => rfl)) rfl rfl rfl) (pe_one (c.eq (wE W) (c.ix (c.var (i := 0) rfl (.inl rfl) (by decide) (by decide)) k_int (fun _ _ => rfl)) (k_strS e11))))))))) (a_cons (k_strS e16) (a_cons (c.var (i := 0) rfl (.inl rfl) (by decide) (by decide)) a_nil rfl) rfl) rfl) (by decide) rfl rfl) rfl)
  (s_seq (c.setL rfl rfl (c.call W.gf_body_told (W.lt 95 (by decide)) rfl (a_cons (c.ix (c.var (i := 0) rfl (.inl rfl) (by decide) (by decide)) k_int (fun _ _ => rfl)) (a_cons (k_strS e16) (a_cons (c.var (i := 0) rfl (.inl rfl) (by decide) (by decide)) (a_cons k_int a_nil rfl) rfl) rfl) rfl) (by decide) rfl rfl) rfl)
  (s_one (s_ret (q_tup (a_cons (c.call W.gf_placed (W.lt 92 (by decide)) rfl (a_cons (c.ix (c.var (i := 0) rfl (.inl rfl) (by decide) (by decide)) k_int (fun _ _ => rfl)) a_nil rfl) (by decide) rfl rfl) (a_cons (c.call W.gf_names_placed (W.lt 93 (by decide)) rfl (a_cons (c.ix (c.var (i := 0) rfl (.inl rfl) (by decide) (by decide)) k_int (fun _ _ => rfl)) a_nil rfl) (by decide) rfl rfl) (a_cons (c.var (i := 2) rfl (.inl rfl) (by decide) (by decide)) (a_cons (q_if (t_val (c.var (i := 1) rfl (.inl rfl) (by decide) (by decide)) (fun _ => rfl)) (c.call W.gf_placed (W.lt 92 (by decide)) rfl (a_cons (c.ix (c.var (i := 0) rfl (.inl rfl) (by decide) (by decide)) k_int (fun _ _ => rfl)) a_nil rfl) (by decide) rfl rfl) k_non) a_nil rfl) rfl) rfl) rfl))))))))
def N98 : List Str := ["self", "procs", "told", "flaw", "proc"]
def sh98 (C : CF) : DS := (sSeq (sDrop (eCB (C 91) (aCons (eNot (eCB (C 1) (aCons (eVar 1) aNil))) (aCons (eC (.str n13)) (aCons (eVar 1) aNil)))))
  (sSeq (sAsg (eLc (iSqA (eVar 1)) (gNm 4) bYes (eCB (C 97) (aCons (eVar 4) aNil)) [4]) (gNm 2))
  (sSeq (sDrop (eCB (C 64) (aCons (eVar 2) (aCons (eVar 1) aNil))))
  (sSeq (sFldS fl_procs n13 (eVar 0) (eCB fTupleA (aCons (eLc (iSqA (eVar 2)) (gNm 4) bYes (eCB (C 55) (aCons (eVar 4) aNil)) [4]) aNil)))
  (sFldS fl_written n102 (eVar 0) (eCB (C 68) (aCons (eFld fl_procs n13 (eVar 0)) aNil)))))))
set_option maxHeartbeats 0 in
theorem w98 (C : CF) (k : Nat) (X : Cx) (hw : X.w = w) (hx : X.xe = fun _ _ => False) (c : XC T C N98 (defScope (sub 89 0)) true k X) : PSs X (defBody (sub 89 0)) (rdS T.G (sh98 C)) :=
  (s_seq (s_drop (c.call W.gf_wrong_if (W.lt 91 (by decide)) rfl (a_cons (q_not (c.call W.gf_is_list (W.lt 1 (by decide)) rfl (a_cons (c.var (i := 1) rfl (.inl rfl) (by decide) (by decide)) a_nil rfl) (by decide) rfl rfl)) (a_cons (k_strS e13) (a_cons (c.var (i := 1) rfl (.inl rfl) (by decide) (by decide)) a_nil rfl) rfl) rfl) (by decide) rfl rfl) rfl)
  (s_seq (c.setLc (i := 2) rfl rfl rfl rfl rfl (own := [("proc", 4)]) (c.SqA (c.var (i := 1) rfl (.inl rfl) (by decide) (by decide))) (by decide +kernel) (fun X1 c1 => (c1.nmL (vs := [4]) rfl rfl (by decide))) (fun X1 c1 => ts_nil) (fun X1 c1 => (c1.call W.gf_proc_placed (W.lt 97 (by decide)) rfl (a_cons (c1.var (i := 4) rfl (.inl rfl) (by decide) (by decide)) a_nil rfl) (by decide) rfl rfl)) (fun _ => rfl))
  (s_seq (s_try (s_one (s_drop (c.call W.gf_kinds_looked (W.lt 64 (by decide)) rfl (a_cons (c.var (i := 2) rfl (.inl rfl) (by decide) (by decide)) (a_cons (c.var (i := 1) rfl (.inl rfl) (by decide) (by decide)) a_nil rfl) rfl) (by decide) rfl rfl) rfl)) hx)
  (s_seq (c.sfld e13 (fW_procs W) (c.var (i := 0) rfl (.inl rfl) (by decide) (by decide)) (c.ct (c.kx (r := rTupleAD) (c_tupleA c.cal)) s_tupleA W.fr_tuple boot_tuple rfl (a_cons (c.lc (own := [("proc", 4)]) (c.SqA (c.var (i := 2) rfl (.inl rfl) (by decide) (by decide))) (by decide +kernel) (fun X1 c1 => (c1.nmL (vs := [4]) rfl rfl (by decide))) (fun X1 c1 => ts_nil) (fun X1 c1 => (c1.call W.gf_bare_proc (W.lt 55 (by decide)) rfl (a_cons (c1.var (i := 4) rfl (.inl rfl) (by decide) (by decide)) a_nil rfl) (by decide) rfl rfl)) (fun _ => rfl)) a_nil rfl) (by decide) (by decide) rfl rfl) rfl)
  (s_one (c.sfld e102 (fW_written W) (c.var (i := 0) rfl (.inl rfl) (by decide) (by decide)) (c.call W.gf_book_text (W.lt 68 (by decide)) rfl (a_cons (c.fldS e13 (fW_procs W) (c.var (i := 0) rfl (.inl rfl) (by decide) (by decide)) rfl) a_nil rfl) (by decide) rfl rfl) rfl))))))
def N99 : List Str := ["self", "other"]
def sh99 (C : CF) : DS := (sRet (eAnd (eIsi [kt_15] nC (eVar 1)) (eOp (fEqA C wEl) (eFld fl_procs n13 (eVar 0)) (eFld fl_procs n13 (eVar 1)))))
set_option maxHeartbeats 0 in
theorem w99 (C : CF) (k : Nat) (X : Cx) (hw : X.w = w) (hx : X.xe = fun _ _ => False) (c : XC T C N99 (defScope (sub 89 1)) true k X) : PSs X (defBody (sub 89 1)) (rdS T.G (sh99 C)) :=
  (s_one (s_ret (q_and (c.isi W.own W.kt_15 (c.clsO W.gc_Book rfl (by decide)) W.fr_isinstance boot_isinstance rfl (c.var (i := 1) rfl (.inl rfl) (by decide) (by decide)) rfl rfl rfl) (pe_one (c.eq (wE W) (c.fldS e13 (fW_procs W) (c.var (i := 0) rfl (.inl rfl) (by decide) (by decide)) rfl) (c.fldS e13 (fW_procs W) (c.var (i := 1) rfl (.inl rfl) (by decide) (by decide)) rfl))))))
def N100 : List Str := ["cls", "text"]
def sh100 (C : CF) : DS := (sRet (eMkL C 0 8 8 98 (aCons (eCB (C 101) (aCons (eVar 1) aNil)) aNil)))
set_option maxHeartbeats 0 in
theorem w100 (C : CF) (k : Nat) (X : Cx) (hw : X.w = w) (hx : X.xe = fun _ _ => False) (c : XC T C N100 (defScope (sub 89 3)) true k X) : PSs X (defBody (sub 89 3)) (rdS T.G (sh100 C)) :=
  (s_one (s_ret (c.mkl W.ml_Book rfl rfl (a_cons (c.call W.gf_values_read (W.lt 101 (by decide)) rfl (a_cons (c.var (i := 1) rfl (.inl rfl) (by decide) (by decide)) a_nil rfl) (by decide) rfl rfl) a_nil rfl) (by decide) (by decide) rfl rfl)))
def N101 : List Str := ["text", "procs", "end", "flaw", "proc"]
def sh101 (C : CF) : DS := (sSeq (sAsg (eCB (C 89) (aCons (eVar 0) aNil)) (gTp 2 (gsCons (gNm 1) (gsCons (gNm 2) gsNil))))
  (sSeq (sDrop (eCB (C 64) (aCons (eVar 1) (aCons (eVar 2) aNil))))
  (sRet (eCB fTupleA (aCons (eLc (iSqA (eVar 1)) (gNm 4) bYes (eCB (C 55) (aCons (eVar 4) aNil)) [4]) aNil)))))
set_option maxHeartbeats 0 in
theorem w101 (C : CF) (k : Nat) (X : Cx) (hw : X.w = w) (hx : X.xe = fun _ _ => False) (c : XC T C N101 (defScope (top 90)) true k X) : PSs X (defBody (top 90)) (rdS T.G (sh101 C)) :=
  (s_seq (s_asg (c.call W.gf_read_book (W.lt 89 (by decide)) rfl (a_cons (c.var (i := 0) rfl (.inl rfl) (by decide) (by decide)) a_nil rfl) (by decide) rfl rfl) (c.tp (n := 2) (gs_cons (c.nmL (vs := [1, 2]) rfl rfl (by decide)) (gs_cons (c.nmL (vs := [1, 2]) rfl rfl (by decide)) gs_nil rfl) rfl) rfl rfl) rfl rfl rfl)
  (s_seq (s_try (s_one (s_drop (c.call W.gf_kinds_looked (W.lt 64 (by decide)) rfl (a_cons (c.var (i := 1) rfl (.inl rfl) (by decide) (by decide)) (a_cons (c.var (i := 2) rfl (.inl rfl) (by decide) (by decide)) a_nil rfl) rfl) (by decide) rfl rfl) rfl)) hx)
  (s_one (s_ret (c.ct (c.kx (r := rTupleAD) (c_tupleA c.cal)) s_tupleA W.fr_tuple boot_tuple rfl (a_cons (c.lc (own := [("proc", 4)]) (c.SqA (c.var (i := 1) rfl (.inl rfl) (by decide) (by decide))) (by decide +kernel) (fun X1 c1 => (c1.nmL (vs := [4]) rfl rfl (by decide))) (fun X1 c1 => ts_nil) (fun X1 c1 => (c1.call W.gf_bare_proc (W.lt 55 (by decide)) rfl (a_cons (c1.var (i := 4) rfl (.inl rfl) (by decide) (by decide)) a_nil rfl) (by decide) rfl rfl)) (fun _ => rfl)) a_nil rfl) (by decide) (by decide) rfl rfl)))))
def N102 : List Str := ["pen", "many", "cell", "digit", "blend"]
def sh102 (C : CF) : DS := (sSeq (sSub (eOp fAdd (eOp fIx (eVar 0) (eC (.str n103))) (eC (.int (Int.ofNat 1)))) (eVar 0) (eC (.str n103)))
  (sSeq (sIf (bAnd (bVal (eOp (fEqA C wEl) (eOp fIx (eVar 0) (eC (.str n104))) (eC (.int (Int.ofNat 0))))) (bVal (eOp fLt (eOp fIx (eVar 0) (eC (.str n88))) (eCB fLen (aCons (eOp fIx (eVar 0) (eC (.str n105))) aNil))))) (sSeq (sAsg (eOp fIx (eOp fIx (eVar 0) (eC (.str n105))) (eOp fIx (eVar 0) (eC (.str n88)))) (gNm 2))
  (sSeq (sSub (eOp fAdd (eOp fIx (eVar 0) (eC (.str n88))) (eC (.int (Int.ofNat 1)))) (eVar 0) (eC (.str n88)))
  (sIf (bVal (eOp fGe (eVar 2) (eOp fPow (eC (.int (Int.ofNat 10))) (eC (.int (Int.ofNat 18)))))) (sSub (eOp fSub (eVar 2) (eOp fPow (eC (.int (Int.ofNat 10))) (eC (.int (Int.ofNat 18))))) (eVar 0) (eC (.str n104))) (sSub (eOp fMod (eCB fInt (aCons (eOp fAdd (eOp fMul (eOp fIx (eVar 0) (eC (.str n106))) (eC (.int (Int.ofNat 48271)))) (eVar 2)) aNil)) (eC (.int (Int.ofNat 2147483563)))) (eVar 0) (eC (.str n106)))))) sNop)
  (sSeq (sIf (bVal (eOp fGt (eOp fIx (eVar 0) (eC (.str n104))) (eC (.int (Int.ofNat 0))))) (sSeq (sAsg (eOp fMod (eCB fInt (aCons (eOp fIx (eVar 0) (eC (.str n104))) aNil)) (eVar 1)) (gNm 3))
  (sSeq (sSub (eOp fFdiv (eOp fIx (eVar 0) (eC (.str n104))) (eVar 1)) (eVar 0) (eC (.str n104)))
  (sRet (eVar 3)))) sNop)
  (sSeq (sAsg (eOp fAdd (eOp fAdd (eOp fIx (eVar 0) (eC (.str n106))) (eOp fMul (eOp fIx (eVar 0) (eC (.str n103))) (eC (.int (Int.ofNat 8513))))) (eC (.int (Int.ofNat 61)))) (gNm 4))
  (sRet (eOp fMod (eOp fFdiv (eCB fInt (aCons (eOp fMod (eOp fPow (eVar 4) (eC (.int (Int.ofNat 19)))) (eC (.int (Int.ofNat 2305843009213693951)))) aNil)) (eC (.int (Int.ofNat 256)))) (eVar 1)))))))
set_option maxHeartbeats 0 in
theorem w102 (C : CF) (k : Nat) (X : Cx) (hw : X.w = w) (hx : X.xe = fun _ _ => False) (c : XC T C N102 (defScope (top 93)) true k X) : PSs X (defBody (top 93)) (rdS T.G (sh102 C)) :=
  (s_seq (s_sub1 c.u1 (c.add (c.ix (c.var (i := 0) rfl (.inl rfl) (by decide) (by decide)) (k_strS e103) (fun _ _ => rfl)) k_int) (c.var (i := 0) rfl (.inl rfl) (by decide) (by decide)) (k_strS e103) (fun _ => rfl) rfl rfl rfl)
  (s_seq (s_if (PW.pt (w_and (c.teq (wE W) (c.ix (c.var (i := 0) rfl (.inl rfl) (by decide) (by decide)) (k_strS e104) (fun _ _ => rfl)) k_int) (w_and1 (c.tlt (c.ix (c.var (i := 0) rfl (.inl rfl) (by decide) (by decide)) (k_strS e88) (fun _ _ => rfl)) (c.cb (c.kx (r := rLenA) c_len) s_len W.fr_len PySem.boot_len rfl (a_cons (c.ix (c.var (i := 0) rfl (.inl rfl) (by decide) (by decide)) (k_strS e105) (fun _ _ => rfl)) a_nil rfl) (by decide) (by decide) rfl rfl))))) (s_seq (c.setL rfl rfl (c.ix (c.ix (c.var (i := 0) rfl (.inl rfl) (by decide) (by decide)) (k_strS e105) (fun _ _ => rfl)) (c.ix (c.var (i := 0) rfl (.inl rfl) (by decide) (by decide)) (k_strS e88) (fun _ _ => rfl)) (fun _ _ => rfl)) rfl)
  (s_seq (s_sub1 c.u1 (c.add (c.ix (c.var (i := 0) rfl (.inl rfl) (by decide) (by decide)) (k_strS e88) (fun _ _ => rfl)) k_int) (c.var (i := 0) rfl (.inl rfl) (by decide) (by decide)) (k_strS e88) (fun _ => rfl) rfl rfl rfl)
  (s_one (s_if (c.tge (c.var (i := 2) rfl (.inl rfl) (by decide) (by decide)) (c.pow k_int k_int)) (s_one (s_sub1 c.u1 (c.sub (c.var (i := 2) rfl (.inl rfl) (by decide) (by decide)) (c.pow k_int k_int)) (c.var (i := 0) rfl (.inl rfl) (by decide) (by decide)) (k_strS e104) (fun _ => rfl) rfl rfl rfl)) (s_one (s_sub1 c.u1 (c.mod (c.ct call_int1 s_int W.fr_int boot_int rfl (a_cons (c.add (c.mul (c.ix (c.var (i := 0) rfl (.inl rfl) (by decide) (by decide)) (k_strS e106) (fun _ _ => rfl)) k_int) (c.var (i := 2) rfl (.inl rfl) (by decide) (by decide))) a_nil rfl) (by decide) (by decide) rfl rfl) k_int) (c.var (i := 0) rfl (.inl rfl) (by decide) (by decide)) (k_strS e106) (fun _ => rfl) rfl rfl rfl)))))) s_nil)
  (s_seq (s_if (c.tgt (c.ix (c.var (i := 0) rfl (.inl rfl) (by decide) (by decide)) (k_strS e104) (fun _ _ => rfl)) k_int) (s_seq (c.setL rfl rfl (c.mod (c.ct call_int1 s_int W.fr_int boot_int rfl (a_cons (c.ix (c.var (i := 0) rfl (.inl rfl) (by decide) (by decide)) (k_strS e104) (fun _ _ => rfl)) a_nil rfl) (by decide) (by decide) rfl rfl) (c.var (i := 1) rfl (.inl rfl) (by decide) (by decide))) rfl)
  (s_seq (s_sub1 c.u1 (c.fdiv (c.ix (c.var (i := 0) rfl (.inl rfl) (by decide) (by decide)) (k_strS e104) (fun _ _ => rfl)) (c.var (i := 1) rfl (.inl rfl) (by decide) (by decide))) (c.var (i := 0) rfl (.inl rfl) (by decide) (by decide)) (k_strS e104) (fun _ => rfl) rfl rfl rfl)
  (s_one (s_ret (c.var (i := 3) rfl (.inl rfl) (by decide) (by decide)))))) s_nil)
  (s_seq (c.setL rfl rfl (c.add (c.add (c.ix (c.var (i := 0) rfl (.inl rfl) (by decide) (by decide)) (k_strS e106) (fun _ _ => rfl)) (c.mul (c.ix (c.var (i := 0) rfl (.inl rfl) (by decide) (by decide)) (k_strS e103) (fun _ _ => rfl)) k_int)) k_int) rfl)
  (s_one (s_ret (c.mod (c.fdiv (c.ct call_int1 s_int W.fr_int boot_int rfl (a_cons (c.mod (c.pow (c.var (i := 4) rfl (.inl rfl) (by decide) (by decide)) k_int) k_int) a_nil rfl) (by decide) (by decide) rfl rfl) k_int) (c.var (i := 1) rfl (.inl rfl) (by decide) (by decide)))))))))
def N103 : List Str := ["pen", "some"]
def sh103 (C : CF) : DS := (sRet (eOp fIx (eVar 1) (eCB (C 102) (aCons (eVar 0) (aCons (eCB fLen (aCons (eVar 1) aNil)) aNil)))))
set_option maxHeartbeats 0 in
theorem w103 (C : CF) (k : Nat) (X : Cx) (hw : X.w = w) (hx : X.xe = fun _ _ => False) (c : XC T C N103 (defScope (top 94)) true k X) : PSs X (defBody (top 94)) (rdS T.G (sh103 C)) :=
  (s_one (s_ret (c.ix (c.var (i := 1) rfl (.inl rfl) (by decide) (by decide)) (c.call W.gf__law_draw (W.lt 102 (by decide)) rfl (a_cons (c.var (i := 0) rfl (.inl rfl) (by decide) (by decide)) (a_cons (c.cb (c.kx (r := rLenA) c_len) s_len W.fr_len PySem.boot_len rfl (a_cons (c.var (i := 1) rfl (.inl rfl) (by decide) (by decide)) a_nil rfl) (by decide) (by decide) rfl rfl) a_nil rfl) rfl) (by decide) rfl rfl) (fun _ _ => rfl))))
def NL : List Str := ["script", "pen", "sort", "book", "loops", "acts", "calls", "told", "old", "copied", "again", "lost", "row"]
def shL1 (C : CF) : DS := (sAsg (eCB (C 103) (aCons (eVar 1) (aCons (eLst (aCons (eC (.str n25)) (aCons (eC (.str n21)) aNil))) aNil))) (gNm 2))
theorem wL1 (C : CF) (k : Nat) (X : Cx) (hw : X.w = w) (hx : X.xe = fun _ _ => False) (c : XC T C NL (defScope (top 95)) true k X) : PS X ((defBody (top 95)).getD 1 (.Pass ⟨0, 0, 0, 0⟩)) (rdS T.G (shL1 C)) := (c.setL rfl rfl (c.call W.gf__law_pick (W.lt 103 (by decide)) rfl (a_cons (c.var (i := 1) rfl (.inl rfl) (by decide) (by decide)) (a_cons (q_lst (a_cons (k_strS e25) (a_cons (k_strS e21) a_nil rfl) rfl)) a_nil rfl) rfl) (by decide) rfl rfl) rfl)
def shL (C : CF) : DS := (sSeq (sAsg (eCMt C 8 100 (eC (.glo 8)) (aCons (eOp fAdd (eOp fAdd (eC (.str n107)) (eVar 2)) (eC (.str n108))) aNil)) (gNm 3))
  (sSeq (sIf (bVal (eOp (fNeA C wEl) (eCB (C 17) (aCons (eVar 3) (aCons (eC (.int (Int.ofNat 0))) aNil))) (eTup (aCons (eTup (aCons (eTup (aCons (eC (.str n43)) (aCons (eC (.str n110)) aNil))) (aCons (eC (.int (Int.ofNat 0))) (aCons (eC (.int (Int.ofNat 2))) aNil)))) (aCons (eTup (aCons (eTup (aCons (eVar 2) (aCons (eC (.str n109)) (aCons (eC (.str n110)) aNil)))) (aCons (eC (.int (Int.ofNat 2))) (aCons (eC (.int (Int.ofNat 3))) aNil)))) (aCons (eTup (aCons (eTup (aCons (eC (.str n47)) (aCons (eC (.str n110)) aNil))) (aCons (eC (.int (Int.ofNat 3))) (aCons (eC (.int (Int.ofNat 4))) aNil)))) (aCons (eTup (aCons (eTup (aCons (eC (.str n50)) (aCons (eC (.str n110)) aNil))) (aCons (eC (.int (Int.ofNat 3))) (aCons (eC (.int (Int.ofNat 4))) aNil)))) (aCons (eTup (aCons (eTup (aCons (eC (.str n50)) (aCons (eC (.str n109)) aNil))) (aCons (eC (.int (Int.ofNat 4))) (aCons (eC (.int (Int.ofNat 5))) aNil)))) (aCons (eTup (aCons (eTup (aCons (eC (.str n5)) (aCons (eTup (aCons (eC (.str n110)) (aCons (eC (.str n109)) aNil))) (aCons (eC (.str n11)) aNil)))) (aCons (eC (.int (Int.ofNat 5))) (aCons (eC (.int (Int.ofNat 1))) aNil)))) aNil))))))))) (sRet (eC (.bl false))) sNop)
  (sSeq (sIf (bOr (bVal (eOp (fNeA C wEl) (eCB (C 16) (aCons (eVar 3) (aCons (eC (.int (Int.ofNat 0))) aNil))) (eTup (aCons (eC (.str n110)) (aCons (eC (.str n109)) aNil))))) (bOr (bVal (eOp (fNeA C wEl) (eCB (C 18) (aCons (eVar 3) (aCons (eC (.int (Int.ofNat 0))) aNil))) (eC (.int (Int.ofNat 6))))) (bOr (bVal (eOp (fNeA C wEl) (eCB (C 51) (aCons (eVar 3) (aCons (eTup (aCons (eC (.int (Int.ofNat 0))) aNil)) (aCons (eC (.int (Int.ofNat 99))) aNil)))) (eCB (mkI C 23 2) (aCons (eC (.str n27)) (aCons (eC (.int (Int.ofNat 0))) (aCons (eC (.int (Int.ofNat 4))) (aCons (eC (.int (Int.ofNat 3))) aNil))))))) (bVal (eOp (fNeA C wEl) (eCB (C 51) (aCons (eVar 3) (aCons (eTup aNil) (aCons (eC (.int (Int.ofNat 99))) aNil)))) (eCB (mkI C 26 3) (aCons (eC (.int (Int.ofNat 2))) aNil))))))) (sRet (eC (.bl false))) sNop)
  (sSeq (sIf (bOr (bVal (eOp (fNeA C wEl) (eCB (C 51) (aCons (eVar 3) (aCons (eTup (aCons (eC (.int (Int.ofNat 1))) aNil)) (aCons (eC (.int (Int.ofNat 99))) aNil)))) (eIf (bVal (eOp (fEqA C wEl) (eVar 2) (eC (.str n25)))) (eCB (mkI C 21 1) (aCons (eC (.int (Int.ofNat 5))) aNil)) (eCB (mkI C 23 2) (aCons (eC (.str n27)) (aCons (eC (.int (Int.ofNat 0))) (aCons (eC (.int (Int.ofNat 4))) (aCons (eC (.int (Int.ofNat 3))) aNil)))))))) (bVal (eOp (fNeA C wEl) (eCB (C 51) (aCons (eVar 3) (aCons (eTup (aCons (eC (.int (Int.ofNat 1))) aNil)) (aCons (eC (.int (Int.ofNat 3))) aNil)))) (eCB (mkI C 26 3) (aCons (eC (.int (Int.ofNat 3))) aNil))))) (sRet (eC (.bl false))) sNop)
  (sSeq (sAsg (eCMt C 8 100 (eC (.glo 8)) (aCons (eC (.str n111)) aNil)) (gNm 4))
  (sSeq (sAsg (eLst (aCons (eC (.str n42)) (aCons (eC (.str n42)) (aCons (eC (.str n43)) (aCons (eC (.str n42)) (aCons (eC (.str n42)) (aCons (eC (.str n55)) (aCons (eC (.str n50)) (aCons (eC (.str n42)) (aCons (eC (.str n5)) aNil)))))))))) (gNm 5))
  (sSeq (sIf (bOr (bVal (eOp (fNeA C wEl) (eLc (iSqA (eCB (C 17) (aCons (eVar 4) (aCons (eC (.int (Int.ofNat 0))) aNil)))) (gNm 12) bYes (eOp fIx (eOp fIx (eVar 12) (eC (.int (Int.ofNat 0)))) (eC (.int (Int.ofNat 0)))) [12]) (eVar 5))) (bVal (eOp (fNeA C wEl) (eLc (iSqA (eCB (C 17) (aCons (eVar 4) (aCons (eC (.int (Int.ofNat 0))) aNil)))) (gNm 12) bYes (eSl (eVar 12) (oSome (eC (.int (Int.ofNat 1)))) oNo) [12]) (eLst (aCons (eTup (aCons (eC (.int (Int.ofNat 0))) (aCons (eC (.int (Int.ofNat 2))) aNil))) (aCons (eTup (aCons (eC (.int (Int.ofNat 2))) (aCons (eC (.int (Int.ofNat 3))) aNil))) (aCons (eTup (aCons (eC (.int (Int.ofNat 3))) (aCons (eC (.int (Int.ofNat 3))) aNil))) (aCons (eTup (aCons (eC (.int (Int.ofNat 3))) (aCons (eC (.int (Int.ofNat 4))) aNil))) (aCons (eTup (aCons (eC (.int (Int.ofNat 4))) (aCons (eC (.int (Int.ofNat 2))) aNil))) (aCons (eTup (aCons (eC (.int (Int.ofNat 4))) (aCons (eC (.int (Int.ofNat 5))) aNil))) (aCons (eTup (aCons (eC (.int (Int.ofNat 5))) (aCons (eC (.int (Int.ofNat 2))) aNil))) (aCons (eTup (aCons (eC (.int (Int.ofNat 2))) (aCons (eC (.int (Int.ofNat 6))) aNil))) (aCons (eTup (aCons (eC (.int (Int.ofNat 6))) (aCons (eC (.int (Int.ofNat 1))) aNil))) aNil))))))))))))) (sRet (eC (.bl false))) sNop)
  (sSeq (sAsg (eCMt C 8 100 (eC (.glo 8)) (aCons (eC (.str n112)) aNil)) (gNm 6))
  (sSeq (sAsg (eCB (C 52) (aCons (eVar 6) (aCons (eTup aNil) (aCons (eC (.int (Int.ofNat 3))) aNil)))) (gNm 7))
  (sSeq (sIf (bVal (eOp (fNeA C wEl) (eVar 7) (eTup (aCons (eTup (aCons (eTup (aCons (eC (.int (Int.ofNat 0))) (aCons (eC (.int (Int.ofNat 4))) (aCons (eTup (aCons (eNeg (eC (.int (Int.ofNat 1)))) (aCons (eC (.int (Int.ofNat 1))) (aCons (eNeg (eC (.int (Int.ofNat 1)))) aNil)))) (aCons (eC (.str n11)) aNil))))) (aCons (eTup (aCons (eC (.int (Int.ofNat 1))) (aCons (eC (.int (Int.ofNat 0))) (aCons (eTup (aCons (eC (.int (Int.ofNat 0))) (aCons (eC (.int (Int.ofNat 1))) (aCons (eNeg (eC (.int (Int.ofNat 1)))) aNil)))) (aCons (eC (.str n113)) aNil))))) aNil))) (aCons (eTup (aCons (eTup (aCons (eC (.str n44)) (aCons (eNeg (eC (.int (Int.ofNat 1)))) (aCons (eC (.bl true)) aNil)))) (aCons (eTup (aCons (eC (.str n25)) (aCons (eC (.int (Int.ofNat 0))) (aCons (eC (.bl true)) aNil)))) aNil))) aNil))))) (sRet (eC (.bl false))) sNop)
  (sSeq (sIf (bOr (bVal (eOp (fNeA C wEl) (eCB (C 52) (aCons (eVar 6) (aCons (eTup aNil) (aCons (eC (.int (Int.ofNat 5))) aNil)))) (eTup (aCons (eTup (aCons (eTup (aCons (eC (.int (Int.ofNat 0))) (aCons (eC (.int (Int.ofNat 4))) (aCons (eTup (aCons (eNeg (eC (.int (Int.ofNat 1)))) (aCons (eC (.int (Int.ofNat 1))) (aCons (eC (.int (Int.ofNat 0))) aNil)))) (aCons (eC (.str n11)) aNil))))) aNil)) (aCons (eTup (aCons (eTup (aCons (eC (.str n44)) (aCons (eNeg (eC (.int (Int.ofNat 1)))) (aCons (eC (.bl true)) aNil)))) (aCons (eTup (aCons (eC (.str n25)) (aCons (eC (.int (Int.ofNat 0))) (aCons (eC (.bl true)) aNil)))) (aCons (eTup (aCons (eC (.str n25)) (aCons (eC (.int (Int.ofNat 1))) (aCons (eC (.bl true)) aNil)))) aNil)))) aNil))))) (bVal (eOp (fNeA C wEl) (eCB (C 51) (aCons (eVar 6) (aCons (eTup aNil) (aCons (eC (.int (Int.ofNat 99))) aNil)))) (eCB (mkI C 21 1) (aCons (eC (.int (Int.ofNat 7))) aNil))))) (sRet (eC (.bl false))) sNop)
  (sSeq (sAsg (eCMt C 8 100 (eC (.glo 8)) (aCons (eC (.str n114)) aNil)) (gNm 8))
  (sSeq (sIf (bOr (bVal (eOp (fNeA C wEl) (eCB (C 51) (aCons (eVar 8) (aCons (eTup aNil) (aCons (eC (.int (Int.ofNat 99))) aNil)))) (eCB (mkI C 23 2) (aCons (eC (.str n27)) (aCons (eC (.int (Int.ofNat 0))) (aCons (eC (.int (Int.ofNat 3))) (aCons (eC (.int (Int.ofNat 3))) aNil))))))) (bVal (eOp (fNeA C wEl) (eCB (C 52) (aCons (eVar 8) (aCons (eTup aNil) (aCons (eC (.int (Int.ofNat 99))) aNil)))) (eTup (aCons (eTup (aCons (eTup (aCons (eC (.int (Int.ofNat 0))) (aCons (eC (.int (Int.ofNat 4))) (aCons (eTup (aCons (eC (.int (Int.ofNat 2))) (aCons (eC (.int (Int.ofNat 1))) aNil))) (aCons (eC (.str n11)) aNil))))) aNil)) (aCons (eTup (aCons (eTup (aCons (eC (.str n44)) (aCons (eNeg (eC (.int (Int.ofNat 1)))) (aCons (eC (.bl false)) aNil)))) (aCons (eTup (aCons (eC (.str n25)) (aCons (eC (.int (Int.ofNat 0))) (aCons (eC (.bl false)) aNil)))) (aCons (eTup (aCons (eC (.str n44)) (aCons (eNeg (eC (.int (Int.ofNat 1)))) (aCons (eC (.bl true)) aNil)))) aNil)))) aNil)))))) (sRet (eC (.bl false))) sNop)
  (sSeq (sAsg (eCMt C 8 100 (eC (.glo 8)) (aCons (eC (.str n115)) aNil)) (gNm 9))
  (sSeq (sIf (bOr (bVal (eOp (fNeA C wEl) (eCB (C 51) (aCons (eVar 9) (aCons (eTup aNil) (aCons (eC (.int (Int.ofNat 99))) aNil)))) (eCB (mkI C 23 2) (aCons (eC (.str n26)) (aCons (eC (.int (Int.ofNat 0))) (aCons (eC (.int (Int.ofNat 5))) (aCons (eC (.int (Int.ofNat 5))) aNil))))))) (bVal (eOp (fNeA C wEl) (eOp fIx (eCB (C 52) (aCons (eVar 9) (aCons (eTup aNil) (aCons (eC (.int (Int.ofNat 4))) aNil)))) (eC (.int (Int.ofNat 0)))) (eTup (aCons (eTup (aCons (eC (.int (Int.ofNat 0))) (aCons (eC (.int (Int.ofNat 5))) (aCons (eTup (aCons (eC (.int (Int.ofNat 0))) (aCons (eNeg (eC (.int (Int.ofNat 1)))) (aCons (eC (.int (Int.ofNat 1))) aNil)))) (aCons (eC (.str n11)) aNil))))) aNil))))) (sRet (eC (.bl false))) sNop)
  (sSeq (sAsg (eCMt C 8 100 (eC (.glo 8)) (aCons (eC (.str n116)) aNil)) (gNm 10))
  (sSeq (sIf (bOr (bVal (eOp (fNeA C wEl) (eCB (C 51) (aCons (eVar 10) (aCons (eTup (aCons (eC (.int (Int.ofNat 1))) (aCons (eC (.int (Int.ofNat 0))) aNil))) (aCons (eC (.int (Int.ofNat 99))) aNil)))) (eCB (mkI C 21 1) (aCons (eC (.int (Int.ofNat 6))) aNil)))) (bOr (bVal (eOp (fNeA C wEl) (eCB (C 51) (aCons (eVar 10) (aCons (eTup (aCons (eC (.int (Int.ofNat 1))) (aCons (eC (.int (Int.ofNat 0))) aNil))) (aCons (eC (.int (Int.ofNat 4))) aNil)))) (eCB (mkI C 26 3) (aCons (eC (.int (Int.ofNat 4))) aNil)))) (bOr (bVal (eOp (fNeA C wEl) (eCB fLen (aCons (eOp fIx (eCB (C 52) (aCons (eVar 10) (aCons (eTup (aCons (eC (.int (Int.ofNat 1))) (aCons (eC (.int (Int.ofNat 0))) aNil))) (aCons (eC (.int (Int.ofNat 4))) aNil)))) (eC (.int (Int.ofNat 0)))) aNil)) (eC (.int (Int.ofNat 1))))) (bVal (eOp (fNeA C wEl) (eCB fLen (aCons (eOp fIx (eCB (C 52) (aCons (eVar 10) (aCons (eTup (aCons (eC (.int (Int.ofNat 1))) (aCons (eC (.int (Int.ofNat 1))) (aCons (eC (.int (Int.ofNat 0))) aNil)))) (aCons (eC (.int (Int.ofNat 3))) aNil)))) (eC (.int (Int.ofNat 0)))) aNil)) (eC (.int (Int.ofNat 3)))))))) (sRet (eC (.bl false))) sNop)
  (sSeq (sAsg (eCMt C 8 100 (eC (.glo 8)) (aCons (eC (.str n117)) aNil)) (gNm 11))
  (sRet (eAnd (eOp (fEqA C wEl) (eCB (C 51) (aCons (eVar 11) (aCons (eTup aNil) (aCons (eC (.int (Int.ofNat 99))) aNil)))) (eCB (mkI C 23 2) (aCons (eC (.str n27)) (aCons (eC (.int (Int.ofNat 0))) (aCons (eC (.int (Int.ofNat 1))) (aCons (eC (.int (Int.ofNat 4))) aNil)))))) (eOp (fEqA C wEl) (eCB (C 52) (aCons (eVar 11) (aCons (eTup aNil) (aCons (eC (.int (Int.ofNat 99))) aNil)))) (eTup (aCons (eTup (aCons (eTup (aCons (eC (.int (Int.ofNat 0))) (aCons (eC (.int (Int.ofNat 2))) (aCons (eTup (aCons (eC (.int (Int.ofNat 1))) aNil)) (aCons (eC (.str n11)) aNil))))) aNil)) (aCons (eTup (aCons (eTup (aCons (eC (.str n44)) (aCons (eNeg (eC (.int (Int.ofNat 1)))) (aCons (eC (.bl false)) aNil)))) (aCons (eTup (aCons (eC (.str n25)) (aCons (eC (.int (Int.ofNat 0))) (aCons (eC (.bl false)) aNil)))) aNil))) aNil))))))))))))))))))))))))
theorem wL (C : CF) (k : Nat) (X : Cx) (hw : X.w = w) (hx : X.xe = fun _ _ => False) (c : XC T C NL (defScope (top 95)) true k X) : PSs X ((defBody (top 95)).drop 2) (rdS T.G (shL C)) :=
  (s_seq (c.setL rfl rfl (c.cmt W.cm_Book_read (c.glob (gv_Book W) rfl (by decide)) (a_cons (c.add (c.add (k_strS e107) (c.var (i := 2) rfl (.inl rfl) (by decide) (by decide))) (k_strS e108)) a_nil rfl) rfl rfl rfl) rfl)
  (s_seq (s_if (c.tne (wE W) (c.call W.gf_flow_of (W.lt 17 (by decide)) rfl (a_cons (c.var (i := 3) rfl (.inl rfl) (by decide) (by decide)) (a_cons k_int a_nil rfl) rfl) (by decide) rfl rfl) (q_tup (a_cons (q_tup (a_cons (q_tup (a_cons (k_strS e43) (a_cons (k_strS e110) a_nil rfl) rfl)) (a_cons k_int (a_cons k_int a_nil rfl) rfl) rfl)) (a_cons (q_tup (a_cons (q_tup (a_cons (c.var (i := 2) rfl (.inl rfl) (by decide) (by decide)) (a_cons (k_strS e109) (a_cons (k_strS e110) a_nil rfl) rfl) rfl)) (a_cons k_int (a_cons k_int a_nil rfl) rfl) rfl)) (a_cons (q_tup (a_cons (q_tup (a_cons (k_strS e47) (a_cons (k_strS e110) a_nil rfl) rfl)) (a_cons k_int (a_cons k_int a_nil rfl) rfl) rfl)) (a_cons (q_tup (a_cons (q_tup (a_cons (k_strS e50) (a_cons (k_strS e110) a_nil rfl) rfl)) (a_cons k_int (a_cons k_int a_nil rfl) rfl) rfl)) (a_cons (q_tup (a_cons (q_tup (a_cons (k_strS e50) (a_cons (k_strS e109) a_nil rfl) rfl)) (a_cons k_int (a_cons k_int a_nil rfl) rfl) rfl)) (a_cons (q_tup (a_cons (q_tup (a_cons (k_strS e5) (a_cons (q_tup (a_cons (k_strS e110) (a_cons (k_strS e109) a_nil rfl) rfl)) (a_cons (k_strS e11) a_nil rfl) rfl) rfl)) (a_cons k_int (a_cons k_int a_nil rfl) rfl) rfl)) a_nil rfl) rfl) rfl) rfl) rfl) rfl))) (s_one (s_ret k_bl)) s_nil)
  (s_seq (s_if (PW.pt (w_or (c.tne (wE W) (c.call W.gf_variables_of (W.lt 16 (by decide)) rfl (a_cons (c.var (i := 3) rfl (.inl rfl) (by decide) (by decide)) (a_cons k_int a_nil rfl) rfl) (by decide) rfl rfl) (q_tup (a_cons (k_strS e110) (a_cons (k_strS e109) a_nil rfl) rfl))) (w_or (c.tne (wE W) (c.call W.gf_points_of (W.lt 18 (by decide)) rfl (a_cons (c.var (i := 3) rfl (.inl rfl) (by decide) (by decide)) (a_cons k_int a_nil rfl) rfl) (by decide) rfl rfl) k_int) (w_or (c.tne (wE W) (c.call W.gf_run (W.lt 51 (by decide)) rfl (a_cons (c.var (i := 3) rfl (.inl rfl) (by decide) (by decide)) (a_cons (q_tup (a_cons k_int a_nil rfl)) (a_cons k_int a_nil rfl) rfl) rfl) (by decide) rfl rfl) (c.make (mW_Fault W) rfl (a_cons (k_strS e27) (a_cons k_int (a_cons k_int (a_cons k_int a_nil rfl) rfl) rfl) rfl) (by decide) rfl rfl)) (w_or1 (c.tne (wE W) (c.call W.gf_run (W.lt 51 (by decide)) rfl (a_cons (c.var (i := 3) rfl (.inl rfl) (by decide) (by decide)) (a_cons (q_tup a_nil) (a_cons k_int a_nil rfl) rfl) rfl) (by decide) rfl rfl) (c.make (mW_Open W) rfl (a_cons k_int a_nil rfl) (by decide) rfl rfl))))))) (s_one (s_ret k_bl)) s_nil)
  (s_seq (s_if (PW.pt (w_or (c.tne (wE W) (c.call W.gf_run (W.lt 51 (by decide)) rfl (a_cons (c.var (i := 3) rfl (.inl rfl) (by decide) (by decide)) (a_cons (q_tup (a_cons k_int a_nil rfl)) (a_cons k_int a_nil rfl) rfl) rfl) (by decide) rfl rfl) (q_if (c.teq (wE W) (c.var (i := 2) rfl (.inl rfl) (by decide) (by decide)) (k_strS e25)) (c.make (mW_Over W) rfl (a_cons k_int a_nil rfl) (by decide) rfl rfl) (c.make (mW_Fault W) rfl (a_cons (k_strS e27) (a_cons k_int (a_cons k_int (a_cons k_int a_nil rfl) rfl) rfl) rfl) (by decide) rfl rfl))) (w_or1 (c.tne (wE W) (c.call W.gf_run (W.lt 51 (by decide)) rfl (a_cons (c.var (i := 3) rfl (.inl rfl) (by decide) (by decide)) (a_cons (q_tup (a_cons k_int a_nil rfl)) (a_cons k_int a_nil rfl) rfl) rfl) (by decide) rfl rfl) (c.make (mW_Open W) rfl (a_cons k_int a_nil rfl) (by decide) rfl rfl))))) (s_one (s_ret k_bl)) s_nil)
  (s_seq (c.setL rfl rfl (c.cmt W.cm_Book_read (c.glob (gv_Book W) rfl (by decide)) (a_cons (k_strS e111) a_nil rfl) rfl rfl rfl) rfl)
  (s_seq (c.setL rfl rfl (q_lst (a_cons (k_strS e42) (a_cons (k_strS e42) (a_cons (k_strS e43) (a_cons (k_strS e42) (a_cons (k_strS e42) (a_cons (k_strS e55) (a_cons (k_strS e50) (a_cons (k_strS e42) (a_cons (k_strS e5) a_nil rfl) rfl) rfl) rfl) rfl) rfl) rfl) rfl) rfl)) rfl)
  (s_seq (s_if (PW.pt (w_or (c.tne (wE W) (c.lc (own := [("row", 12)]) (c.SqA (c.call W.gf_flow_of (W.lt 17 (by decide)) rfl (a_cons (c.var (i := 4) rfl (.inl rfl) (by decide) (by decide)) (a_cons k_int a_nil rfl) rfl) (by decide) rfl rfl)) (by decide +kernel) (fun X1 c1 => (c1.nmL (vs := [12]) rfl rfl (by decide))) (fun X1 c1 => ts_nil) (fun X1 c1 => (c1.ix (c1.ix (c1.var (i := 12) rfl (.inl rfl) (by decide) (by decide)) k_int (fun _ _ => rfl)) k_int (fun _ _ => rfl))) (fun _ => rfl)) (c.var (i := 5) rfl (.inl rfl) (by decide) (by decide))) (w_or1 (c.tne (wE W) (c.lc (own := [("row", 12)]) (c.SqA (c.call W.gf_flow_of (W.lt 17 (by decide)) rfl (a_cons (c.var (i := 4) rfl (.inl rfl) (by decide) (by decide)) (a_cons k_int a_nil rfl) rfl) (by decide) rfl rfl)) (by decide +kernel) (fun X1 c1 => (c1.nmL (vs := [12]) rfl rfl (by decide))) (fun X1 c1 => ts_nil) (fun X1 c1 => (c1.sl (c1.var (i := 12) rfl (.inl rfl) (by decide) (by decide)) (o_some k_int) o_no)) (fun _ => rfl)) (q_lst (a_cons (q_tup (a_cons k_int (a_cons k_int a_nil rfl) rfl)) (a_cons (q_tup (a_cons k_int (a_cons k_int a_nil rfl) rfl)) (a_cons (q_tup (a_cons k_int (a_cons k_int a_nil rfl) rfl)) (a_cons (q_tup (a_cons k_int (a_cons k_int a_nil rfl) rfl)) (a_cons (q_tup (a_cons k_int (a_cons k_int a_nil rfl) rfl)) (a_cons (q_tup (a_cons k_int (a_cons k_int a_nil rfl) rfl)) (a_cons (q_tup (a_cons k_int (a_cons k_int a_nil rfl) rfl)) (a_cons (q_tup (a_cons k_int (a_cons k_int a_nil rfl) rfl)) (a_cons (q_tup (a_cons k_int (a_cons k_int a_nil rfl) rfl)) a_nil rfl) rfl) rfl) rfl) rfl) rfl) rfl) rfl) rfl)))))) (s_one (s_ret k_bl)) s_nil)
  (s_seq (c.setL rfl rfl (c.cmt W.cm_Book_read (c.glob (gv_Book W) rfl (by decide)) (a_cons (k_strS e112) a_nil rfl) rfl rfl rfl) rfl)
  (s_seq (c.setL rfl rfl (c.call W.gf_state_behind (W.lt 52 (by decide)) rfl (a_cons (c.var (i := 6) rfl (.inl rfl) (by decide) (by decide)) (a_cons (q_tup a_nil) (a_cons k_int a_nil rfl) rfl) rfl) (by decide) rfl rfl) rfl)
  (s_seq (s_if (c.tne (wE W) (c.var (i := 7) rfl (.inl rfl) (by decide) (by decide)) (q_tup (a_cons (q_tup (a_cons (q_tup (a_cons k_int (a_cons k_int (a_cons (q_tup (a_cons (k_neg k_int) (a_cons k_int (a_cons (k_neg k_int) a_nil rfl) rfl) rfl)) (a_cons (k_strS e11) a_nil rfl) rfl) rfl) rfl)) (a_cons (q_tup (a_cons k_int (a_cons k_int (a_cons (q_tup (a_cons k_int (a_cons k_int (a_cons (k_neg k_int) a_nil rfl) rfl) rfl)) (a_cons (k_strS e113) a_nil rfl) rfl) rfl) rfl)) a_nil rfl) rfl)) (a_cons (q_tup (a_cons (q_tup (a_cons (k_strS e44) (a_cons (k_neg k_int) (a_cons k_bl a_nil rfl) rfl) rfl)) (a_cons (q_tup (a_cons (k_strS e25) (a_cons k_int (a_cons k_bl a_nil rfl) rfl) rfl)) a_nil rfl) rfl)) a_nil rfl) rfl))) (s_one (s_ret k_bl)) s_nil)
  (s_seq (s_if (PW.pt (w_or (c.tne (wE W) (c.call W.gf_state_behind (W.lt 52 (by decide)) rfl (a_cons (c.var (i := 6) rfl (.inl rfl) (by decide) (by decide)) (a_cons (q_tup a_nil) (a_cons k_int a_nil rfl) rfl) rfl) (by decide) rfl rfl) (q_tup (a_cons (q_tup (a_cons (q_tup (a_cons k_int (a_cons k_int (a_cons (q_tup (a_cons (k_neg k_int) (a_cons k_int (a_cons k_int a_nil rfl) rfl) rfl)) (a_cons (k_strS e11) a_nil rfl) rfl) rfl) rfl)) a_nil rfl)) (a_cons (q_tup (a_cons (q_tup (a_cons (k_strS e44) (a_cons (k_neg k_int) (a_cons k_bl a_nil rfl) rfl) rfl)) (a_cons (q_tup (a_cons (k_strS e25) (a_cons k_int (a_cons k_bl a_nil rfl) rfl) rfl)) (a_cons (q_tup (a_cons (k_strS e25) (a_cons k_int (a_cons k_bl a_nil rfl) rfl) rfl)) a_nil rfl) rfl) rfl)) a_nil rfl) rfl))) (w_or1 (c.tne (wE W) (c.call W.gf_run (W.lt 51 (by decide)) rfl (a_cons (c.var (i := 6) rfl (.inl rfl) (by decide) (by decide)) (a_cons (q_tup a_nil) (a_cons k_int a_nil rfl) rfl) rfl) (by decide) rfl rfl) (c.make (mW_Over W) rfl (a_cons k_int a_nil rfl) (by decide) rfl rfl))))) (s_one (s_ret k_bl)) s_nil)
  (s_seq (c.setL rfl rfl (c.cmt W.cm_Book_read (c.glob (gv_Book W) rfl (by decide)) (a_cons (k_strS e114) a_nil rfl) rfl rfl rfl) rfl)
  (s_seq (s_if (PW.pt (w_or (c.tne (wE W) (c.call W.gf_run (W.lt 51 (by decide)) rfl (a_cons (c.var (i := 8) rfl (.inl rfl) (by decide) (by decide)) (a_cons (q_tup a_nil) (a_cons k_int a_nil rfl) rfl) rfl) (by decide) rfl rfl) (c.make (mW_Fault W) rfl (a_cons (k_strS e27) (a_cons k_int (a_cons k_int (a_cons k_int a_nil rfl) rfl) rfl) rfl) (by decide) rfl rfl)) (w_or1 (c.tne (wE W) (c.call W.gf_state_behind (W.lt 52 (by decide)) rfl (a_cons (c.var (i := 8) rfl (.inl rfl) (by decide) (by decide)) (a_cons (q_tup a_nil) (a_cons k_int a_nil rfl) rfl) rfl) (by decide) rfl rfl) (q_tup (a_cons (q_tup (a_cons (q_tup (a_cons k_int (a_cons k_int (a_cons (q_tup (a_cons k_int (a_cons k_int a_nil rfl) rfl)) (a_cons (k_strS e11) a_nil rfl) rfl) rfl) rfl)) a_nil rfl)) (a_cons (q_tup (a_cons (q_tup (a_cons (k_strS e44) (a_cons (k_neg k_int) (a_cons k_bl a_nil rfl) rfl) rfl)) (a_cons (q_tup (a_cons (k_strS e25) (a_cons k_int (a_cons k_bl a_nil rfl) rfl) rfl)) (a_cons (q_tup (a_cons (k_strS e44) (a_cons (k_neg k_int) (a_cons k_bl a_nil rfl) rfl) rfl)) a_nil rfl) rfl) rfl)) a_nil rfl) rfl)))))) (s_one (s_ret k_bl)) s_nil)
  (s_seq (c.setL rfl rfl (c.cmt W.cm_Book_read (c.glob (gv_Book W) rfl (by decide)) (a_cons (k_strS e115) a_nil rfl) rfl rfl rfl) rfl)
  (s_seq (s_if (PW.pt (w_or (c.tne (wE W) (c.call W.gf_run (W.lt 51 (by decide)) rfl (a_cons (c.var (i := 9) rfl (.inl rfl) (by decide) (by decide)) (a_cons (q_tup a_nil) (a_cons k_int a_nil rfl) rfl) rfl) (by decide) rfl rfl) (c.make (mW_Fault W) rfl (a_cons (k_strS e26) (a_cons k_int (a_cons k_int (a_cons k_int a_nil rfl) rfl) rfl) rfl) (by decide) rfl rfl)) (w_or1 (c.tne (wE W) (c.ix (c.call W.gf_state_behind (W.lt 52 (by decide)) rfl (a_cons (c.var (i := 9) rfl (.inl rfl) (by decide) (by decide)) (a_cons (q_tup a_nil) (a_cons k_int a_nil rfl) rfl) rfl) (by decide) rfl rfl) k_int (fun _ _ => rfl)) (q_tup (a_cons (q_tup (a_cons k_int (a_cons k_int (a_cons (q_tup (a_cons k_int (a_cons (k_neg k_int) (a_cons k_int a_nil rfl) rfl) rfl)) (a_cons (k_strS e11) a_nil rfl) rfl) rfl) rfl)) a_nil rfl)))))) (s_one (s_ret k_bl)) s_nil)
  (s_seq (c.setL rfl rfl (c.cmt W.cm_Book_read (c.glob (gv_Book W) rfl (by decide)) (a_cons (k_strS e116) a_nil rfl) rfl rfl rfl) rfl)
  (s_seq (s_if (PW.pt (w_or (c.tne (wE W) (c.call W.gf_run (W.lt 51 (by decide)) rfl (a_cons (c.var (i := 10) rfl (.inl rfl) (by decide) (by decide)) (a_cons (q_tup (a_cons k_int (a_cons k_int a_nil rfl) rfl)) (a_cons k_int a_nil rfl) rfl) rfl) (by decide) rfl rfl) (c.make (mW_Over W) rfl (a_cons k_int a_nil rfl) (by decide) rfl rfl)) (w_or (c.tne (wE W) (c.call W.gf_run (W.lt 51 (by decide)) rfl (a_cons (c.var (i := 10) rfl (.inl rfl) (by decide) (by decide)) (a_cons (q_tup (a_cons k_int (a_cons k_int a_nil rfl) rfl)) (a_cons k_int a_nil rfl) rfl) rfl) (by decide) rfl rfl) (c.make (mW_Open W) rfl (a_cons k_int a_nil rfl) (by decide) rfl rfl)) (w_or (c.tne (wE W) (c.cb (c.kx (r := rLenA) c_len) s_len W.fr_len PySem.boot_len rfl (a_cons (c.ix (c.call W.gf_state_behind (W.lt 52 (by decide)) rfl (a_cons (c.var (i := 10) rfl (.inl rfl) (by decide) (by decide)) (a_cons (q_tup (a_cons k_int (a_cons k_int a_nil rfl) rfl)) (a_cons k_int a_nil rfl) rfl) rfl) (by decide) rfl rfl) k_int (fun _ _ => rfl)) a_nil rfl) (by decide) (by decide) rfl rfl) k_int) (w_or1 (c.tne (wE W) (c.cb (c.kx (r := rLenA) c_len) s_len W.fr_len PySem.boot_len rfl (a_cons (c.ix (c.call W.gf_state_behind (W.lt 52 (by decide)) rfl (a_cons (c.var (i := 10) rfl (.inl rfl) (by decide) (by decide)) (a_cons (q_tup (a_cons k_int (a_cons k_int (a_cons k_int a_nil rfl) rfl) rfl)) (a_cons k_int a_nil rfl) rfl) rfl) (by decide) rfl rfl) k_int (fun _ _ => rfl)) a_nil rfl) (by decide) (by decide) rfl rfl) k_int)))))) (s_one (s_ret k_bl)) s_nil)
  (s_seq (c.setL rfl rfl (c.cmt W.cm_Book_read (c.glob (gv_Book W) rfl (by decide)) (a_cons (k_strS e117) a_nil rfl) rfl rfl rfl) rfl)
  (s_one (s_ret (q_and (c.eq (wE W) (c.call W.gf_run (W.lt 51 (by decide)) rfl (a_cons (c.var (i := 11) rfl (.inl rfl) (by decide) (by decide)) (a_cons (q_tup a_nil) (a_cons k_int a_nil rfl) rfl) rfl) (by decide) rfl rfl) (c.make (mW_Fault W) rfl (a_cons (k_strS e27) (a_cons k_int (a_cons k_int (a_cons k_int a_nil rfl) rfl) rfl) rfl) (by decide) rfl rfl)) (pe_one (c.eq (wE W) (c.call W.gf_state_behind (W.lt 52 (by decide)) rfl (a_cons (c.var (i := 11) rfl (.inl rfl) (by decide) (by decide)) (a_cons (q_tup a_nil) (a_cons k_int a_nil rfl) rfl) rfl) (by decide) rfl rfl) (q_tup (a_cons (q_tup (a_cons (q_tup (a_cons k_int (a_cons k_int (a_cons (q_tup (a_cons k_int a_nil rfl)) (a_cons (k_strS e11) a_nil rfl) rfl) rfl) rfl)) a_nil rfl)) (a_cons (q_tup (a_cons (q_tup (a_cons (k_strS e44) (a_cons (k_neg k_int) (a_cons k_bl a_nil rfl) rfl) rfl)) (a_cons (q_tup (a_cons (k_strS e25) (a_cons k_int (a_cons k_bl a_nil rfl) rfl) rfl)) a_nil rfl) rfl)) a_nil rfl) rfl)))))))))))))))))))))))))
end
def tree : DT := (.nd 52 (.nd 26 (.nd 13 (.nd 6 (.nd 3 (.nd 1 (.lf 0 fun C xs h => bodyG 1 1 (sh0 C) xs h) (.nd 2 (.lf 1 fun C xs h => bodyG 1 1 (sh1 C) xs h) (.lf 2 fun C xs h => bodyG 2 2 (sh2 C) xs h))) (.nd 4 (.lf 3 fun C xs h => bodyG 1 2 (sh3 C) xs h) (.nd 5 (.lf 4 fun C xs h => bodyG 3 3 (sh4 C) xs h) (.lf 5 fun C xs h => bodyG 2 6 (sh5 C) xs h)))) (.nd 9 (.nd 7 (.lf 6 fun C xs h => bodyG 3 4 (sh6 C) xs h) (.nd 8 (.lf 7 fun C xs h => bodyG 4 5 (sh7 C) xs h) (.lf 8 fun C xs h => bodyG 4 6 (sh8 C) xs h))) (.nd 11 (.nd 10 (.lf 9 fun C xs h => bodyG 1 1 (sh9 C) xs h) (.lf 10 fun C xs h => bodyG 1 3 (sh10 C) xs h)) (.nd 12 (.lf 11 fun C xs h => bodyG 1 2 (sh11 C) xs h) (.lf 12 fun C xs h => bodyG 1 4 (sh12 C) xs h))))) (.nd 19 (.nd 16 (.nd 14 (.lf 13 fun C xs h => bodyG 1 8 (sh13 C) xs h) (.nd 15 (.lf 14 fun C xs h => bodyG 1 2 (sh14 C) xs h) (.lf 15 fun C xs h => bodyG 2 2 (sh15 C) xs h))) (.nd 17 (.lf 16 fun C xs h => bodyG 2 2 (sh16 C) xs h) (.nd 18 (.lf 17 fun C xs h => bodyG 2 2 (sh17 C) xs h) (.lf 18 fun C xs h => bodyG 2 4 (sh18 C) xs h)))) (.nd 22 (.nd 20 (.lf 19 fun C xs h => bodyG 1 5 (sh19 C) xs h) (.nd 21 (.lf 20 fun C xs h => bodyG 2 5 (sh20 C) xs h) (.lf 21 fun C xs h => bodyG 2 2 (sh21 C) xs h))) (.nd 24 (.nd 23 (.lf 22 fun C xs h => bodyG 2 2 (sh22 C) xs h) (.lf 23 fun C xs h => bodyG 5 5 (sh23 C) xs h)) (.nd 25 (.lf 24 fun C xs h => bodyG 1 1 (sh24 C) xs h) (.lf 25 fun C xs h => bodyG 2 2 (sh25 C) xs h)))))) (.nd 39 (.nd 32 (.nd 29 (.nd 27 (.lf 26 fun C xs h => bodyG 2 2 (sh26 C) xs h) (.nd 28 (.lf 27 fun C xs h => bodyG 2 2 (sh27 C) xs h) (.lf 28 fun C xs h => bodyG 1 1 (sh28 C) xs h))) (.nd 30 (.lf 29 fun C xs h => bodyG 3 3 (sh29 C) xs h) (.nd 31 (.lf 30 fun C xs h => bodyG 2 4 (sh30 C) xs h) (.lf 31 fun C xs h => bodyG 2 3 (sh31 C) xs h)))) (.nd 35 (.nd 33 (.lf 32 fun C xs h => bodyG 2 6 (sh32 C) xs h) (.nd 34 (.lf 33 fun C xs h => bodyG 3 5 (sh33 C) xs h) (.lf 34 fun C xs h => bodyG 2 3 (sh34 C) xs h))) (.nd 37 (.nd 36 (.lf 35 fun C xs h => bodyG 2 2 (sh35 C) xs h) (.lf 36 fun C xs h => bodyG 2 2 (sh36 C) xs h)) (.nd 38 (.lf 37 fun C xs h => bodyG 3 3 (sh37 C) xs h) (.lf 38 fun C xs h => bodyG 2 4 (sh38 C) xs h))))) (.nd 45 (.nd 42 (.nd 40 (.lf 39 fun C xs h => bodyG 4 7 (sh39 C) xs h) (.nd 41 (.lf 40 fun C xs h => bodyG 1 5 (sh40 C) xs h) (.lf 41 fun C xs h => bodyG 1 4 (sh41 C) xs h))) (.nd 43 (.lf 42 fun C xs h => bodyG 4 5 (sh42 C) xs h) (.nd 44 (.lf 43 fun C xs h => bodyG 3 4 (sh43 C) xs h) (.lf 44 fun C xs h => bodyG 2 7 (sh44 C) xs h)))) (.nd 48 (.nd 46 (.lf 45 fun C xs h => bodyG 3 6 (sh45 C) xs h) (.nd 47 (.lf 46 fun C xs h => bodyG 4 5 (sh46 C) xs h) (.lf 47 fun C xs h => bodyG 4 8 (sh47 C) xs h))) (.nd 50 (.nd 49 (.lf 48 fun C xs h => bodyG 2 5 (sh48 C) xs h) (.lf 49 fun C xs h => bodyG 1 2 (sh49 C) xs h)) (.nd 51 (.lf 50 fun C xs h => bodyG 3 10 (sh50 C) xs h) (.lf 51 fun C xs h => bodyG 3 3 (sh51 C) xs h))))))) (.nd 78 (.nd 65 (.nd 58 (.nd 55 (.nd 53 (.lf 52 fun C xs h => bodyG 3 4 (sh52 C) xs h) (.nd 54 (.lf 53 fun C xs h => bodyG 1 2 (sh53 C) xs h) (.lf 54 fun C xs h => bodyG 1 5 (sh54 C) xs h))) (.nd 56 (.lf 55 fun C xs h => bodyG 1 6 (sh55 C) xs h) (.nd 57 (.lf 56 fun C xs h => bodyG 2 2 (sh56 C) xs h) (.lf 57 fun C xs h => bodyG 2 2 (sh57 C) xs h)))) (.nd 61 (.nd 59 (.lf 58 fun C xs h => bodyG 2 3 (sh58 C) xs h) (.nd 60 (.lf 59 fun C xs h => bodyG 2 3 (sh59 C) xs h) (.lf 60 fun C xs h => bodyG 2 5 (sh60 C) xs h))) (.nd 63 (.nd 62 (.lf 61 fun C xs h => bodyG 2 9 (sh61 C) xs h) (.lf 62 fun C xs h => bodyG 2 7 (sh62 C) xs h)) (.nd 64 (.lf 63 fun C xs h => bodyG 1 1 (sh63 C) xs h) (.lf 64 fun C xs h => bodyG 2 4 (sh64 C) xs h))))) (.nd 71 (.nd 68 (.nd 66 (.lf 65 fun C xs h => bodyG 1 3 (sh65 C) xs h) (.nd 67 (.lf 66 fun C xs h => bodyG 1 2 (sh66 C) xs h) (.lf 67 fun C xs h => bodyG 1 9 (sh67 C) xs h))) (.nd 69 (.lf 68 fun C xs h => bodyG 1 2 (sh68 C) xs h) (.nd 70 (.lf 69 fun C xs h => bodyG 3 4 (sh69 C) xs h) (.lf 70 fun C xs h => bodyG 2 3 (sh70 C) xs h)))) (.nd 74 (.nd 72 (.lf 71 fun C xs h => bodyG 2 2 (sh71 C) xs h) (.nd 73 (.lf 72 fun C xs h => bodyG 1 8 (sh72 C) xs h) (.lf 73 fun C xs h => bodyG 1 1 (sh73 C) xs h))) (.nd 76 (.nd 75 (.lf 74 fun C xs h => bodyG 2 2 (sh74 C) xs h) (.lf 75 fun C xs h => bodyG 1 1 (sh75 C) xs h)) (.nd 77 (.lf 76 fun C xs h => bodyG 2 4 (sh76 C) xs h) (.lf 77 fun C xs h => bodyG 2 2 (sh77 C) xs h)))))) (.nd 91 (.nd 84 (.nd 81 (.nd 79 (.lf 78 fun C xs h => bodyG 1 1 (sh78 C) xs h) (.nd 80 (.lf 79 fun C xs h => bodyG 1 2 (sh79 C) xs h) (.lf 80 fun C xs h => bodyG 2 2 (sh80 C) xs h))) (.nd 82 (.lf 81 fun C xs h => bodyG 1 2 (sh81 C) xs h) (.nd 83 (.lf 82 fun C xs h => bodyG 1 2 (sh82 C) xs h) (.lf 83 fun C xs h => bodyG 3 5 (sh83 C) xs h)))) (.nd 87 (.nd 85 (.lf 84 fun C xs h => bodyG 1 2 (sh84 C) xs h) (.nd 86 (.lf 85 fun C xs h => bodyG 1 4 (sh85 C) xs h) (.lf 86 fun C xs h => bodyG 1 4 (sh86 C) xs h))) (.nd 89 (.nd 88 (.lf 87 fun C xs h => bodyG 1 5 (sh87 C) xs h) (.lf 88 fun C xs h => bodyG 1 2 (sh88 C) xs h)) (.nd 90 (.lf 89 fun C xs h => bodyG 1 1 (sh89 C) xs h) (.lf 90 fun C xs h => bodyG 1 1 (sh90 C) xs h))))) (.nd 97 (.nd 94 (.nd 92 (.lf 91 fun C xs h => bodyG 3 3 (sh91 C) xs h) (.nd 93 (.lf 92 fun C xs h => bodyG 1 1 (sh92 C) xs h) (.lf 93 fun C xs h => bodyG 1 2 (sh93 C) xs h))) (.nd 95 (.lf 94 fun C xs h => bodyG 1 2 (sh94 C) xs h) (.nd 96 (.lf 95 fun C xs h => bodyG 4 5 (sh95 C) xs h) (.lf 96 fun C xs h => bodyG 2 10 (sh96 C) xs h)))) (.nd 100 (.nd 98 (.lf 97 fun C xs h => bodyG 1 3 (sh97 C) xs h) (.nd 99 (.lf 98 fun C xs h => bodyG 2 5 (sh98 C) xs h) (.lf 99 fun C xs h => bodyG 2 2 (sh99 C) xs h))) (.nd 102 (.nd 101 (.lf 100 fun C xs h => bodyG 2 2 (sh100 C) xs h) (.lf 101 fun C xs h => bodyG 1 5 (sh101 C) xs h)) (.nd 103 (.lf 102 fun C xs h => bodyG 2 5 (sh102 C) xs h) (.lf 103 fun C xs h => bodyG 2 2 (sh103 C) xs h))))))))
theorem S0 : FnScope N0 ["value"] (defScope (top 9)) := ⟨rfl, rfl, rfl, by decide +kernel, rfl, by decide +kernel, by decide +kernel⟩
theorem S1 : FnScope N1 ["value"] (defScope (top 10)) := ⟨rfl, rfl, rfl, by decide +kernel, rfl, by decide +kernel, by decide +kernel⟩
theorem S2 : FnScope N2 ["many", "value"] (defScope (top 11)) := ⟨rfl, rfl, rfl, by decide +kernel, rfl, by decide +kernel, by decide +kernel⟩
theorem S3 : FnScope N3 ["value"] (defScope (top 12)) := ⟨rfl, rfl, rfl, by decide +kernel, rfl, by decide +kernel, by decide +kernel⟩
theorem S4 : FnScope N4 ["self", "variables", "give"] (defScope (sub 15 0)) := ⟨rfl, rfl, rfl, by decide +kernel, rfl, by decide +kernel, by decide +kernel⟩
theorem S5 : FnScope N5 ["self", "body"] (defScope (sub 15 1)) := ⟨rfl, rfl, rfl, by decide +kernel, rfl, by decide +kernel, by decide +kernel⟩
theorem S6 : FnScope N6 ["self", "statement", "first"] (defScope (sub 15 2)) := ⟨rfl, rfl, rfl, by decide +kernel, rfl, by decide +kernel, by decide +kernel⟩
theorem S7 : FnScope N7 ["self", "statement", "first", "last"] (defScope (sub 15 3)) := ⟨rfl, rfl, rfl, by decide +kernel, rfl, by decide +kernel, by decide +kernel⟩
theorem S8 : FnScope N8 ["self", "body", "first", "last"] (defScope (sub 15 4)) := ⟨rfl, rfl, rfl, by decide +kernel, rfl, by decide +kernel, by decide +kernel⟩
theorem S9 : FnScope N9 ["statement"] (defScope (top 16)) := ⟨rfl, rfl, rfl, by decide +kernel, rfl, by decide +kernel, by decide +kernel⟩
theorem S10 : FnScope N10 ["statement"] (defScope (top 17)) := ⟨rfl, rfl, rfl, by decide +kernel, rfl, by decide +kernel, by decide +kernel⟩
theorem S11 : FnScope N11 ["body"] (defScope (top 18)) := ⟨rfl, rfl, rfl, by decide +kernel, rfl, by decide +kernel, by decide +kernel⟩
theorem S12 : FnScope N12 ["statement"] (defScope (top 19)) := ⟨rfl, rfl, rfl, by decide +kernel, rfl, by decide +kernel, by decide +kernel⟩
theorem S13 : FnScope N13 ["proc"] (defScope (top 20)) := ⟨rfl, rfl, rfl, by decide +kernel, rfl, by decide +kernel, by decide +kernel⟩
theorem S14 : FnScope N14 ["proc"] (defScope (top 21)) := ⟨rfl, rfl, rfl, by decide +kernel, rfl, by decide +kernel, by decide +kernel⟩
theorem S15 : FnScope N15 ["book", "proc"] (defScope (top 22)) := ⟨rfl, rfl, rfl, by decide +kernel, rfl, by decide +kernel, by decide +kernel⟩
theorem S16 : FnScope N16 ["book", "proc"] (defScope (top 23)) := ⟨rfl, rfl, rfl, by decide +kernel, rfl, by decide +kernel, by decide +kernel⟩
theorem S17 : FnScope N17 ["book", "proc"] (defScope (top 24)) := ⟨rfl, rfl, rfl, by decide +kernel, rfl, by decide +kernel, by decide +kernel⟩
theorem S18 : FnScope N18 ["book", "proc"] (defScope (top 25)) := ⟨rfl, rfl, rfl, by decide +kernel, rfl, by decide +kernel, by decide +kernel⟩
theorem S19 : FnScope N19 ["value"] (defScope (top 27)) := ⟨rfl, rfl, rfl, by decide +kernel, rfl, by decide +kernel, by decide +kernel⟩
theorem S20 : FnScope N20 ["one", "other"] (defScope (top 28)) := ⟨rfl, rfl, rfl, by decide +kernel, rfl, by decide +kernel, by decide +kernel⟩
theorem S21 : FnScope N21 ["self", "acts"] (defScope (sub 30 0)) := ⟨rfl, rfl, rfl, by decide +kernel, rfl, by decide +kernel, by decide +kernel⟩
theorem S22 : FnScope N22 ["self", "other"] (defScope (sub 30 1)) := ⟨rfl, rfl, rfl, by decide +kernel, rfl, by decide +kernel, by decide +kernel⟩
theorem S23 : FnScope N23 ["self", "what", "proc", "row", "acts"] (defScope (sub 31 0)) := ⟨rfl, rfl, rfl, by decide +kernel, rfl, by decide +kernel, by decide +kernel⟩
theorem S24 : FnScope N24 ["self"] (defScope (sub 31 1)) := ⟨rfl, rfl, rfl, by decide +kernel, rfl, by decide +kernel, by decide +kernel⟩
theorem S25 : FnScope N25 ["self", "other"] (defScope (sub 31 2)) := ⟨rfl, rfl, rfl, by decide +kernel, rfl, by decide +kernel, by decide +kernel⟩
theorem S26 : FnScope N26 ["self", "acts"] (defScope (sub 32 0)) := ⟨rfl, rfl, rfl, by decide +kernel, rfl, by decide +kernel, by decide +kernel⟩
theorem S27 : FnScope N27 ["self", "other"] (defScope (sub 32 1)) := ⟨rfl, rfl, rfl, by decide +kernel, rfl, by decide +kernel, by decide +kernel⟩
theorem S28 : FnScope N28 ["self"] (defScope (sub 33 0)) := ⟨rfl, rfl, rfl, by decide +kernel, rfl, by decide +kernel, by decide +kernel⟩
theorem S29 : FnScope N29 ["self", "kind", "parent"] (defScope (sub 33 1)) := ⟨rfl, rfl, rfl, by decide +kernel, rfl, by decide +kernel, by decide +kernel⟩
theorem S30 : FnScope N30 ["self", "node"] (defScope (sub 33 2)) := ⟨rfl, rfl, rfl, by decide +kernel, rfl, by decide +kernel, by decide +kernel⟩
theorem S31 : FnScope N31 ["self", "node"] (defScope (sub 33 3)) := ⟨rfl, rfl, rfl, by decide +kernel, rfl, by decide +kernel, by decide +kernel⟩
theorem S32 : FnScope N32 ["self", "nodes"] (defScope (sub 33 4)) := ⟨rfl, rfl, rfl, by decide +kernel, rfl, by decide +kernel, by decide +kernel⟩
theorem S33 : FnScope N33 ["self", "node", "other"] (defScope (sub 33 5)) := ⟨rfl, rfl, rfl, by decide +kernel, rfl, by decide +kernel, by decide +kernel⟩
theorem S34 : FnScope N34 ["self", "node"] (defScope (sub 33 6)) := ⟨rfl, rfl, rfl, by decide +kernel, rfl, by decide +kernel, by decide +kernel⟩
theorem S35 : FnScope N35 ["self", "node"] (defScope (sub 33 7)) := ⟨rfl, rfl, rfl, by decide +kernel, rfl, by decide +kernel, by decide +kernel⟩
theorem S36 : FnScope N36 ["self", "node"] (defScope (sub 33 8)) := ⟨rfl, rfl, rfl, by decide +kernel, rfl, by decide +kernel, by decide +kernel⟩
theorem S37 : FnScope N37 ["self", "node", "writes"] (defScope (sub 33 9)) := ⟨rfl, rfl, rfl, by decide +kernel, rfl, by decide +kernel, by decide +kernel⟩
theorem S38 : FnScope N38 ["self", "book"] (defScope (sub 34 0)) := ⟨rfl, rfl, rfl, by decide +kernel, rfl, by decide +kernel, by decide +kernel⟩
theorem S39 : FnScope N39 ["self", "number", "given", "target"] (defScope (sub 34 1)) := ⟨rfl, rfl, rfl, by decide +kernel, rfl, by decide +kernel, by decide +kernel⟩
theorem S40 : FnScope N40 ["self"] (defScope (sub 34 2)) := ⟨rfl, rfl, rfl, by decide +kernel, rfl, by decide +kernel, by decide +kernel⟩
theorem S41 : FnScope N41 ["self"] (defScope (sub 34 3)) := ⟨rfl, rfl, rfl, by decide +kernel, rfl, by decide +kernel, by decide +kernel⟩
theorem S42 : FnScope N42 ["self", "frame", "name", "node"] (defScope (sub 34 4)) := ⟨rfl, rfl, rfl, by decide +kernel, rfl, by decide +kernel, by decide +kernel⟩
theorem S43 : FnScope N43 ["self", "frame", "name"] (defScope (sub 34 5)) := ⟨rfl, rfl, rfl, by decide +kernel, rfl, by decide +kernel, by decide +kernel⟩
theorem S44 : FnScope N44 ["self", "row"] (defScope (sub 34 6)) := ⟨rfl, rfl, rfl, by decide +kernel, rfl, by decide +kernel, by decide +kernel⟩
theorem S45 : FnScope N45 ["self", "frame", "act"] (defScope (sub 34 7)) := ⟨rfl, rfl, rfl, by decide +kernel, rfl, by decide +kernel, by decide +kernel⟩
theorem S46 : FnScope N46 ["self", "frame", "act", "node"] (defScope (sub 34 8)) := ⟨rfl, rfl, rfl, by decide +kernel, rfl, by decide +kernel, by decide +kernel⟩
theorem S47 : FnScope N47 ["self", "frame", "act", "last"] (defScope (sub 34 9)) := ⟨rfl, rfl, rfl, by decide +kernel, rfl, by decide +kernel, by decide +kernel⟩
theorem S48 : FnScope N48 ["self", "act"] (defScope (sub 34 10)) := ⟨rfl, rfl, rfl, by decide +kernel, rfl, by decide +kernel, by decide +kernel⟩
theorem S49 : FnScope N49 ["choices"] (defScope (top 35)) := ⟨rfl, rfl, rfl, by decide +kernel, rfl, by decide +kernel, by decide +kernel⟩
theorem S50 : FnScope N50 ["runner", "choices", "most"] (defScope (top 36)) := ⟨rfl, rfl, rfl, by decide +kernel, rfl, by decide +kernel, by decide +kernel⟩
theorem S51 : FnScope N51 ["book", "choices", "most"] (defScope (top 37)) := ⟨rfl, rfl, rfl, by decide +kernel, rfl, by decide +kernel, by decide +kernel⟩
theorem S52 : FnScope N52 ["book", "choices", "most"] (defScope (top 38)) := ⟨rfl, rfl, rfl, by decide +kernel, rfl, by decide +kernel, by decide +kernel⟩
theorem S53 : FnScope N53 ["body"] (defScope (top 46)) := ⟨rfl, rfl, rfl, by decide +kernel, rfl, by decide +kernel, by decide +kernel⟩
theorem S54 : FnScope N54 ["statement"] (defScope (top 47)) := ⟨rfl, rfl, rfl, by decide +kernel, rfl, by decide +kernel, by decide +kernel⟩
theorem S55 : FnScope N55 ["proc"] (defScope (top 48)) := ⟨rfl, rfl, rfl, by decide +kernel, rfl, by decide +kernel, by decide +kernel⟩
theorem S56 : FnScope N56 ["self", "procs"] (defScope (sub 49 0)) := ⟨rfl, rfl, rfl, by decide +kernel, rfl, by decide +kernel, by decide +kernel⟩
theorem S57 : FnScope N57 ["self", "name"] (defScope (sub 49 1)) := ⟨rfl, rfl, rfl, by decide +kernel, rfl, by decide +kernel, by decide +kernel⟩
theorem S58 : FnScope N58 ["self", "params"] (defScope (sub 49 2)) := ⟨rfl, rfl, rfl, by decide +kernel, rfl, by decide +kernel, by decide +kernel⟩
theorem S59 : FnScope N59 ["self", "body"] (defScope (sub 49 3)) := ⟨rfl, rfl, rfl, by decide +kernel, rfl, by decide +kernel, by decide +kernel⟩
theorem S60 : FnScope N60 ["self", "statement"] (defScope (sub 49 4)) := ⟨rfl, rfl, rfl, by decide +kernel, rfl, by decide +kernel, by decide +kernel⟩
theorem S61 : FnScope N61 ["self", "statement"] (defScope (sub 49 5)) := ⟨rfl, rfl, rfl, by decide +kernel, rfl, by decide +kernel, by decide +kernel⟩
theorem S62 : FnScope N62 ["procs", "proc"] (defScope (top 50)) := ⟨rfl, rfl, rfl, by decide +kernel, rfl, by decide +kernel, by decide +kernel⟩
theorem S63 : FnScope N63 ["proc"] (defScope (top 51)) := ⟨rfl, rfl, rfl, by decide +kernel, rfl, by decide +kernel, by decide +kernel⟩
theorem S64 : FnScope N64 ["procs", "end"] (defScope (top 52)) := ⟨rfl, rfl, rfl, by decide +kernel, rfl, by decide +kernel, by decide +kernel⟩
theorem S65 : FnScope N65 ["statement"] (defScope (top 54)) := ⟨rfl, rfl, rfl, by decide +kernel, rfl, by decide +kernel, by decide +kernel⟩
theorem S66 : FnScope N66 ["body"] (defScope (top 55)) := ⟨rfl, rfl, rfl, by decide +kernel, rfl, by decide +kernel, by decide +kernel⟩
theorem S67 : FnScope N67 ["proc"] (defScope (top 56)) := ⟨rfl, rfl, rfl, by decide +kernel, rfl, by decide +kernel, by decide +kernel⟩
theorem S68 : FnScope N68 ["procs"] (defScope (top 57)) := ⟨rfl, rfl, rfl, by decide +kernel, rfl, by decide +kernel, by decide +kernel⟩
theorem S69 : FnScope N69 ["line", "at", "signs"] (defScope (top 62)) := ⟨rfl, rfl, rfl, by decide +kernel, rfl, by decide +kernel, by decide +kernel⟩
theorem S70 : FnScope N70 ["line", "at"] (defScope (top 63)) := ⟨rfl, rfl, rfl, by decide +kernel, rfl, by decide +kernel, by decide +kernel⟩
theorem S71 : FnScope N71 ["line", "at"] (defScope (top 64)) := ⟨rfl, rfl, rfl, by decide +kernel, rfl, by decide +kernel, by decide +kernel⟩
theorem S72 : FnScope N72 ["text"] (defScope (top 65)) := ⟨rfl, rfl, rfl, by decide +kernel, rfl, by decide +kernel, by decide +kernel⟩
theorem S73 : FnScope N73 ["text"] (defScope (top 66)) := ⟨rfl, rfl, rfl, by decide +kernel, rfl, by decide +kernel, by decide +kernel⟩
theorem S74 : FnScope N74 ["self", "text"] (defScope (sub 68 0)) := ⟨rfl, rfl, rfl, by decide +kernel, rfl, by decide +kernel, by decide +kernel⟩
theorem S75 : FnScope N75 ["self"] (defScope (sub 68 1)) := ⟨rfl, rfl, rfl, by decide +kernel, rfl, by decide +kernel, by decide +kernel⟩
theorem S76 : FnScope N76 ["self", "some"] (defScope (sub 68 3)) := ⟨rfl, rfl, rfl, by decide +kernel, rfl, by decide +kernel, by decide +kernel⟩
theorem S77 : FnScope N77 ["self", "letters"] (defScope (sub 68 4)) := ⟨rfl, rfl, rfl, by decide +kernel, rfl, by decide +kernel, by decide +kernel⟩
theorem S78 : FnScope N78 ["self"] (defScope (sub 68 5)) := ⟨rfl, rfl, rfl, by decide +kernel, rfl, by decide +kernel, by decide +kernel⟩
theorem S79 : FnScope N79 ["self"] (defScope (sub 68 6)) := ⟨rfl, rfl, rfl, by decide +kernel, rfl, by decide +kernel, by decide +kernel⟩
theorem S80 : FnScope N80 ["self", "letters"] (defScope (sub 68 7)) := ⟨rfl, rfl, rfl, by decide +kernel, rfl, by decide +kernel, by decide +kernel⟩
theorem S81 : FnScope N81 ["self"] (defScope (sub 68 8)) := ⟨rfl, rfl, rfl, by decide +kernel, rfl, by decide +kernel, by decide +kernel⟩
theorem S82 : FnScope N82 ["reader"] (defScope (top 71)) := ⟨rfl, rfl, rfl, by decide +kernel, rfl, by decide +kernel, by decide +kernel⟩
theorem S83 : FnScope N83 ["reader", "place", "name"] (defScope (top 72)) := ⟨rfl, rfl, rfl, by decide +kernel, rfl, by decide +kernel, by decide +kernel⟩
theorem S84 : FnScope N84 ["reader"] (defScope (top 73)) := ⟨rfl, rfl, rfl, by decide +kernel, rfl, by decide +kernel, by decide +kernel⟩
theorem S85 : FnScope N85 ["reader"] (defScope (top 74)) := ⟨rfl, rfl, rfl, by decide +kernel, rfl, by decide +kernel, by decide +kernel⟩
theorem S86 : FnScope N86 ["reader"] (defScope (top 75)) := ⟨rfl, rfl, rfl, by decide +kernel, rfl, by decide +kernel, by decide +kernel⟩
theorem S87 : FnScope N87 ["reader"] (defScope (top 76)) := ⟨rfl, rfl, rfl, by decide +kernel, rfl, by decide +kernel, by decide +kernel⟩
theorem S88 : FnScope N88 ["reader"] (defScope (top 77)) := ⟨rfl, rfl, rfl, by decide +kernel, rfl, by decide +kernel, by decide +kernel⟩
theorem S89 : FnScope N89 ["text"] (defScope (top 78)) := ⟨rfl, rfl, rfl, by decide +kernel, rfl, by decide +kernel, by decide +kernel⟩
theorem S90 : FnScope N90 ["value"] (defScope (top 81)) := ⟨rfl, rfl, rfl, by decide +kernel, rfl, by decide +kernel, by decide +kernel⟩
theorem S91 : FnScope N91 ["bad", "what", "value"] (defScope (top 82)) := ⟨rfl, rfl, rfl, by decide +kernel, rfl, by decide +kernel, by decide +kernel⟩
theorem S92 : FnScope N92 ["name"] (defScope (top 83)) := ⟨rfl, rfl, rfl, by decide +kernel, rfl, by decide +kernel, by decide +kernel⟩
theorem S93 : FnScope N93 ["names"] (defScope (top 84)) := ⟨rfl, rfl, rfl, by decide +kernel, rfl, by decide +kernel, by decide +kernel⟩
theorem S94 : FnScope N94 ["value"] (defScope (top 85)) := ⟨rfl, rfl, rfl, by decide +kernel, rfl, by decide +kernel, by decide +kernel⟩
theorem S95 : FnScope N95 ["body", "what", "value", "storey"] (defScope (top 86)) := ⟨rfl, rfl, rfl, by decide +kernel, rfl, by decide +kernel, by decide +kernel⟩
theorem S96 : FnScope N96 ["statement", "storey"] (defScope (top 87)) := ⟨rfl, rfl, rfl, by decide +kernel, rfl, by decide +kernel, by decide +kernel⟩
theorem S97 : FnScope N97 ["proc"] (defScope (top 88)) := ⟨rfl, rfl, rfl, by decide +kernel, rfl, by decide +kernel, by decide +kernel⟩
theorem S98 : FnScope N98 ["self", "procs"] (defScope (sub 89 0)) := ⟨rfl, rfl, rfl, by decide +kernel, rfl, by decide +kernel, by decide +kernel⟩
theorem S99 : FnScope N99 ["self", "other"] (defScope (sub 89 1)) := ⟨rfl, rfl, rfl, by decide +kernel, rfl, by decide +kernel, by decide +kernel⟩
theorem S100 : FnScope N100 ["cls", "text"] (defScope (sub 89 3)) := ⟨rfl, rfl, rfl, by decide +kernel, rfl, by decide +kernel, by decide +kernel⟩
theorem S101 : FnScope N101 ["text"] (defScope (top 90)) := ⟨rfl, rfl, rfl, by decide +kernel, rfl, by decide +kernel, by decide +kernel⟩
theorem S102 : FnScope N102 ["pen", "many"] (defScope (top 93)) := ⟨rfl, rfl, rfl, by decide +kernel, rfl, by decide +kernel, by decide +kernel⟩
theorem S103 : FnScope N103 ["pen", "some"] (defScope (top 94)) := ⟨rfl, rfl, rfl, by decide +kernel, rfl, by decide +kernel, by decide +kernel⟩
end Law
end
/-! ##### H_k91.lean -/
set_option Elab.async false
set_option linter.all false
set_option maxRecDepth 100000
set_option maxHeartbeats 0
set_option autoImplicit false
noncomputable section
namespace Law
open PySem PySem.W PySem.Calls PySem.Spec PyProof.Rows L2 LV
open LV (bAnd bOr bNot bVal)
def d0 : VD := ⟨fun K => He.fAd K ("is_whole", none), "is_whole", "is_whole", defArgs (top 9), defBody (top 9), defScope (top 9)⟩
def d1 : VD := ⟨fun K => He.fAd K ("is_list", none), "is_list", "is_list", defArgs (top 10), defBody (top 10), defScope (top 10)⟩
def d2 : VD := ⟨fun K => He.fAd K ("is_index", none), "is_index", "is_index", defArgs (top 11), defBody (top 11), defScope (top 11)⟩
def d3 : VD := ⟨fun K => He.fAd K ("is_name", none), "is_name", "is_name", defArgs (top 12), defBody (top 12), defScope (top 12)⟩
def d4 : VD := ⟨fun K => He.fAd K ("Flow", some "__init__"), "__init__", "Flow.__init__", defArgs (sub 15 0), defBody (sub 15 0), defScope (sub 15 0)⟩
def d5 : VD := ⟨fun K => He.fAd K ("Flow", some "whole"), "whole", "Flow.whole", defArgs (sub 15 1), defBody (sub 15 1), defScope (sub 15 1)⟩
def d6 : VD := ⟨fun K => He.fAd K ("Flow", some "statement"), "statement", "Flow.statement", defArgs (sub 15 2), defBody (sub 15 2), defScope (sub 15 2)⟩
def d7 : VD := ⟨fun K => He.fAd K ("Flow", some "between"), "between", "Flow.between", defArgs (sub 15 3), defBody (sub 15 3), defScope (sub 15 3)⟩
def d8 : VD := ⟨fun K => He.fAd K ("Flow", some "body"), "body", "Flow.body", defArgs (sub 15 4), defBody (sub 15 4), defScope (sub 15 4)⟩
def d9 : VD := ⟨fun K => He.fAd K ("bodies_in", none), "bodies_in", "bodies_in", defArgs (top 16), defBody (top 16), defScope (top 16)⟩
def d10 : VD := ⟨fun K => He.fAd K ("inner_points", none), "inner_points", "inner_points", defArgs (top 17), defBody (top 17), defScope (top 17)⟩
def d11 : VD := ⟨fun K => He.fAd K ("points_within", none), "points_within", "points_within", defArgs (top 18), defBody (top 18), defScope (top 18)⟩
def d12 : VD := ⟨fun K => He.fAd K ("names_in", none), "names_in", "names_in", defArgs (top 19), defBody (top 19), defScope (top 19)⟩
def d13 : VD := ⟨fun K => He.fAd K ("variables_in", none), "variables_in", "variables_in", defArgs (top 20), defBody (top 20), defScope (top 20)⟩
def d14 : VD := ⟨fun K => He.fAd K ("flow_in", none), "flow_in", "flow_in", defArgs (top 21), defBody (top 21), defScope (top 21)⟩
def d15 : VD := ⟨fun K => He.fAd K ("proc_at", none), "proc_at", "proc_at", defArgs (top 22), defBody (top 22), defScope (top 22)⟩
def d16 : VD := ⟨fun K => He.fAd K ("variables_of", none), "variables_of", "variables_of", defArgs (top 23), defBody (top 23), defScope (top 23)⟩
def d17 : VD := ⟨fun K => He.fAd K ("flow_of", none), "flow_of", "flow_of", defArgs (top 24), defBody (top 24), defScope (top 24)⟩
def d18 : VD := ⟨fun K => He.fAd K ("points_of", none), "points_of", "points_of", defArgs (top 25), defBody (top 25), defScope (top 25)⟩
def d19 : VD := ⟨fun K => He.fAd K ("frozen", none), "frozen", "frozen", defArgs (top 27), defBody (top 27), defScope (top 27)⟩
def d20 : VD := ⟨fun K => He.fAd K ("is_alike", none), "is_alike", "is_alike", defArgs (top 28), defBody (top 28), defScope (top 28)⟩
def d21 : VD := ⟨fun K => He.fAd K ("Over", some "__init__"), "__init__", "Over.__init__", defArgs (sub 30 0), defBody (sub 30 0), defScope (sub 30 0)⟩
def d22 : VD := ⟨fun K => He.fAd K ("Over", some "__eq__"), "__eq__", "Over.__eq__", defArgs (sub 30 1), defBody (sub 30 1), defScope (sub 30 1)⟩
def d23 : VD := ⟨fun K => He.fAd K ("Fault", some "__init__"), "__init__", "Fault.__init__", defArgs (sub 31 0), defBody (sub 31 0), defScope (sub 31 0)⟩
def d24 : VD := ⟨fun K => He.fAd K ("Fault", some "fields"), "fields", "Fault.fields", defArgs (sub 31 1), defBody (sub 31 1), defScope (sub 31 1)⟩
def d25 : VD := ⟨fun K => He.fAd K ("Fault", some "__eq__"), "__eq__", "Fault.__eq__", defArgs (sub 31 2), defBody (sub 31 2), defScope (sub 31 2)⟩
def d26 : VD := ⟨fun K => He.fAd K ("Open", some "__init__"), "__init__", "Open.__init__", defArgs (sub 32 0), defBody (sub 32 0), defScope (sub 32 0)⟩
def d27 : VD := ⟨fun K => He.fAd K ("Open", some "__eq__"), "__eq__", "Open.__eq__", defArgs (sub 32 1), defBody (sub 32 1), defScope (sub 32 1)⟩
def d28 : VD := ⟨fun K => He.fAd K ("Things", some "__init__"), "__init__", "Things.__init__", defArgs (sub 33 0), defBody (sub 33 0), defScope (sub 33 0)⟩
def d29 : VD := ⟨fun K => He.fAd K ("Things", some "made"), "made", "Things.made", defArgs (sub 33 1), defBody (sub 33 1), defScope (sub 33 1)⟩
def d30 : VD := ⟨fun K => He.fAd K ("Things", some "above"), "above", "Things.above", defArgs (sub 33 2), defBody (sub 33 2), defScope (sub 33 2)⟩
def d31 : VD := ⟨fun K => He.fAd K ("Things", some "below"), "below", "Things.below", defArgs (sub 33 3), defBody (sub 33 3), defScope (sub 33 3)⟩
def d32 : VD := ⟨fun K => He.fAd K ("Things", some "go"), "go", "Things.go", defArgs (sub 33 4), defBody (sub 33 4), defScope (sub 33 4)⟩
def d33 : VD := ⟨fun K => He.fAd K ("Things", some "has_only"), "has_only", "Things.has_only", defArgs (sub 33 5), defBody (sub 33 5), defScope (sub 33 5)⟩
def d34 : VD := ⟨fun K => He.fAd K ("Things", some "looked_at"), "looked_at", "Things.looked_at", defArgs (sub 33 6), defBody (sub 33 6), defScope (sub 33 6)⟩
def d35 : VD := ⟨fun K => He.fAd K ("Things", some "changed"), "changed", "Things.changed", defArgs (sub 33 7), defBody (sub 33 7), defScope (sub 33 7)⟩
def d36 : VD := ⟨fun K => He.fAd K ("Things", some "let_go"), "let_go", "Things.let_go", defArgs (sub 33 8), defBody (sub 33 8), defScope (sub 33 8)⟩
def d37 : VD := ⟨fun K => He.fAd K ("Things", some "wrong"), "wrong", "Things.wrong", defArgs (sub 33 9), defBody (sub 33 9), defScope (sub 33 9)⟩
def d38 : VD := ⟨fun K => He.fAd K ("Runner", some "__init__"), "__init__", "Runner.__init__", defArgs (sub 34 0), defBody (sub 34 0), defScope (sub 34 0)⟩
def d39 : VD := ⟨fun K => He.fAd K ("Runner", some "enter"), "enter", "Runner.enter", defArgs (sub 34 1), defBody (sub 34 1), defScope (sub 34 1)⟩
def d40 : VD := ⟨fun K => He.fAd K ("Runner", some "state"), "state", "Runner.state", defArgs (sub 34 2), defBody (sub 34 2), defScope (sub 34 2)⟩
def d41 : VD := ⟨fun K => He.fAd K ("Runner", some "ways"), "ways", "Runner.ways", defArgs (sub 34 3), defBody (sub 34 3), defScope (sub 34 3)⟩
def d42 : VD := ⟨fun K => He.fAd K ("Runner", some "put"), "put", "Runner.put", defArgs (sub 34 4), defBody (sub 34 4), defScope (sub 34 4)⟩
def d43 : VD := ⟨fun K => He.fAd K ("Runner", some "taken"), "taken", "Runner.taken", defArgs (sub 34 5), defBody (sub 34 5), defScope (sub 34 5)⟩
def d44 : VD := ⟨fun K => He.fAd K ("Runner", some "done"), "done", "Runner.done", defArgs (sub 34 6), defBody (sub 34 6), defScope (sub 34 6)⟩
def d45 : VD := ⟨fun K => He.fAd K ("Runner", some "acted"), "acted", "Runner.acted", defArgs (sub 34 7), defBody (sub 34 7), defScope (sub 34 7)⟩
def d46 : VD := ⟨fun K => He.fAd K ("Runner", some "acted_on"), "acted_on", "Runner.acted_on", defArgs (sub 34 8), defBody (sub 34 8), defScope (sub 34 8)⟩
def d47 : VD := ⟨fun K => He.fAd K ("Runner", some "called"), "called", "Runner.called", defArgs (sub 34 9), defBody (sub 34 9), defScope (sub 34 9)⟩
def d48 : VD := ⟨fun K => He.fAd K ("Runner", some "left"), "left", "Runner.left", defArgs (sub 34 10), defBody (sub 34 10), defScope (sub 34 10)⟩
def d49 : VD := ⟨fun K => He.fAd K ("choices_told", none), "choices_told", "choices_told", defArgs (top 35), defBody (top 35), defScope (top 35)⟩
def d50 : VD := ⟨fun K => He.fAd K ("walked", none), "walked", "walked", defArgs (top 36), defBody (top 36), defScope (top 36)⟩
def d51 : VD := ⟨fun K => He.fAd K ("run", none), "run", "run", defArgs (top 37), defBody (top 37), defScope (top 37)⟩
def d52 : VD := ⟨fun K => He.fAd K ("state_behind", none), "state_behind", "state_behind", defArgs (top 38), defBody (top 38), defScope (top 38)⟩
def d53 : VD := ⟨fun K => He.fAd K ("bare_body", none), "bare_body", "bare_body", defArgs (top 46), defBody (top 46), defScope (top 46)⟩
def d54 : VD := ⟨fun K => He.fAd K ("bare_statement", none), "bare_statement", "bare_statement", defArgs (top 47), defBody (top 47), defScope (top 47)⟩
def d55 : VD := ⟨fun K => He.fAd K ("bare_proc", none), "bare_proc", "bare_proc", defArgs (top 48), defBody (top 48), defScope (top 48)⟩
def d56 : VD := ⟨fun K => He.fAd K ("Inside", some "__init__"), "__init__", "Inside.__init__", defArgs (sub 49 0), defBody (sub 49 0), defScope (sub 49 0)⟩
def d57 : VD := ⟨fun K => He.fAd K ("Inside", some "variable"), "variable", "Inside.variable", defArgs (sub 49 1), defBody (sub 49 1), defScope (sub 49 1)⟩
def d58 : VD := ⟨fun K => He.fAd K ("Inside", some "params"), "params", "Inside.params", defArgs (sub 49 2), defBody (sub 49 2), defScope (sub 49 2)⟩
def d59 : VD := ⟨fun K => He.fAd K ("Inside", some "body"), "body", "Inside.body", defArgs (sub 49 3), defBody (sub 49 3), defScope (sub 49 3)⟩
def d60 : VD := ⟨fun K => He.fAd K ("Inside", some "statement"), "statement", "Inside.statement", defArgs (sub 49 4), defBody (sub 49 4), defScope (sub 49 4)⟩
def d61 : VD := ⟨fun K => He.fAd K ("Inside", some "call"), "call", "Inside.call", defArgs (sub 49 5), defBody (sub 49 5), defScope (sub 49 5)⟩
def d62 : VD := ⟨fun K => He.fAd K ("proc_looked", none), "proc_looked", "proc_looked", defArgs (top 50), defBody (top 50), defScope (top 50)⟩
def d63 : VD := ⟨fun K => He.fAd K ("shape_of", none), "shape_of", "shape_of", defArgs (top 51), defBody (top 51), defScope (top 51)⟩
def d64 : VD := ⟨fun K => He.fAd K ("kinds_looked", none), "kinds_looked", "kinds_looked", defArgs (top 52), defBody (top 52), defScope (top 52)⟩
def d65 : VD := ⟨fun K => He.fAd K ("statement_text", none), "statement_text", "statement_text", defArgs (top 54), defBody (top 54), defScope (top 54)⟩
def d66 : VD := ⟨fun K => He.fAd K ("body_text", none), "body_text", "body_text", defArgs (top 55), defBody (top 55), defScope (top 55)⟩
def d67 : VD := ⟨fun K => He.fAd K ("proc_text", none), "proc_text", "proc_text", defArgs (top 56), defBody (top 56), defScope (top 56)⟩
def d68 : VD := ⟨fun K => He.fAd K ("book_text", none), "book_text", "book_text", defArgs (top 57), defBody (top 57), defScope (top 57)⟩
def d69 : VD := ⟨fun K => He.fAd K ("row_end", none), "row_end", "row_end", defArgs (top 62), defBody (top 62), defScope (top 62)⟩
def d70 : VD := ⟨fun K => He.fAd K ("letter_word", none), "letter_word", "letter_word", defArgs (top 63), defBody (top 63), defScope (top 63)⟩
def d71 : VD := ⟨fun K => He.fAd K ("word_from", none), "word_from", "word_from", defArgs (top 64), defBody (top 64), defScope (top 64)⟩
def d72 : VD := ⟨fun K => He.fAd K ("words_in", none), "words_in", "words_in", defArgs (top 65), defBody (top 65), defScope (top 65)⟩
def d73 : VD := ⟨fun K => He.fAd K ("words_of", none), "words_of", "words_of", defArgs (top 66), defBody (top 66), defScope (top 66)⟩
def d74 : VD := ⟨fun K => He.fAd K ("Reader", some "__init__"), "__init__", "Reader.__init__", defArgs (sub 68 0), defBody (sub 68 0), defScope (sub 68 0)⟩
def d75 : VD := ⟨fun K => He.fAd K ("Reader", some "place"), "place", "Reader.place", defArgs (sub 68 1), defBody (sub 68 1), defScope (sub 68 1)⟩
def d76 : VD := ⟨fun K => He.fAd K ("Reader", some "next_in"), "next_in", "Reader.next_in", defArgs (sub 68 3), defBody (sub 68 3), defScope (sub 68 3)⟩
def d77 : VD := ⟨fun K => He.fAd K ("Reader", some "next_is"), "next_is", "Reader.next_is", defArgs (sub 68 4), defBody (sub 68 4), defScope (sub 68 4)⟩
def d78 : VD := ⟨fun K => He.fAd K ("Reader", some "next_sort"), "next_sort", "Reader.next_sort", defArgs (sub 68 5), defBody (sub 68 5), defScope (sub 68 5)⟩
def d79 : VD := ⟨fun K => He.fAd K ("Reader", some "take"), "take", "Reader.take", defArgs (sub 68 6), defBody (sub 68 6), defScope (sub 68 6)⟩
def d80 : VD := ⟨fun K => He.fAd K ("Reader", some "need"), "need", "Reader.need", defArgs (sub 68 7), defBody (sub 68 7), defScope (sub 68 7)⟩
def d81 : VD := ⟨fun K => He.fAd K ("Reader", some "name"), "name", "Reader.name", defArgs (sub 68 8), defBody (sub 68 8), defScope (sub 68 8)⟩
def d82 : VD := ⟨fun K => He.fAd K ("read_names", none), "read_names", "read_names", defArgs (top 71), defBody (top 71), defScope (top 71)⟩
def d83 : VD := ⟨fun K => He.fAd K ("read_given", none), "read_given", "read_given", defArgs (top 72), defBody (top 72), defScope (top 72)⟩
def d84 : VD := ⟨fun K => He.fAd K ("read_body", none), "read_body", "read_body", defArgs (top 73), defBody (top 73), defScope (top 73)⟩
def d85 : VD := ⟨fun K => He.fAd K ("read_branches", none), "read_branches", "read_branches", defArgs (top 74), defBody (top 74), defScope (top 74)⟩
def d86 : VD := ⟨fun K => He.fAd K ("read_statement", none), "read_statement", "read_statement", defArgs (top 75), defBody (top 75), defScope (top 75)⟩
def d87 : VD := ⟨fun K => He.fAd K ("read_proc", none), "read_proc", "read_proc", defArgs (top 76), defBody (top 76), defScope (top 76)⟩
def d88 : VD := ⟨fun K => He.fAd K ("read_procs", none), "read_procs", "read_procs", defArgs (top 77), defBody (top 77), defScope (top 77)⟩
def d89 : VD := ⟨fun K => He.fAd K ("read_book", none), "read_book", "read_book", defArgs (top 78), defBody (top 78), defScope (top 78)⟩
def d90 : VD := ⟨fun K => He.fAd K ("is_free_name", none), "is_free_name", "is_free_name", defArgs (top 81), defBody (top 81), defScope (top 81)⟩
def d91 : VD := ⟨fun K => He.fAd K ("wrong_if", none), "wrong_if", "wrong_if", defArgs (top 82), defBody (top 82), defScope (top 82)⟩
def d92 : VD := ⟨fun K => He.fAd K ("placed", none), "placed", "placed", defArgs (top 83), defBody (top 83), defScope (top 83)⟩
def d93 : VD := ⟨fun K => He.fAd K ("names_placed", none), "names_placed", "names_placed", defArgs (top 84), defBody (top 84), defScope (top 84)⟩
def d94 : VD := ⟨fun K => He.fAd K ("are_free_names", none), "are_free_names", "are_free_names", defArgs (top 85), defBody (top 85), defScope (top 85)⟩
def d95 : VD := ⟨fun K => He.fAd K ("body_told", none), "body_told", "body_told", defArgs (top 86), defBody (top 86), defScope (top 86)⟩
def d96 : VD := ⟨fun K => He.fAd K ("statement_told", none), "statement_told", "statement_told", defArgs (top 87), defBody (top 87), defScope (top 87)⟩
def d97 : VD := ⟨fun K => He.fAd K ("proc_placed", none), "proc_placed", "proc_placed", defArgs (top 88), defBody (top 88), defScope (top 88)⟩
def d98 : VD := ⟨fun K => He.fAd K ("Book", some "__init__"), "__init__", "Book.__init__", defArgs (sub 89 0), defBody (sub 89 0), defScope (sub 89 0)⟩
def d99 : VD := ⟨fun K => He.fAd K ("Book", some "__eq__"), "__eq__", "Book.__eq__", defArgs (sub 89 1), defBody (sub 89 1), defScope (sub 89 1)⟩
def d100 : VD := ⟨cmA "Book" "read", "read", "Book.read", defArgs (sub 89 3), defBody (sub 89 3), defScope (sub 89 3)⟩
def d101 : VD := ⟨fun K => He.fAd K ("values_read", none), "values_read", "values_read", defArgs (top 90), defBody (top 90), defScope (top 90)⟩
def d102 : VD := ⟨fun K => He.fAd K ("_law_draw", none), "_law_draw", "_law_draw", defArgs (top 93), defBody (top 93), defScope (top 93)⟩
def d103 : VD := ⟨fun K => He.fAd K ("_law_pick", none), "_law_pick", "_law_pick", defArgs (top 94), defBody (top 94), defScope (top 94)⟩
def d104 : VD := ⟨fun K => He.fAd K ("_law_pen", none), "_law_pen", "_law_pen", defArgs (top 92), defBody (top 92), defScope (top 92)⟩
def d105 : VD := ⟨fun K => He.fAd K ("law", none), "law", "law", defArgs (top 95), defBody (top 95), defScope (top 95)⟩
def vd0 : List VD := [d0, d1, d2, d3, d4, d5, d6, d7, d8, d9, d10, d11, d12, d13, d14, d15, d16, d17, d18, d19, d20, d21, d22, d23, d24, d25, d26, d27, d28, d29]
def vd1 : List VD := [d30, d31, d32, d33, d34, d35, d36, d37, d38, d39, d40, d41, d42, d43, d44, d45, d46, d47, d48, d49, d50, d51, d52, d53, d54, d55, d56, d57, d58, d59]
def vd2 : List VD := [d60, d61, d62, d63, d64, d65, d66, d67, d68, d69, d70, d71, d72, d73, d74, d75, d76, d77, d78, d79, d80, d81, d82, d83, d84, d85, d86, d87, d88, d89]
def vd3 : List VD := [d90, d91, d92, d93, d94, d95, d96, d97, d98, d99, d100, d101, d102, d103, d104, d105]
def vd : List VD := vd0 ++ vd1 ++ vd2 ++ vd3
def clL : List Str := ["Flow", "Over", "Fault", "Open", "Things", "Runner", "Inside", "Reader", "Book"]
def tbL : List Str := ["LENGTHS"]
def ks_LENGTHS : List Str := ["call", "either", "loop"]
def tsL : List He.Tab := [(fun K => He.ga K "LENGTHS", ks_LENGTHS)]
def ex0 : List (Vw → Bool) := [ownB nC,
  frB "all",
  frB "any",
  frB "bool",
  frB "dict",
  frB "enumerate",
  frB "int",
  frB "isinstance",
  frB "len",
  frB "list",
  frB "max",
  frB "range",
  frB "repr",
  frB "str",
  frB "sum",
  frB "tuple",
  frB "zip",
  gfB "_law_draw" 102,
  gfB "_law_pick" 103,
  gfB "are_free_names" 94,
  gfB "bare_body" 53,
  gfB "bare_proc" 55,
  gfB "bare_statement" 54,
  gfB "bodies_in" 9,
  gfB "body_text" 66,
  gfB "body_told" 95,
  gfB "book_text" 68,
  gfB "choices_told" 49,
  gfB "flow_in" 14,
  gfB "flow_of" 17,
  gfB "frozen" 19,
  gfB "inner_points" 10,
  gfB "is_alike" 20,
  gfB "is_free_name" 90,
  gfB "is_index" 2,
  gfB "is_list" 1,
  gfB "is_name" 3,
  gfB "is_whole" 0,
  gfB "kinds_looked" 64,
  gfB "letter_word" 70]
def ex1 : List (Vw → Bool) := [gfB "names_in" 12,
  gfB "names_placed" 93,
  gfB "placed" 92,
  gfB "points_of" 18,
  gfB "points_within" 11,
  gfB "proc_at" 15,
  gfB "proc_looked" 62,
  gfB "proc_placed" 97,
  gfB "proc_text" 67,
  gfB "read_body" 84,
  gfB "read_book" 89,
  gfB "read_branches" 85,
  gfB "read_given" 83,
  gfB "read_names" 82,
  gfB "read_proc" 87,
  gfB "read_procs" 88,
  gfB "read_statement" 86,
  gfB "row_end" 69,
  gfB "run" 51,
  gfB "shape_of" 63,
  gfB "state_behind" 52,
  gfB "statement_text" 65,
  gfB "statement_told" 96,
  gfB "values_read" 101,
  gfB "variables_in" 13,
  gfB "variables_of" 16,
  gfB "walked" 50,
  gfB "word_from" 71,
  gfB "words_in" 72,
  gfB "words_of" 73,
  gfB "wrong_if" 91,
  gloB "LETTERS" k_LETTERS,
  gloB "LONGEST_WORD" k_LONGEST_WORD,
  gloB "MOST_NAMES" k_MOST_NAMES,
  gloB "MOST_PROCS" k_MOST_PROCS,
  gloB "MOST_STATEMENTS" k_MOST_STATEMENTS,
  gloB "MOST_STOREYS" k_MOST_STOREYS,
  gloB "OF_ONE" k_OF_ONE,
  gloB "OF_TWO" k_OF_TWO,
  gloB "ONE_SIGNS" k_ONE_SIGNS]
def ex2 : List (Vw → Bool) := [gloB "OWN_WORDS" k_OWN_WORDS,
  gloB "PASS" k_PASS,
  gloB "SIGNS" k_SIGNS,
  gcB "Book" 8,
  glB 8 8,
  gcB "Fault" 2,
  glB 2 2,
  gcB "Flow" 0,
  glB 0 0,
  gcB "Inside" 6,
  glB 6 6,
  gcB "Open" 3,
  glB 3 3,
  gcB "Over" 1,
  glB 1 1,
  gcB "Reader" 7,
  glB 7 7,
  gcB "Runner" 5,
  glB 5 5,
  gcB "Things" 4,
  glB 4 4,
  mkB 8 98,
  mkB 2 23,
  mkB 0 4,
  mkB 6 56,
  mkB 3 26,
  mkB 1 21,
  mkB 7 74,
  mkB 5 38,
  mkB 4 28,
  meB 0 "between" 7,
  meB 0 "body" 8,
  meB 0 "statement" 6,
  meB 0 "whole" 5,
  meB 2 "fields" 24,
  meB 4 "above" 30,
  meB 4 "below" 31,
  meB 4 "changed" 35,
  meB 4 "go" 32,
  meB 4 "has_only" 33]
def ex3 : List (Vw → Bool) := [meB 4 "let_go" 36,
  meB 4 "looked_at" 34,
  meB 4 "made" 29,
  meB 4 "wrong" 37,
  meB 5 "acted" 45,
  meB 5 "acted_on" 46,
  meB 5 "called" 47,
  meB 5 "done" 44,
  meB 5 "enter" 39,
  meB 5 "left" 48,
  meB 5 "put" 42,
  meB 5 "state" 40,
  meB 5 "taken" 43,
  meB 5 "ways" 41,
  meB 6 "body" 59,
  meB 6 "call" 61,
  meB 6 "params" 58,
  meB 6 "statement" 60,
  meB 6 "variable" 57,
  meB 7 "name" 81,
  meB 7 "need" 80,
  meB 7 "next_in" 76,
  meB 7 "next_is" 77,
  meB 7 "next_sort" 78,
  meB 7 "place" 75,
  meB 7 "take" 79,
  naB 0 "give",
  naB 0 "next",
  naB 0 "rows",
  naB 0 "variables",
  naB 1 "acts",
  naB 2 "acts",
  naB 2 "proc",
  naB 2 "row",
  naB 2 "what",
  naB 3 "acts",
  naB 4 "nodes",
  naB 5 "book",
  naB 5 "flows",
  naB 5 "frames"]
def ex4 : List (Vw → Bool) := [naB 5 "numbers",
  naB 5 "things",
  naB 5 "variables",
  naB 6 "known",
  naB 6 "many",
  naB 6 "procs",
  naB 7 "at",
  naB 7 "storeys",
  naB 7 "words",
  naB 8 "procs",
  naB 8 "written",
  oeB 1 22,
  oeB 2 25,
  oeB 3 27,
  oeB 8 99,
  ktB 1 kt_1,
  ktB 2 kt_2,
  ktB 3 kt_3,
  ktB 4 kt_4,
  ktB 5 kt_5,
  ktB 8 kt_8,
  ktB 9 kt_9,
  ktB 10 kt_10,
  ktB 15 kt_15,
  cmB "read" 8 8 100,
  tbB 2000 tb_LENGTHS,
  gloB "LENGTHS" (.glo 2000),
  gfB "_law_pen" 104,
  gfB "law" 105]
def exL : List (Vw → Bool) := ex0 ++ (ex1 ++ (ex2 ++ (ex3 ++ (ex4))))
def vw (K : PySem.W.Frag) : Vw := vwF clL tbL vd K
def ex (K : PySem.W.Frag) : Bool := exL.all fun f => f (vw K)
def sel0 : List Str := ["Flow", "Over", "Fault", "Open", "Things", "Runner", "Inside", "Reader", "Book", "is_whole", "is_list", "is_index", "is_name", "bodies_in", "inner_points", "points_within", "names_in", "variables_in", "flow_in", "proc_at", "variables_of", "flow_of", "points_of", "frozen", "is_alike"]
def sel1 : List Str := ["choices_told", "walked", "run", "state_behind", "bare_body", "bare_statement", "bare_proc", "proc_looked", "shape_of", "kinds_looked", "statement_text", "body_text", "proc_text", "book_text", "row_end", "letter_word", "word_from", "words_in", "words_of", "read_names", "read_given", "read_body", "read_branches", "read_statement", "read_proc"]
def sel2 : List Str := ["read_procs", "read_book", "is_free_name", "wrong_if", "placed", "names_placed", "are_free_names", "body_told", "statement_told", "proc_placed", "values_read", "_law_draw", "_law_pick", "_law_pen", "law", "LETTERS", "LONGEST_WORD", "MOST_NAMES", "MOST_PROCS", "MOST_STATEMENTS", "MOST_STOREYS", "OF_ONE", "OF_TWO", "ONE_SIGNS", "OWN_WORDS"]
def sel3 : List Str := ["PASS", "SIGNS", "LENGTHS"]
def selL : List Str := sel0 ++ sel1 ++ sel2 ++ sel3
abbrev hk : PySem.W.Hook := hookV selL ex vd tsL
def ob (s : PySem.W.SharedT) : AlV := obsVG selL ex vd tsL (HandSHeadRun.getT s)
theorem ob_eq (s : PySem.W.SharedT) : ob s = hk.obs s.abs := obsVG_eq (HandSHeadRun.getT_eq s)
abbrev R : PySem.W.OpenRow := PySem.W.OpenLaw.row PySem.Challenge.rw_lentonce_k91_whole_known_runs
def lo0 : List Str := ["LendError", "BadBook", "Misread", "BadRow", "BadNumber", "LETTERS", "SIGNS", "is_whole", "is_list", "is_index", "is_name", "PASS", "Flow", "bodies_in", "inner_points", "points_within", "names_in", "variables_in", "flow_in", "proc_at", "variables_of", "flow_of", "points_of", "frozen", "is_alike", "Over", "Fault", "Open", "Things", "Runner"]
def lo1 : List Str := ["choices_told", "walked", "run", "state_behind", "MOST_PROCS", "MOST_NAMES", "MOST_STATEMENTS", "OF_ONE", "OF_TWO", "Flaw", "bare_body", "bare_statement", "bare_proc", "Inside", "proc_looked", "shape_of", "kinds_looked", "statement_text", "body_text", "proc_text", "book_text", "OWN_WORDS", "ONE_SIGNS", "LONGEST_WORD", "row_end", "letter_word", "word_from", "words_in", "words_of", "Reader"]
def lo2 : List Str := ["MOST_STOREYS", "read_names", "read_given", "read_body", "read_branches", "read_statement", "read_proc", "read_procs", "read_book", "LENGTHS", "is_free_name", "wrong_if", "placed", "names_placed", "are_free_names", "body_told", "statement_told", "proc_placed", "Book", "values_read", "_law_pen", "_law_draw", "_law_pick"]
def lo : List Str := lo0 ++ lo1 ++ lo2
end Law
end
/-! ##### R_k91.lean -/
set_option Elab.async false
set_option linter.all false
set_option maxRecDepth 100000
set_option maxHeartbeats 0
set_option autoImplicit false
noncomputable section
namespace Law
open PySem PySem.W PySem.Calls PySem.Spec PyProof.Rows L2 LV
open HandSHeadRun
abbrev Q : Program := PySem.W.view R.prog [95]
def look1 (w : World) (s : PySem.W.SharedT) := (looksF R.prog (boot_heap w.params) s.abs, seenQ Q lo (importedModules R.prog.main.body) (fun s => xlAt Q [] s && recOk R.toRowW.records s) s.abs)
abbrev endW (w : World) (os : OsState) : Option PySem.W.SharedT := endF (stepQ (denQ tabQ) R.prog w) 20000 R.prog w os
abbrev wF (w : World) : World := w.withFollow "special-get-raises" false
abbrev wT (w : World) : World := w.withFollow "special-get-raises" true
theorem lookF (w : World) : ∀ os : OsState, (endW (wF w) os).map (look1 (wF w)) = some (true, openGood Q lo) := by
  intro os
  kernel_rfl
theorem lookT (w : World) : ∀ os : OsState, (endW (wT w) os).map (look1 (wT w)) = some (true, openGood Q lo) := by
  intro os
  kernel_rfl
theorem obsF (w : World) : ∀ os : OsState, (endW (wF w) os).map ob = some (hk.val (wF w)) := by
  intro os
  kernel_rfl
theorem obsT (w : World) : ∀ os : OsState, (endW (wT w) os).map ob = some (hk.val (wT w)) := by
  intro os
  kernel_rfl
theorem run_of {w : World} (h1 : ∀ os : OsState, (endW w os).map (look1 w) = some (true, openGood Q lo)) (h2 : ∀ os : OsState, (endW w os).map ob = some (hk.val w)) : HandSHeadRun.RunEq R Q hk ob 20000 lo w := fun os => by
  obtain ⟨s, e, e1⟩ := Option.map_eq_some_iff.mp (h1 os)
  have e2 := h2 os
  rw [e] at e2
  show (endW w os).map _ = _
  rw [e]
  have e3 : ob s = hk.val w := Option.some.inj e2
  obtain ⟨e4, e5⟩ := Prod.mk.inj (show (looksF R.prog (boot_heap w.params) s.abs, seenQ Q lo (importedModules R.prog.main.body) (fun s => xlAt Q [] s && recOk R.toRowW.records s) s.abs) = (true, openGood Q lo) from e1)
  exact congrArg some (Prod.ext e4 (Prod.ext e5 e3))
theorem run (w : World) : HandSHeadRun.RunEq R Q hk ob 20000 lo w := PySem.W.byRow2 "special-get-raises" (fun w => run_of (lookF w) (obsF w)) (fun w => run_of (lookT w) (obsT w)) w
end Law
end
/-! ##### F_k91.lean -/
set_option Elab.async false
set_option linter.all false
set_option maxRecDepth 100000
set_option maxHeartbeats 0
set_option autoImplicit false
noncomputable section
namespace Law
open PySem PySem.Spec PyProof.Rows L2 LV
open LV (bAnd bOr bNot bVal)
section
variable {K : PySem.W.Frag} {w : World} {fd : Nat → FuncData} {mg : Str → Option Value}
abbrev tbOf (K : PySem.W.Frag) (mg : Str → Option Value) (fd : Nat → FuncData) : Tb := (vw K).tb mg fd psF 106
def FdOk (K : PySem.W.Frag) (fd : Nat → FuncData) : Prop := ∀ (i : Nat) (d : VD), vd[i]? = some d → FunD K d.name d.qual d.params d.body d.scope [] [] (d.adr K) (fd i)
theorem kept0 (F : FdOk K fd) : AllN (fun i => PySem.W.keepIn K (.ref ((vw K).fa i)) = true ∧ Binds K (fd i) (psF i) []) 0 20 := .cons ⟨(F 0 d0 rfl).kp, (F 0 d0 rfl).bindsN fun _ _ _ _ _ _ us hl => match us, hl with | [_], _ => rfl⟩
  (.cons ⟨(F 1 d1 rfl).kp, (F 1 d1 rfl).bindsN fun _ _ _ _ _ _ us hl => match us, hl with | [_], _ => rfl⟩
  (.cons ⟨(F 2 d2 rfl).kp, (F 2 d2 rfl).bindsN fun _ _ _ _ _ _ us hl => match us, hl with | [_, _], _ => rfl⟩
  (.cons ⟨(F 3 d3 rfl).kp, (F 3 d3 rfl).bindsN fun _ _ _ _ _ _ us hl => match us, hl with | [_], _ => rfl⟩
  (.cons ⟨(F 4 d4 rfl).kp, (F 4 d4 rfl).bindsN fun _ _ _ _ _ _ us hl => match us, hl with | [_, _, _], _ => rfl⟩
  (.cons ⟨(F 5 d5 rfl).kp, (F 5 d5 rfl).bindsN fun _ _ _ _ _ _ us hl => match us, hl with | [_, _], _ => rfl⟩
  (.cons ⟨(F 6 d6 rfl).kp, (F 6 d6 rfl).bindsN fun _ _ _ _ _ _ us hl => match us, hl with | [_, _, _], _ => rfl⟩
  (.cons ⟨(F 7 d7 rfl).kp, (F 7 d7 rfl).bindsN fun _ _ _ _ _ _ us hl => match us, hl with | [_, _, _, _], _ => rfl⟩
  (.cons ⟨(F 8 d8 rfl).kp, (F 8 d8 rfl).bindsN fun _ _ _ _ _ _ us hl => match us, hl with | [_, _, _, _], _ => rfl⟩
  (.cons ⟨(F 9 d9 rfl).kp, (F 9 d9 rfl).bindsN fun _ _ _ _ _ _ us hl => match us, hl with | [_], _ => rfl⟩
  (.cons ⟨(F 10 d10 rfl).kp, (F 10 d10 rfl).bindsN fun _ _ _ _ _ _ us hl => match us, hl with | [_], _ => rfl⟩
  (.cons ⟨(F 11 d11 rfl).kp, (F 11 d11 rfl).bindsN fun _ _ _ _ _ _ us hl => match us, hl with | [_], _ => rfl⟩
  (.cons ⟨(F 12 d12 rfl).kp, (F 12 d12 rfl).bindsN fun _ _ _ _ _ _ us hl => match us, hl with | [_], _ => rfl⟩
  (.cons ⟨(F 13 d13 rfl).kp, (F 13 d13 rfl).bindsN fun _ _ _ _ _ _ us hl => match us, hl with | [_], _ => rfl⟩
  (.cons ⟨(F 14 d14 rfl).kp, (F 14 d14 rfl).bindsN fun _ _ _ _ _ _ us hl => match us, hl with | [_], _ => rfl⟩
  (.cons ⟨(F 15 d15 rfl).kp, (F 15 d15 rfl).bindsN fun _ _ _ _ _ _ us hl => match us, hl with | [_, _], _ => rfl⟩
  (.cons ⟨(F 16 d16 rfl).kp, (F 16 d16 rfl).bindsN fun _ _ _ _ _ _ us hl => match us, hl with | [_, _], _ => rfl⟩
  (.cons ⟨(F 17 d17 rfl).kp, (F 17 d17 rfl).bindsN fun _ _ _ _ _ _ us hl => match us, hl with | [_, _], _ => rfl⟩
  (.cons ⟨(F 18 d18 rfl).kp, (F 18 d18 rfl).bindsN fun _ _ _ _ _ _ us hl => match us, hl with | [_, _], _ => rfl⟩
  (.cons ⟨(F 19 d19 rfl).kp, (F 19 d19 rfl).bindsN fun _ _ _ _ _ _ us hl => match us, hl with | [_], _ => rfl⟩
  (.nil 20))))))))))))))))))))
theorem kept20 (F : FdOk K fd) : AllN (fun i => PySem.W.keepIn K (.ref ((vw K).fa i)) = true ∧ Binds K (fd i) (psF i) []) 20 40 := .cons ⟨(F 20 d20 rfl).kp, (F 20 d20 rfl).bindsN fun _ _ _ _ _ _ us hl => match us, hl with | [_, _], _ => rfl⟩
  (.cons ⟨(F 21 d21 rfl).kp, (F 21 d21 rfl).bindsN fun _ _ _ _ _ _ us hl => match us, hl with | [_, _], _ => rfl⟩
  (.cons ⟨(F 22 d22 rfl).kp, (F 22 d22 rfl).bindsN fun _ _ _ _ _ _ us hl => match us, hl with | [_, _], _ => rfl⟩
  (.cons ⟨(F 23 d23 rfl).kp, (F 23 d23 rfl).bindsN fun _ _ _ _ _ _ us hl => match us, hl with | [_, _, _, _, _], _ => rfl⟩
  (.cons ⟨(F 24 d24 rfl).kp, (F 24 d24 rfl).bindsN fun _ _ _ _ _ _ us hl => match us, hl with | [_], _ => rfl⟩
  (.cons ⟨(F 25 d25 rfl).kp, (F 25 d25 rfl).bindsN fun _ _ _ _ _ _ us hl => match us, hl with | [_, _], _ => rfl⟩
  (.cons ⟨(F 26 d26 rfl).kp, (F 26 d26 rfl).bindsN fun _ _ _ _ _ _ us hl => match us, hl with | [_, _], _ => rfl⟩
  (.cons ⟨(F 27 d27 rfl).kp, (F 27 d27 rfl).bindsN fun _ _ _ _ _ _ us hl => match us, hl with | [_, _], _ => rfl⟩
  (.cons ⟨(F 28 d28 rfl).kp, (F 28 d28 rfl).bindsN fun _ _ _ _ _ _ us hl => match us, hl with | [_], _ => rfl⟩
  (.cons ⟨(F 29 d29 rfl).kp, (F 29 d29 rfl).bindsN fun _ _ _ _ _ _ us hl => match us, hl with | [_, _, _], _ => rfl⟩
  (.cons ⟨(F 30 d30 rfl).kp, (F 30 d30 rfl).bindsN fun _ _ _ _ _ _ us hl => match us, hl with | [_, _], _ => rfl⟩
  (.cons ⟨(F 31 d31 rfl).kp, (F 31 d31 rfl).bindsN fun _ _ _ _ _ _ us hl => match us, hl with | [_, _], _ => rfl⟩
  (.cons ⟨(F 32 d32 rfl).kp, (F 32 d32 rfl).bindsN fun _ _ _ _ _ _ us hl => match us, hl with | [_, _], _ => rfl⟩
  (.cons ⟨(F 33 d33 rfl).kp, (F 33 d33 rfl).bindsN fun _ _ _ _ _ _ us hl => match us, hl with | [_, _, _], _ => rfl⟩
  (.cons ⟨(F 34 d34 rfl).kp, (F 34 d34 rfl).bindsN fun _ _ _ _ _ _ us hl => match us, hl with | [_, _], _ => rfl⟩
  (.cons ⟨(F 35 d35 rfl).kp, (F 35 d35 rfl).bindsN fun _ _ _ _ _ _ us hl => match us, hl with | [_, _], _ => rfl⟩
  (.cons ⟨(F 36 d36 rfl).kp, (F 36 d36 rfl).bindsN fun _ _ _ _ _ _ us hl => match us, hl with | [_, _], _ => rfl⟩
  (.cons ⟨(F 37 d37 rfl).kp, (F 37 d37 rfl).bindsN fun _ _ _ _ _ _ us hl => match us, hl with | [_, _, _], _ => rfl⟩
  (.cons ⟨(F 38 d38 rfl).kp, (F 38 d38 rfl).bindsN fun _ _ _ _ _ _ us hl => match us, hl with | [_, _], _ => rfl⟩
  (.cons ⟨(F 39 d39 rfl).kp, (F 39 d39 rfl).bindsN fun _ _ _ _ _ _ us hl => match us, hl with | [_, _, _, _], _ => rfl⟩
  (.nil 40))))))))))))))))))))
theorem kept40 (F : FdOk K fd) : AllN (fun i => PySem.W.keepIn K (.ref ((vw K).fa i)) = true ∧ Binds K (fd i) (psF i) []) 40 60 := .cons ⟨(F 40 d40 rfl).kp, (F 40 d40 rfl).bindsN fun _ _ _ _ _ _ us hl => match us, hl with | [_], _ => rfl⟩
  (.cons ⟨(F 41 d41 rfl).kp, (F 41 d41 rfl).bindsN fun _ _ _ _ _ _ us hl => match us, hl with | [_], _ => rfl⟩
  (.cons ⟨(F 42 d42 rfl).kp, (F 42 d42 rfl).bindsN fun _ _ _ _ _ _ us hl => match us, hl with | [_, _, _, _], _ => rfl⟩
  (.cons ⟨(F 43 d43 rfl).kp, (F 43 d43 rfl).bindsN fun _ _ _ _ _ _ us hl => match us, hl with | [_, _, _], _ => rfl⟩
  (.cons ⟨(F 44 d44 rfl).kp, (F 44 d44 rfl).bindsN fun _ _ _ _ _ _ us hl => match us, hl with | [_, _], _ => rfl⟩
  (.cons ⟨(F 45 d45 rfl).kp, (F 45 d45 rfl).bindsN fun _ _ _ _ _ _ us hl => match us, hl with | [_, _, _], _ => rfl⟩
  (.cons ⟨(F 46 d46 rfl).kp, (F 46 d46 rfl).bindsN fun _ _ _ _ _ _ us hl => match us, hl with | [_, _, _, _], _ => rfl⟩
  (.cons ⟨(F 47 d47 rfl).kp, (F 47 d47 rfl).bindsN fun _ _ _ _ _ _ us hl => match us, hl with | [_, _, _, _], _ => rfl⟩
  (.cons ⟨(F 48 d48 rfl).kp, (F 48 d48 rfl).bindsN fun _ _ _ _ _ _ us hl => match us, hl with | [_, _], _ => rfl⟩
  (.cons ⟨(F 49 d49 rfl).kp, (F 49 d49 rfl).bindsN fun _ _ _ _ _ _ us hl => match us, hl with | [_], _ => rfl⟩
  (.cons ⟨(F 50 d50 rfl).kp, (F 50 d50 rfl).bindsN fun _ _ _ _ _ _ us hl => match us, hl with | [_, _, _], _ => rfl⟩
  (.cons ⟨(F 51 d51 rfl).kp, (F 51 d51 rfl).bindsN fun _ _ _ _ _ _ us hl => match us, hl with | [_, _, _], _ => rfl⟩
  (.cons ⟨(F 52 d52 rfl).kp, (F 52 d52 rfl).bindsN fun _ _ _ _ _ _ us hl => match us, hl with | [_, _, _], _ => rfl⟩
  (.cons ⟨(F 53 d53 rfl).kp, (F 53 d53 rfl).bindsN fun _ _ _ _ _ _ us hl => match us, hl with | [_], _ => rfl⟩
  (.cons ⟨(F 54 d54 rfl).kp, (F 54 d54 rfl).bindsN fun _ _ _ _ _ _ us hl => match us, hl with | [_], _ => rfl⟩
  (.cons ⟨(F 55 d55 rfl).kp, (F 55 d55 rfl).bindsN fun _ _ _ _ _ _ us hl => match us, hl with | [_], _ => rfl⟩
  (.cons ⟨(F 56 d56 rfl).kp, (F 56 d56 rfl).bindsN fun _ _ _ _ _ _ us hl => match us, hl with | [_, _], _ => rfl⟩
  (.cons ⟨(F 57 d57 rfl).kp, (F 57 d57 rfl).bindsN fun _ _ _ _ _ _ us hl => match us, hl with | [_, _], _ => rfl⟩
  (.cons ⟨(F 58 d58 rfl).kp, (F 58 d58 rfl).bindsN fun _ _ _ _ _ _ us hl => match us, hl with | [_, _], _ => rfl⟩
  (.cons ⟨(F 59 d59 rfl).kp, (F 59 d59 rfl).bindsN fun _ _ _ _ _ _ us hl => match us, hl with | [_, _], _ => rfl⟩
  (.nil 60))))))))))))))))))))
theorem kept60 (F : FdOk K fd) : AllN (fun i => PySem.W.keepIn K (.ref ((vw K).fa i)) = true ∧ Binds K (fd i) (psF i) []) 60 80 := .cons ⟨(F 60 d60 rfl).kp, (F 60 d60 rfl).bindsN fun _ _ _ _ _ _ us hl => match us, hl with | [_, _], _ => rfl⟩
  (.cons ⟨(F 61 d61 rfl).kp, (F 61 d61 rfl).bindsN fun _ _ _ _ _ _ us hl => match us, hl with | [_, _], _ => rfl⟩
  (.cons ⟨(F 62 d62 rfl).kp, (F 62 d62 rfl).bindsN fun _ _ _ _ _ _ us hl => match us, hl with | [_, _], _ => rfl⟩
  (.cons ⟨(F 63 d63 rfl).kp, (F 63 d63 rfl).bindsN fun _ _ _ _ _ _ us hl => match us, hl with | [_], _ => rfl⟩
  (.cons ⟨(F 64 d64 rfl).kp, (F 64 d64 rfl).bindsN fun _ _ _ _ _ _ us hl => match us, hl with | [_, _], _ => rfl⟩
  (.cons ⟨(F 65 d65 rfl).kp, (F 65 d65 rfl).bindsN fun _ _ _ _ _ _ us hl => match us, hl with | [_], _ => rfl⟩
  (.cons ⟨(F 66 d66 rfl).kp, (F 66 d66 rfl).bindsN fun _ _ _ _ _ _ us hl => match us, hl with | [_], _ => rfl⟩
  (.cons ⟨(F 67 d67 rfl).kp, (F 67 d67 rfl).bindsN fun _ _ _ _ _ _ us hl => match us, hl with | [_], _ => rfl⟩
  (.cons ⟨(F 68 d68 rfl).kp, (F 68 d68 rfl).bindsN fun _ _ _ _ _ _ us hl => match us, hl with | [_], _ => rfl⟩
  (.cons ⟨(F 69 d69 rfl).kp, (F 69 d69 rfl).bindsN fun _ _ _ _ _ _ us hl => match us, hl with | [_, _, _], _ => rfl⟩
  (.cons ⟨(F 70 d70 rfl).kp, (F 70 d70 rfl).bindsN fun _ _ _ _ _ _ us hl => match us, hl with | [_, _], _ => rfl⟩
  (.cons ⟨(F 71 d71 rfl).kp, (F 71 d71 rfl).bindsN fun _ _ _ _ _ _ us hl => match us, hl with | [_, _], _ => rfl⟩
  (.cons ⟨(F 72 d72 rfl).kp, (F 72 d72 rfl).bindsN fun _ _ _ _ _ _ us hl => match us, hl with | [_], _ => rfl⟩
  (.cons ⟨(F 73 d73 rfl).kp, (F 73 d73 rfl).bindsN fun _ _ _ _ _ _ us hl => match us, hl with | [_], _ => rfl⟩
  (.cons ⟨(F 74 d74 rfl).kp, (F 74 d74 rfl).bindsN fun _ _ _ _ _ _ us hl => match us, hl with | [_, _], _ => rfl⟩
  (.cons ⟨(F 75 d75 rfl).kp, (F 75 d75 rfl).bindsN fun _ _ _ _ _ _ us hl => match us, hl with | [_], _ => rfl⟩
  (.cons ⟨(F 76 d76 rfl).kp, (F 76 d76 rfl).bindsN fun _ _ _ _ _ _ us hl => match us, hl with | [_, _], _ => rfl⟩
  (.cons ⟨(F 77 d77 rfl).kp, (F 77 d77 rfl).bindsN fun _ _ _ _ _ _ us hl => match us, hl with | [_, _], _ => rfl⟩
  (.cons ⟨(F 78 d78 rfl).kp, (F 78 d78 rfl).bindsN fun _ _ _ _ _ _ us hl => match us, hl with | [_], _ => rfl⟩
  (.cons ⟨(F 79 d79 rfl).kp, (F 79 d79 rfl).bindsN fun _ _ _ _ _ _ us hl => match us, hl with | [_], _ => rfl⟩
  (.nil 80))))))))))))))))))))
theorem kept80 (F : FdOk K fd) : AllN (fun i => PySem.W.keepIn K (.ref ((vw K).fa i)) = true ∧ Binds K (fd i) (psF i) []) 80 100 := .cons ⟨(F 80 d80 rfl).kp, (F 80 d80 rfl).bindsN fun _ _ _ _ _ _ us hl => match us, hl with | [_, _], _ => rfl⟩
  (.cons ⟨(F 81 d81 rfl).kp, (F 81 d81 rfl).bindsN fun _ _ _ _ _ _ us hl => match us, hl with | [_], _ => rfl⟩
  (.cons ⟨(F 82 d82 rfl).kp, (F 82 d82 rfl).bindsN fun _ _ _ _ _ _ us hl => match us, hl with | [_], _ => rfl⟩
  (.cons ⟨(F 83 d83 rfl).kp, (F 83 d83 rfl).bindsN fun _ _ _ _ _ _ us hl => match us, hl with | [_, _, _], _ => rfl⟩
  (.cons ⟨(F 84 d84 rfl).kp, (F 84 d84 rfl).bindsN fun _ _ _ _ _ _ us hl => match us, hl with | [_], _ => rfl⟩
  (.cons ⟨(F 85 d85 rfl).kp, (F 85 d85 rfl).bindsN fun _ _ _ _ _ _ us hl => match us, hl with | [_], _ => rfl⟩
  (.cons ⟨(F 86 d86 rfl).kp, (F 86 d86 rfl).bindsN fun _ _ _ _ _ _ us hl => match us, hl with | [_], _ => rfl⟩
  (.cons ⟨(F 87 d87 rfl).kp, (F 87 d87 rfl).bindsN fun _ _ _ _ _ _ us hl => match us, hl with | [_], _ => rfl⟩
  (.cons ⟨(F 88 d88 rfl).kp, (F 88 d88 rfl).bindsN fun _ _ _ _ _ _ us hl => match us, hl with | [_], _ => rfl⟩
  (.cons ⟨(F 89 d89 rfl).kp, (F 89 d89 rfl).bindsN fun _ _ _ _ _ _ us hl => match us, hl with | [_], _ => rfl⟩
  (.cons ⟨(F 90 d90 rfl).kp, (F 90 d90 rfl).bindsN fun _ _ _ _ _ _ us hl => match us, hl with | [_], _ => rfl⟩
  (.cons ⟨(F 91 d91 rfl).kp, (F 91 d91 rfl).bindsN fun _ _ _ _ _ _ us hl => match us, hl with | [_, _, _], _ => rfl⟩
  (.cons ⟨(F 92 d92 rfl).kp, (F 92 d92 rfl).bindsN fun _ _ _ _ _ _ us hl => match us, hl with | [_], _ => rfl⟩
  (.cons ⟨(F 93 d93 rfl).kp, (F 93 d93 rfl).bindsN fun _ _ _ _ _ _ us hl => match us, hl with | [_], _ => rfl⟩
  (.cons ⟨(F 94 d94 rfl).kp, (F 94 d94 rfl).bindsN fun _ _ _ _ _ _ us hl => match us, hl with | [_], _ => rfl⟩
  (.cons ⟨(F 95 d95 rfl).kp, (F 95 d95 rfl).bindsN fun _ _ _ _ _ _ us hl => match us, hl with | [_, _, _, _], _ => rfl⟩
  (.cons ⟨(F 96 d96 rfl).kp, (F 96 d96 rfl).bindsN fun _ _ _ _ _ _ us hl => match us, hl with | [_, _], _ => rfl⟩
  (.cons ⟨(F 97 d97 rfl).kp, (F 97 d97 rfl).bindsN fun _ _ _ _ _ _ us hl => match us, hl with | [_], _ => rfl⟩
  (.cons ⟨(F 98 d98 rfl).kp, (F 98 d98 rfl).bindsN fun _ _ _ _ _ _ us hl => match us, hl with | [_, _], _ => rfl⟩
  (.cons ⟨(F 99 d99 rfl).kp, (F 99 d99 rfl).bindsN fun _ _ _ _ _ _ us hl => match us, hl with | [_, _], _ => rfl⟩
  (.nil 100))))))))))))))))))))
theorem kept100 (F : FdOk K fd) : AllN (fun i => PySem.W.keepIn K (.ref ((vw K).fa i)) = true ∧ Binds K (fd i) (psF i) []) 100 106 := .cons ⟨(F 100 d100 rfl).kp, (F 100 d100 rfl).bindsN fun _ _ _ _ _ _ us hl => match us, hl with | [_, _], _ => rfl⟩
  (.cons ⟨(F 101 d101 rfl).kp, (F 101 d101 rfl).bindsN fun _ _ _ _ _ _ us hl => match us, hl with | [_], _ => rfl⟩
  (.cons ⟨(F 102 d102 rfl).kp, (F 102 d102 rfl).bindsN fun _ _ _ _ _ _ us hl => match us, hl with | [_, _], _ => rfl⟩
  (.cons ⟨(F 103 d103 rfl).kp, (F 103 d103 rfl).bindsN fun _ _ _ _ _ _ us hl => match us, hl with | [_, _], _ => rfl⟩
  (.cons ⟨(F 104 d104 rfl).kp, (F 104 d104 rfl).bindsN fun _ _ _ _ _ _ us hl => match us, hl with | [_], _ => rfl⟩
  (.cons ⟨(F 105 d105 rfl).kp, (F 105 d105 rfl).bindsN fun _ _ _ _ _ _ us hl => match us, hl with | [_], _ => rfl⟩
  (.nil 106))))))
theorem kept (F : FdOk K fd) : Kept (tbOf K mg fd) := by
  have h : ∀ i, i < 106 → PySem.W.keepIn K (.ref ((vw K).fa i)) = true ∧ Binds K (fd i) (psF i) [] := fun i hi => by
    by_cases c0 : i < 20
    · exact (kept0 F).at_ i (by omega) (by omega)
    by_cases c1 : i < 40
    · exact (kept20 F).at_ i (by omega) (by omega)
    by_cases c2 : i < 60
    · exact (kept40 F).at_ i (by omega) (by omega)
    by_cases c3 : i < 80
    · exact (kept60 F).at_ i (by omega) (by omega)
    by_cases c4 : i < 100
    · exact (kept80 F).at_ i (by omega) (by omega)
    exact (kept100 F).at_ i (by omega) (by omega)
  exact ⟨fun i hi => (h i hi).1, fun i hi => (h i hi).2⟩
theorem fx (c : SaysV ex vd tsL w K) (F : FdOk K fd) (M : MgOf (tbOf K mg fd)) : Fx (tbOf K mg fd) w := by
  have A : ∀ (i : Nat) (f : Vw → Bool), exL[i]? = some f → f (tbOf K mg fd).vw = true := fun i f e => List.all_eq_true.mp (show (exL.all fun f => f (vw K)) = true from c.facts) f (List.mem_of_getElem? e)
  exact ⟨fun i h => h, kept F, fun _ => rfl,
    (own_of (A 0 (ownB nC) rfl)),
    (fr_of M (A 1 (frB "all") rfl)),
    (fr_of M (A 2 (frB "any") rfl)),
    (fr_of M (A 3 (frB "bool") rfl)),
    (fr_of M (A 4 (frB "dict") rfl)),
    (fr_of M (A 5 (frB "enumerate") rfl)),
    (fr_of M (A 6 (frB "int") rfl)),
    (fr_of M (A 7 (frB "isinstance") rfl)),
    (fr_of M (A 8 (frB "len") rfl)),
    (fr_of M (A 9 (frB "list") rfl)),
    (fr_of M (A 10 (frB "max") rfl)),
    (fr_of M (A 11 (frB "range") rfl)),
    (fr_of M (A 12 (frB "repr") rfl)),
    (fr_of M (A 13 (frB "str") rfl)),
    (fr_of M (A 14 (frB "sum") rfl)),
    (fr_of M (A 15 (frB "tuple") rfl)),
    (fr_of M (A 16 (frB "zip") rfl)),
    (gf_of M (A 17 (gfB "_law_draw" 102) rfl)),
    (gf_of M (A 18 (gfB "_law_pick" 103) rfl)),
    (gf_of M (A 19 (gfB "are_free_names" 94) rfl)),
    (gf_of M (A 20 (gfB "bare_body" 53) rfl)),
    (gf_of M (A 21 (gfB "bare_proc" 55) rfl)),
    (gf_of M (A 22 (gfB "bare_statement" 54) rfl)),
    (gf_of M (A 23 (gfB "bodies_in" 9) rfl)),
    (gf_of M (A 24 (gfB "body_text" 66) rfl)),
    (gf_of M (A 25 (gfB "body_told" 95) rfl)),
    (gf_of M (A 26 (gfB "book_text" 68) rfl)),
    (gf_of M (A 27 (gfB "choices_told" 49) rfl)),
    (gf_of M (A 28 (gfB "flow_in" 14) rfl)),
    (gf_of M (A 29 (gfB "flow_of" 17) rfl)),
    (gf_of M (A 30 (gfB "frozen" 19) rfl)),
    (gf_of M (A 31 (gfB "inner_points" 10) rfl)),
    (gf_of M (A 32 (gfB "is_alike" 20) rfl)),
    (gf_of M (A 33 (gfB "is_free_name" 90) rfl)),
    (gf_of M (A 34 (gfB "is_index" 2) rfl)),
    (gf_of M (A 35 (gfB "is_list" 1) rfl)),
    (gf_of M (A 36 (gfB "is_name" 3) rfl)),
    (gf_of M (A 37 (gfB "is_whole" 0) rfl)),
    (gf_of M (A 38 (gfB "kinds_looked" 64) rfl)),
    (gf_of M (A 39 (gfB "letter_word" 70) rfl)),
    (gf_of M (A 40 (gfB "names_in" 12) rfl)),
    (gf_of M (A 41 (gfB "names_placed" 93) rfl)),
    (gf_of M (A 42 (gfB "placed" 92) rfl)),
    (gf_of M (A 43 (gfB "points_of" 18) rfl)),
    (gf_of M (A 44 (gfB "points_within" 11) rfl)),
    (gf_of M (A 45 (gfB "proc_at" 15) rfl)),
    (gf_of M (A 46 (gfB "proc_looked" 62) rfl)),
    (gf_of M (A 47 (gfB "proc_placed" 97) rfl)),
    (gf_of M (A 48 (gfB "proc_text" 67) rfl)),
    (gf_of M (A 49 (gfB "read_body" 84) rfl)),
    (gf_of M (A 50 (gfB "read_book" 89) rfl)),
    (gf_of M (A 51 (gfB "read_branches" 85) rfl)),
    (gf_of M (A 52 (gfB "read_given" 83) rfl)),
    (gf_of M (A 53 (gfB "read_names" 82) rfl)),
    (gf_of M (A 54 (gfB "read_proc" 87) rfl)),
    (gf_of M (A 55 (gfB "read_procs" 88) rfl)),
    (gf_of M (A 56 (gfB "read_statement" 86) rfl)),
    (gf_of M (A 57 (gfB "row_end" 69) rfl)),
    (gf_of M (A 58 (gfB "run" 51) rfl)),
    (gf_of M (A 59 (gfB "shape_of" 63) rfl)),
    (gf_of M (A 60 (gfB "state_behind" 52) rfl)),
    (gf_of M (A 61 (gfB "statement_text" 65) rfl)),
    (gf_of M (A 62 (gfB "statement_told" 96) rfl)),
    (gf_of M (A 63 (gfB "values_read" 101) rfl)),
    (gf_of M (A 64 (gfB "variables_in" 13) rfl)),
    (gf_of M (A 65 (gfB "variables_of" 16) rfl)),
    (gf_of M (A 66 (gfB "walked" 50) rfl)),
    (gf_of M (A 67 (gfB "word_from" 71) rfl)),
    (gf_of M (A 68 (gfB "words_in" 72) rfl)),
    (gf_of M (A 69 (gfB "words_of" 73) rfl)),
    (gf_of M (A 70 (gfB "wrong_if" 91) rfl)),
    (glo_of M (A 71 (gloB "LETTERS" k_LETTERS) rfl)),
    (glo_of M (A 72 (gloB "LONGEST_WORD" k_LONGEST_WORD) rfl)),
    (glo_of M (A 73 (gloB "MOST_NAMES" k_MOST_NAMES) rfl)),
    (glo_of M (A 74 (gloB "MOST_PROCS" k_MOST_PROCS) rfl)),
    (glo_of M (A 75 (gloB "MOST_STATEMENTS" k_MOST_STATEMENTS) rfl)),
    (glo_of M (A 76 (gloB "MOST_STOREYS" k_MOST_STOREYS) rfl)),
    (glo_of M (A 77 (gloB "OF_ONE" k_OF_ONE) rfl)),
    (glo_of M (A 78 (gloB "OF_TWO" k_OF_TWO) rfl)),
    (glo_of M (A 79 (gloB "ONE_SIGNS" k_ONE_SIGNS) rfl)),
    (glo_of M (A 80 (gloB "OWN_WORDS" k_OWN_WORDS) rfl)),
    (glo_of M (A 81 (gloB "PASS" k_PASS) rfl)),
    (glo_of M (A 82 (gloB "SIGNS" k_SIGNS) rfl)),
    (gc_of M (A 83 (gcB "Book" 8) rfl)),
    (gl_of (A 84 (glB 8 8) rfl)),
    (gc_of M (A 85 (gcB "Fault" 2) rfl)),
    (gl_of (A 86 (glB 2 2) rfl)),
    (gc_of M (A 87 (gcB "Flow" 0) rfl)),
    (gl_of (A 88 (glB 0 0) rfl)),
    (gc_of M (A 89 (gcB "Inside" 6) rfl)),
    (gl_of (A 90 (glB 6 6) rfl)),
    (gc_of M (A 91 (gcB "Open" 3) rfl)),
    (gl_of (A 92 (glB 3 3) rfl)),
    (gc_of M (A 93 (gcB "Over" 1) rfl)),
    (gl_of (A 94 (glB 1 1) rfl)),
    (gc_of M (A 95 (gcB "Reader" 7) rfl)),
    (gl_of (A 96 (glB 7 7) rfl)),
    (gc_of M (A 97 (gcB "Runner" 5) rfl)),
    (gl_of (A 98 (glB 5 5) rfl)),
    (gc_of M (A 99 (gcB "Things" 4) rfl)),
    (gl_of (A 100 (glB 4 4) rfl)),
    (mk_of (A 101 (mkB 8 98) rfl)),
    (mk_of (A 102 (mkB 2 23) rfl)),
    (mk_of (A 103 (mkB 0 4) rfl)),
    (mk_of (A 104 (mkB 6 56) rfl)),
    (mk_of (A 105 (mkB 3 26) rfl)),
    (mk_of (A 106 (mkB 1 21) rfl)),
    (mk_of (A 107 (mkB 7 74) rfl)),
    (mk_of (A 108 (mkB 5 38) rfl)),
    (mk_of (A 109 (mkB 4 28) rfl)),
    (me_of (A 110 (meB 0 "between" 7) rfl)),
    (me_of (A 111 (meB 0 "body" 8) rfl)),
    (me_of (A 112 (meB 0 "statement" 6) rfl)),
    (me_of (A 113 (meB 0 "whole" 5) rfl)),
    (me_of (A 114 (meB 2 "fields" 24) rfl)),
    (me_of (A 115 (meB 4 "above" 30) rfl)),
    (me_of (A 116 (meB 4 "below" 31) rfl)),
    (me_of (A 117 (meB 4 "changed" 35) rfl)),
    (me_of (A 118 (meB 4 "go" 32) rfl)),
    (me_of (A 119 (meB 4 "has_only" 33) rfl)),
    (me_of (A 120 (meB 4 "let_go" 36) rfl)),
    (me_of (A 121 (meB 4 "looked_at" 34) rfl)),
    (me_of (A 122 (meB 4 "made" 29) rfl)),
    (me_of (A 123 (meB 4 "wrong" 37) rfl)),
    (me_of (A 124 (meB 5 "acted" 45) rfl)),
    (me_of (A 125 (meB 5 "acted_on" 46) rfl)),
    (me_of (A 126 (meB 5 "called" 47) rfl)),
    (me_of (A 127 (meB 5 "done" 44) rfl)),
    (me_of (A 128 (meB 5 "enter" 39) rfl)),
    (me_of (A 129 (meB 5 "left" 48) rfl)),
    (me_of (A 130 (meB 5 "put" 42) rfl)),
    (me_of (A 131 (meB 5 "state" 40) rfl)),
    (me_of (A 132 (meB 5 "taken" 43) rfl)),
    (me_of (A 133 (meB 5 "ways" 41) rfl)),
    (me_of (A 134 (meB 6 "body" 59) rfl)),
    (me_of (A 135 (meB 6 "call" 61) rfl)),
    (me_of (A 136 (meB 6 "params" 58) rfl)),
    (me_of (A 137 (meB 6 "statement" 60) rfl)),
    (me_of (A 138 (meB 6 "variable" 57) rfl)),
    (me_of (A 139 (meB 7 "name" 81) rfl)),
    (me_of (A 140 (meB 7 "need" 80) rfl)),
    (me_of (A 141 (meB 7 "next_in" 76) rfl)),
    (me_of (A 142 (meB 7 "next_is" 77) rfl)),
    (me_of (A 143 (meB 7 "next_sort" 78) rfl)),
    (me_of (A 144 (meB 7 "place" 75) rfl)),
    (me_of (A 145 (meB 7 "take" 79) rfl)),
    (na_of (A 146 (naB 0 "give") rfl)),
    (na_of (A 147 (naB 0 "next") rfl)),
    (na_of (A 148 (naB 0 "rows") rfl)),
    (na_of (A 149 (naB 0 "variables") rfl)),
    (na_of (A 150 (naB 1 "acts") rfl)),
    (na_of (A 151 (naB 2 "acts") rfl)),
    (na_of (A 152 (naB 2 "proc") rfl)),
    (na_of (A 153 (naB 2 "row") rfl)),
    (na_of (A 154 (naB 2 "what") rfl)),
    (na_of (A 155 (naB 3 "acts") rfl)),
    (na_of (A 156 (naB 4 "nodes") rfl)),
    (na_of (A 157 (naB 5 "book") rfl)),
    (na_of (A 158 (naB 5 "flows") rfl)),
    (na_of (A 159 (naB 5 "frames") rfl)),
    (na_of (A 160 (naB 5 "numbers") rfl)),
    (na_of (A 161 (naB 5 "things") rfl)),
    (na_of (A 162 (naB 5 "variables") rfl)),
    (na_of (A 163 (naB 6 "known") rfl)),
    (na_of (A 164 (naB 6 "many") rfl)),
    (na_of (A 165 (naB 6 "procs") rfl)),
    (na_of (A 166 (naB 7 "at") rfl)),
    (na_of (A 167 (naB 7 "storeys") rfl)),
    (na_of (A 168 (naB 7 "words") rfl)),
    (na_of (A 169 (naB 8 "procs") rfl)),
    (na_of (A 170 (naB 8 "written") rfl)),
    (oe_of (A 171 (oeB 1 22) rfl) (show 22 < 106 by decide)),
    (oe_of (A 172 (oeB 2 25) rfl) (show 25 < 106 by decide)),
    (oe_of (A 173 (oeB 3 27) rfl) (show 27 < 106 by decide)),
    (oe_of (A 174 (oeB 8 99) rfl) (show 99 < 106 by decide)),
    (kt_of (A 175 (ktB 1 kt_1) rfl)),
    (kt_of (A 176 (ktB 2 kt_2) rfl)),
    (kt_of (A 177 (ktB 3 kt_3) rfl)),
    (kt_of (A 178 (ktB 4 kt_4) rfl)),
    (kt_of (A 179 (ktB 5 kt_5) rfl)),
    (kt_of (A 180 (ktB 8 kt_8) rfl)),
    (kt_of (A 181 (ktB 9 kt_9) rfl)),
    (kt_of (A 182 (ktB 10 kt_10) rfl)),
    (kt_of (A 183 (ktB 15 kt_15) rfl)),
    (cm_of (A 184 (cmB "read" 8 8 100) rfl) (show 100 < 106 by decide)),
    (tb_of (A 185 (tbB 2000 tb_LENGTHS) rfl) (c.tab 0 (t := (fun K => He.ga K "LENGTHS", ks_LENGTHS)) rfl)),
    (glo_of M (A 186 (gloB "LENGTHS" (.glo 2000)) rfl)),
    (ml_of (A 101 (mkB 8 98) rfl) (A 84 (glB 8 8) rfl) (show 98 < 106 by decide))⟩
theorem hd_law_pen (c : SaysV ex vd tsL w K) (M : MgOf (tbOf K mg fd)) : mg "_law_pen" = some (.ref ((vw K).fa 104)) := gf_of M (show gfB "_law_pen" 104 (tbOf K mg fd).vw = true from List.all_eq_true.mp (show (exL.all fun f => f (vw K)) = true from c.facts) (gfB "_law_pen" 104) (List.mem_of_getElem? (i := 187) rfl))
theorem hd_law (c : SaysV ex vd tsL w K) (M : MgOf (tbOf K mg fd)) : mg "law" = some (.ref ((vw K).fa 105)) := gf_of M (show gfB "law" 105 (tbOf K mg fd).vw = true from List.all_eq_true.mp (show (exL.all fun f => f (vw K)) = true from c.facts) (gfB "law" 105) (List.mem_of_getElem? (i := 188) rfl))
theorem all (F : FdOk K fd) (W : Fx (tbOf K mg fd) w) : tree.All (tbOf K mg fd) w := ⟨⟨⟨⟨⟨⟨(ent_of W.kept (F 0 d0 rfl) S0 rfl rfl (fun C k X hw hx c => w0 W C k X hw hx c)),
 ⟨(ent_of W.kept (F 1 d1 rfl) S1 rfl rfl (fun C k X hw hx c => w1 W C k X hw hx c)),
 (ent_of W.kept (F 2 d2 rfl) S2 rfl rfl (fun C k X hw hx c => w2 W C k X hw hx c))⟩⟩,
 ⟨(ent_of W.kept (F 3 d3 rfl) S3 rfl rfl (fun C k X hw hx c => w3 W C k X hw hx c)),
 ⟨(ent_of W.kept (F 4 d4 rfl) S4 rfl rfl (fun C k X hw hx c => w4 W C k X hw hx c)),
 (ent_of W.kept (F 5 d5 rfl) S5 rfl rfl (fun C k X hw hx c => w5 W C k X hw hx c))⟩⟩⟩,
 ⟨⟨(ent_of W.kept (F 6 d6 rfl) S6 rfl rfl (fun C k X hw hx c => w6 W C k X hw hx c)),
 ⟨(ent_of W.kept (F 7 d7 rfl) S7 rfl rfl (fun C k X hw hx c => w7 W C k X hw hx c)),
 (ent_of W.kept (F 8 d8 rfl) S8 rfl rfl (fun C k X hw hx c => w8 W C k X hw hx c))⟩⟩,
 ⟨⟨(ent_of W.kept (F 9 d9 rfl) S9 rfl rfl (fun C k X hw hx c => w9 W C k X hw hx c)),
 (ent_of W.kept (F 10 d10 rfl) S10 rfl rfl (fun C k X hw hx c => w10 W C k X hw hx c))⟩,
 ⟨(ent_of W.kept (F 11 d11 rfl) S11 rfl rfl (fun C k X hw hx c => w11 W C k X hw hx c)),
 (ent_of W.kept (F 12 d12 rfl) S12 rfl rfl (fun C k X hw hx c => w12 W C k X hw hx c))⟩⟩⟩⟩,
 ⟨⟨⟨(ent_of W.kept (F 13 d13 rfl) S13 rfl rfl (fun C k X hw hx c => w13 W C k X hw hx c)),
 ⟨(ent_of W.kept (F 14 d14 rfl) S14 rfl rfl (fun C k X hw hx c => w14 W C k X hw hx c)),
 (ent_of W.kept (F 15 d15 rfl) S15 rfl rfl (fun C k X hw hx c => w15 W C k X hw hx c))⟩⟩,
 ⟨(ent_of W.kept (F 16 d16 rfl) S16 rfl rfl (fun C k X hw hx c => w16 W C k X hw hx c)),
 ⟨(ent_of W.kept (F 17 d17 rfl) S17 rfl rfl (fun C k X hw hx c => w17 W C k X hw hx c)),
 (ent_of W.kept (F 18 d18 rfl) S18 rfl rfl (fun C k X hw hx c => w18 W C k X hw hx c))⟩⟩⟩,
 ⟨⟨(ent_of W.kept (F 19 d19 rfl) S19 rfl rfl (fun C k X hw hx c => w19 W C k X hw hx c)),
 ⟨(ent_of W.kept (F 20 d20 rfl) S20 rfl rfl (fun C k X hw hx c => w20 W C k X hw hx c)),
 (ent_of W.kept (F 21 d21 rfl) S21 rfl rfl (fun C k X hw hx c => w21 W C k X hw hx c))⟩⟩,
 ⟨⟨(ent_of W.kept (F 22 d22 rfl) S22 rfl rfl (fun C k X hw hx c => w22 W C k X hw hx c)),
 (ent_of W.kept (F 23 d23 rfl) S23 rfl rfl (fun C k X hw hx c => w23 W C k X hw hx c))⟩,
 ⟨(ent_of W.kept (F 24 d24 rfl) S24 rfl rfl (fun C k X hw hx c => w24 W C k X hw hx c)),
 (ent_of W.kept (F 25 d25 rfl) S25 rfl rfl (fun C k X hw hx c => w25 W C k X hw hx c))⟩⟩⟩⟩⟩,
 ⟨⟨⟨⟨(ent_of W.kept (F 26 d26 rfl) S26 rfl rfl (fun C k X hw hx c => w26 W C k X hw hx c)),
 ⟨(ent_of W.kept (F 27 d27 rfl) S27 rfl rfl (fun C k X hw hx c => w27 W C k X hw hx c)),
 (ent_of W.kept (F 28 d28 rfl) S28 rfl rfl (fun C k X hw hx c => w28 W C k X hw hx c))⟩⟩,
 ⟨(ent_of W.kept (F 29 d29 rfl) S29 rfl rfl (fun C k X hw hx c => w29 W C k X hw hx c)),
 ⟨(ent_of W.kept (F 30 d30 rfl) S30 rfl rfl (fun C k X hw hx c => w30 W C k X hw hx c)),
 (ent_of W.kept (F 31 d31 rfl) S31 rfl rfl (fun C k X hw hx c => w31 W C k X hw hx c))⟩⟩⟩,
 ⟨⟨(ent_of W.kept (F 32 d32 rfl) S32 rfl rfl (fun C k X hw hx c => w32 W C k X hw hx c)),
 ⟨(ent_of W.kept (F 33 d33 rfl) S33 rfl rfl (fun C k X hw hx c => w33 W C k X hw hx c)),
 (ent_of W.kept (F 34 d34 rfl) S34 rfl rfl (fun C k X hw hx c => w34 W C k X hw hx c))⟩⟩,
 ⟨⟨(ent_of W.kept (F 35 d35 rfl) S35 rfl rfl (fun C k X hw hx c => w35 W C k X hw hx c)),
 (ent_of W.kept (F 36 d36 rfl) S36 rfl rfl (fun C k X hw hx c => w36 W C k X hw hx c))⟩,
 ⟨(ent_of W.kept (F 37 d37 rfl) S37 rfl rfl (fun C k X hw hx c => w37 W C k X hw hx c)),
 (ent_of W.kept (F 38 d38 rfl) S38 rfl rfl (fun C k X hw hx c => w38 W C k X hw hx c))⟩⟩⟩⟩,
 ⟨⟨⟨(ent_of W.kept (F 39 d39 rfl) S39 rfl rfl (fun C k X hw hx c => w39 W C k X hw hx c)),
 ⟨(ent_of W.kept (F 40 d40 rfl) S40 rfl rfl (fun C k X hw hx c => w40 W C k X hw hx c)),
 (ent_of W.kept (F 41 d41 rfl) S41 rfl rfl (fun C k X hw hx c => w41 W C k X hw hx c))⟩⟩,
 ⟨(ent_of W.kept (F 42 d42 rfl) S42 rfl rfl (fun C k X hw hx c => w42 W C k X hw hx c)),
 ⟨(ent_of W.kept (F 43 d43 rfl) S43 rfl rfl (fun C k X hw hx c => w43 W C k X hw hx c)),
 (ent_of W.kept (F 44 d44 rfl) S44 rfl rfl (fun C k X hw hx c => w44 W C k X hw hx c))⟩⟩⟩,
 ⟨⟨(ent_of W.kept (F 45 d45 rfl) S45 rfl rfl (fun C k X hw hx c => w45 W C k X hw hx c)),
 ⟨(ent_of W.kept (F 46 d46 rfl) S46 rfl rfl (fun C k X hw hx c => w46 W C k X hw hx c)),
 (ent_of W.kept (F 47 d47 rfl) S47 rfl rfl (fun C k X hw hx c => w47 W C k X hw hx c))⟩⟩,
 ⟨⟨(ent_of W.kept (F 48 d48 rfl) S48 rfl rfl (fun C k X hw hx c => w48 W C k X hw hx c)),
 (ent_of W.kept (F 49 d49 rfl) S49 rfl rfl (fun C k X hw hx c => w49 W C k X hw hx c))⟩,
 ⟨(ent_of W.kept (F 50 d50 rfl) S50 rfl rfl (fun C k X hw hx c => w50 W C k X hw hx c)),
 (ent_of W.kept (F 51 d51 rfl) S51 rfl rfl (fun C k X hw hx c => w51 W C k X hw hx c))⟩⟩⟩⟩⟩⟩,
 ⟨⟨⟨⟨⟨(ent_of W.kept (F 52 d52 rfl) S52 rfl rfl (fun C k X hw hx c => w52 W C k X hw hx c)),
 ⟨(ent_of W.kept (F 53 d53 rfl) S53 rfl rfl (fun C k X hw hx c => w53 W C k X hw hx c)),
 (ent_of W.kept (F 54 d54 rfl) S54 rfl rfl (fun C k X hw hx c => w54 W C k X hw hx c))⟩⟩,
 ⟨(ent_of W.kept (F 55 d55 rfl) S55 rfl rfl (fun C k X hw hx c => w55 W C k X hw hx c)),
 ⟨(ent_of W.kept (F 56 d56 rfl) S56 rfl rfl (fun C k X hw hx c => w56 W C k X hw hx c)),
 (ent_of W.kept (F 57 d57 rfl) S57 rfl rfl (fun C k X hw hx c => w57 W C k X hw hx c))⟩⟩⟩,
 ⟨⟨(ent_of W.kept (F 58 d58 rfl) S58 rfl rfl (fun C k X hw hx c => w58 W C k X hw hx c)),
 ⟨(ent_of W.kept (F 59 d59 rfl) S59 rfl rfl (fun C k X hw hx c => w59 W C k X hw hx c)),
 (ent_of W.kept (F 60 d60 rfl) S60 rfl rfl (fun C k X hw hx c => w60 W C k X hw hx c))⟩⟩,
 ⟨⟨(ent_of W.kept (F 61 d61 rfl) S61 rfl rfl (fun C k X hw hx c => w61 W C k X hw hx c)),
 (ent_of W.kept (F 62 d62 rfl) S62 rfl rfl (fun C k X hw hx c => w62 W C k X hw hx c))⟩,
 ⟨(ent_of W.kept (F 63 d63 rfl) S63 rfl rfl (fun C k X hw hx c => w63 W C k X hw hx c)),
 (ent_of W.kept (F 64 d64 rfl) S64 rfl rfl (fun C k X hw hx c => w64 W C k X hw hx c))⟩⟩⟩⟩,
 ⟨⟨⟨(ent_of W.kept (F 65 d65 rfl) S65 rfl rfl (fun C k X hw hx c => w65 W C k X hw hx c)),
 ⟨(ent_of W.kept (F 66 d66 rfl) S66 rfl rfl (fun C k X hw hx c => w66 W C k X hw hx c)),
 (ent_of W.kept (F 67 d67 rfl) S67 rfl rfl (fun C k X hw hx c => w67 W C k X hw hx c))⟩⟩,
 ⟨(ent_of W.kept (F 68 d68 rfl) S68 rfl rfl (fun C k X hw hx c => w68 W C k X hw hx c)),
 ⟨(ent_of W.kept (F 69 d69 rfl) S69 rfl rfl (fun C k X hw hx c => w69 W C k X hw hx c)),
 (ent_of W.kept (F 70 d70 rfl) S70 rfl rfl (fun C k X hw hx c => w70 W C k X hw hx c))⟩⟩⟩,
 ⟨⟨(ent_of W.kept (F 71 d71 rfl) S71 rfl rfl (fun C k X hw hx c => w71 W C k X hw hx c)),
 ⟨(ent_of W.kept (F 72 d72 rfl) S72 rfl rfl (fun C k X hw hx c => w72 W C k X hw hx c)),
 (ent_of W.kept (F 73 d73 rfl) S73 rfl rfl (fun C k X hw hx c => w73 W C k X hw hx c))⟩⟩,
 ⟨⟨(ent_of W.kept (F 74 d74 rfl) S74 rfl rfl (fun C k X hw hx c => w74 W C k X hw hx c)),
 (ent_of W.kept (F 75 d75 rfl) S75 rfl rfl (fun C k X hw hx c => w75 W C k X hw hx c))⟩,
 ⟨(ent_of W.kept (F 76 d76 rfl) S76 rfl rfl (fun C k X hw hx c => w76 W C k X hw hx c)),
 (ent_of W.kept (F 77 d77 rfl) S77 rfl rfl (fun C k X hw hx c => w77 W C k X hw hx c))⟩⟩⟩⟩⟩,
 ⟨⟨⟨⟨(ent_of W.kept (F 78 d78 rfl) S78 rfl rfl (fun C k X hw hx c => w78 W C k X hw hx c)),
 ⟨(ent_of W.kept (F 79 d79 rfl) S79 rfl rfl (fun C k X hw hx c => w79 W C k X hw hx c)),
 (ent_of W.kept (F 80 d80 rfl) S80 rfl rfl (fun C k X hw hx c => w80 W C k X hw hx c))⟩⟩,
 ⟨(ent_of W.kept (F 81 d81 rfl) S81 rfl rfl (fun C k X hw hx c => w81 W C k X hw hx c)),
 ⟨(ent_of W.kept (F 82 d82 rfl) S82 rfl rfl (fun C k X hw hx c => w82 W C k X hw hx c)),
 (ent_of W.kept (F 83 d83 rfl) S83 rfl rfl (fun C k X hw hx c => w83 W C k X hw hx c))⟩⟩⟩,
 ⟨⟨(ent_of W.kept (F 84 d84 rfl) S84 rfl rfl (fun C k X hw hx c => w84 W C k X hw hx c)),
 ⟨(ent_of W.kept (F 85 d85 rfl) S85 rfl rfl (fun C k X hw hx c => w85 W C k X hw hx c)),
 (ent_of W.kept (F 86 d86 rfl) S86 rfl rfl (fun C k X hw hx c => w86 W C k X hw hx c))⟩⟩,
 ⟨⟨(ent_of W.kept (F 87 d87 rfl) S87 rfl rfl (fun C k X hw hx c => w87 W C k X hw hx c)),
 (ent_of W.kept (F 88 d88 rfl) S88 rfl rfl (fun C k X hw hx c => w88 W C k X hw hx c))⟩,
 ⟨(ent_of W.kept (F 89 d89 rfl) S89 rfl rfl (fun C k X hw hx c => w89 W C k X hw hx c)),
 (ent_of W.kept (F 90 d90 rfl) S90 rfl rfl (fun C k X hw hx c => w90 W C k X hw hx c))⟩⟩⟩⟩,
 ⟨⟨⟨(ent_of W.kept (F 91 d91 rfl) S91 rfl rfl (fun C k X hw hx c => w91 W C k X hw hx c)),
 ⟨(ent_of W.kept (F 92 d92 rfl) S92 rfl rfl (fun C k X hw hx c => w92 W C k X hw hx c)),
 (ent_of W.kept (F 93 d93 rfl) S93 rfl rfl (fun C k X hw hx c => w93 W C k X hw hx c))⟩⟩,
 ⟨(ent_of W.kept (F 94 d94 rfl) S94 rfl rfl (fun C k X hw hx c => w94 W C k X hw hx c)),
 ⟨(ent_of W.kept (F 95 d95 rfl) S95 rfl rfl (fun C k X hw hx c => w95 W C k X hw hx c)),
 (ent_of W.kept (F 96 d96 rfl) S96 rfl rfl (fun C k X hw hx c => w96 W C k X hw hx c))⟩⟩⟩,
 ⟨⟨(ent_of W.kept (F 97 d97 rfl) S97 rfl rfl (fun C k X hw hx c => w97 W C k X hw hx c)),
 ⟨(ent_of W.kept (F 98 d98 rfl) S98 rfl rfl (fun C k X hw hx c => w98 W C k X hw hx c)),
 (ent_of W.kept (F 99 d99 rfl) S99 rfl rfl (fun C k X hw hx c => w99 W C k X hw hx c))⟩⟩,
 ⟨⟨(ent_of W.kept (F 100 d100 rfl) S100 rfl rfl (fun C k X hw hx c => w100 W C k X hw hx c)),
 (ent_of W.kept (F 101 d101 rfl) S101 rfl rfl (fun C k X hw hx c => w101 W C k X hw hx c))⟩,
 ⟨(ent_of W.kept (F 102 d102 rfl) S102 rfl rfl (fun C k X hw hx c => w102 W C k X hw hx c)),
 (ent_of W.kept (F 103 d103 rfl) S103 rfl rfl (fun C k X hw hx c => w103 W C k X hw hx c))⟩⟩⟩⟩⟩⟩⟩
end
end Law
end
/-! ##### Pn.src.lean -/
set_option Elab.async false
set_option linter.all false
set_option maxRecDepth 100000
set_option maxHeartbeats 2000000
set_option autoImplicit false
noncomputable section
namespace Law
open PySem PySem.Spec PyProof.Rows L2 LV
open LV (bAnd bOr bNot bVal)
/-! ## the pen -/
def penN : List Str := ["script", "fold", "cell"]
theorem scPen : FnScope penN ["script"] (defScope (top 92)) := ⟨rfl, rfl, rfl, by decide +kernel, rfl, by decide +kernel, by decide +kernel⟩
abbrev rInt1 : List V → Hp → VK → Prop := fun xs H Q => (∃ i, xs = [.int i] ∧ Q (.int i) H) ∨ ∃ k, xs = [.bl k] ∧ Q (.int (if k then 1 else 0)) H
abbrev rLst1 (K : PySem.W.Frag) : List V → Hp → VK → Prop := fun xs H Q => ∃ p ys, xs = [.ref p] ∧ (SqL K H p ys ∨ SqT K H p ys) ∧ ∀ l, H l = none → Q (.ref l) (upd H l (.lst ys))
def tPenB : TS := tAsg (tOp (rI (fun _ j => 0 < j) fun i j => .int (i % j)) (tCB rInt1 (tCons (tOp (rI0 fun i j => .int (i + j)) (tOp (rI CMul fun i j => .int (i * j)) (tVar 1) (tC (.int 59))) (tVar 2)) tNil)) (tC (.int 1000000009))) (gName 1)
def tPenD (K : PySem.W.Frag) : TE := tDisp [(tC (.str "cells"), tCB (rLst1 K) (tCons (tVar 0) tNil)), (tC (.str "at"), tC (.int 0)), (tC (.str "digits"), tC (.int 0)), (tC (.str "count"), tC (.int 0)), (tC (.str "fold"), tVar 1)]
def tPen (K : PySem.W.Frag) : TS := tSeq (tAsg (tC (.int 0)) (gName 1)) (tSeq (tFor (iList K (tVar 0)) (gName 2) tPenB) (tRet (tPenD K)))
theorem wPen {T : Tb} {C : CF} {k : Nat} {X : Cx} (hi : T.mg "int" = none) (hl : T.mg "list" = none) (c : XC T C penN (defScope (top 92)) true k X) : PSs X (defBody (top 92)) (tPen X.K) := by
  have v : ∀ (i : Nat) (x : Str) (pos : Pos), penN[i]? = some x → (defScope (top 92)).names.lookup x = some .local → (x == ("__debug__" : Str)) = false → (x == ("__classdict__" : Str)) = false → PE X (.Name x pos) (tVar i) := fun i x pos h1 h2 h3 h4 => pe_var (c.hn h1) (.inl (c.lk h2)) h3 h4
  refine pss_cons (ps_set (i := 1) c.nN (c.hn rfl) (.inl (c.lk rfl)) pe_int (hf := .inr (c.lk rfl))) (pss_cons (ps_for c.own c.cal (pi_list (v 0 _ _ rfl rfl (by decide) (by decide))) (pg_name (i := 2) c.nN (c.hn rfl) (.inl (c.lk rfl)) (.inr (c.lk rfl))) (pss_one (ps_set (i := 1) c.nN (c.hn rfl) (.inl (c.lk rfl)) (pe_op op_mod ?b pe_int) (hf := .inr (c.lk rfl))))) (pss_one (ps_ret ?d)))
  case b => exact pe_callTy call_int1 (c.gl rfl) (by rw [c.mg]; exact hi) rfl (pa_cons (pe_op op_add (pe_op op_mul (v 1 _ _ rfl rfl (by decide) (by decide)) pe_int) (v 2 _ _ rfl rfl (by decide) (by decide))) pa_nil)
  case d => exact pe_disp (pps_cons pe_str (pe_callTy call_list_of (c.gl rfl) (by rw [c.mg]; exact hl) rfl (pa_cons (v 0 _ _ rfl rfl (by decide) (by decide)) pa_nil)) (pps_cons pe_str pe_int (pps_cons pe_str pe_int (pps_cons pe_str pe_int (pps_cons pe_str (v 1 _ _ rfl rfl (by decide) (by decide)) pps_nil))))) rfl rfl (by decide) (by decide)
theorem SqL.upd_new {K : PySem.W.Frag} {H : Hp} {p a : Addr} {o : HO} {xs : List V} (hp : H p = none) (q : SqL K H a xs) : SqL K (upd H p o) a xs := by
  rcases q with (q | ⟨ob, q⟩) | q
  · exact .inl (.inl (by rw [upd_ne (ne_of_none q hp)]; exact q))
  · exact .inl (.inr ⟨ob, by rw [upd_ne (ne_of_none q hp)]; exact q⟩)
  · exact .inr q
def penK (q : Addr) (f : Int) : List (Key × V) := [(.inr "cells", .ref q), (.inr "at", .int 0), (.inr "digits", .int 0), (.inr "count", .int 0), (.inr "fold", .int f)]
theorem pure_pen {K : PySem.W.Frag} {a : Addr} {ns : List Int} {H : Hp} {D : Ends} (hS : SqL K H a (ns.map V.int)) (hQ : ∀ (p q : Addr) (f : Int) (H' : Hp), 0 ≤ f → f < 1000000009 → p ≠ q → H' p = some (.dK (penK q f)) → H' q = some (.lst (ns.map V.int)) → D.rt (.ref p) H') :
    tPen K D [some (.ref a), none, none] H := by
  refine ⟨_, rfl, a, rfl, ⟨_, hS⟩, fun i m σ H' => H' = H ∧ m + i = ns.length ∧ ∃ (f : Int) (x2 : Option V), σ = [some (.ref a), some (.int f), x2] ∧ 0 ≤ f ∧ f < 1000000009, ⟨ns.length, rfl, rfl, 0, none, rfl, by decide, by decide⟩, ?_⟩
  rintro i m σ H' ⟨rfl, hm, f, x2, rfl, h0, h1⟩
  by_cases hi : i < ns.length
  · refine .inr ⟨⟨_, .int ns[i], hS, by simp [hi]⟩, fun σ' H'' => ∃ m', m' < m ∧ H'' = H' ∧ m' + (i + 1) = ns.length ∧ ∃ (f : Int) (x2 : Option V), σ' = [some (.ref a), some (.int f), x2] ∧ 0 ≤ f ∧ f < 1000000009, fun _ _ n => n, ?_⟩
    rintro x H'' ⟨rfl, hx⟩
    have e := hx _ hS
    rw [List.getElem?_map, List.getElem?_eq_getElem hi] at e
    cases e
    exact ⟨_, rfl, f, 59, rfl, rfl, .inl ⟨by omega, by omega⟩, _, rfl, f * 59, ns[i], rfl, rfl, .inl ⟨_, rfl, _, 1000000009, rfl, rfl, (show (0 : Int) < 1000000009 by decide), m - 1, by omega, rfl, by omega, _, _, rfl, Int.emod_nonneg _ (by decide), Int.emod_lt_of_pos _ (by decide)⟩⟩
  · refine .inl ⟨⟨_, hS, by simp; omega⟩, fun p hp => ⟨.ref a, rfl, a, _, rfl, .inl (SqL.upd_new hp hS), fun q hq => ?_⟩⟩
    have hpq : p ≠ q := fun e => by rw [← e, upd_same] at hq; cases hq
    refine ⟨.int f, rfl, ?_, penK q f, rfl, (show 5 ≤ 15 by decide), hQ p q f _ h0 h1 hpq ?_ ?_⟩
    · rw [upd_ne hpq, upd_same]
    · rw [upd_same]; rfl
    · rw [upd_ne hpq.symm, upd_same]
end Law
end

/-! ##### Dl.lean -/
set_option Elab.async false
set_option linter.all false
set_option maxRecDepth 100000
set_option maxHeartbeats 2000000
set_option autoImplicit false
noncomputable section
namespace Law
open PySem PySem.Spec PyProof.Rows L2 LV
open LV (bAnd bOr bNot bVal)
def dr0 (C : CF) : DS := (sSub (eOp fAdd (eOp fIx (eVar 0) (eC (.str n103))) (eC (.int (Int.ofNat 1)))) (eVar 0) (eC (.str n103)))
def dr1 (C : CF) : DS := (sIf (bAnd (bVal (eOp (fEqA C wEl) (eOp fIx (eVar 0) (eC (.str n104))) (eC (.int (Int.ofNat 0))))) (bVal (eOp fLt (eOp fIx (eVar 0) (eC (.str n88))) (eCB fLen (aCons (eOp fIx (eVar 0) (eC (.str n105))) aNil))))) (sSeq (sAsg (eOp fIx (eOp fIx (eVar 0) (eC (.str n105))) (eOp fIx (eVar 0) (eC (.str n88)))) (gNm 2))
  (sSeq (sSub (eOp fAdd (eOp fIx (eVar 0) (eC (.str n88))) (eC (.int (Int.ofNat 1)))) (eVar 0) (eC (.str n88)))
  (sIf (bVal (eOp fGe (eVar 2) (eOp fPow (eC (.int (Int.ofNat 10))) (eC (.int (Int.ofNat 18)))))) (sSub (eOp fSub (eVar 2) (eOp fPow (eC (.int (Int.ofNat 10))) (eC (.int (Int.ofNat 18))))) (eVar 0) (eC (.str n104))) (sSub (eOp fMod (eCB fInt (aCons (eOp fAdd (eOp fMul (eOp fIx (eVar 0) (eC (.str n106))) (eC (.int (Int.ofNat 48271)))) (eVar 2)) aNil)) (eC (.int (Int.ofNat 2147483563)))) (eVar 0) (eC (.str n106)))))) sNop)
def dr2 (C : CF) : DS := (sIf (bVal (eOp fGt (eOp fIx (eVar 0) (eC (.str n104))) (eC (.int (Int.ofNat 0))))) (sSeq (sAsg (eOp fMod (eCB fInt (aCons (eOp fIx (eVar 0) (eC (.str n104))) aNil)) (eVar 1)) (gNm 3))
  (sSeq (sSub (eOp fFdiv (eOp fIx (eVar 0) (eC (.str n104))) (eVar 1)) (eVar 0) (eC (.str n104)))
  (sRet (eVar 3)))) sNop)
def dr3 (C : CF) : DS := (sAsg (eOp fAdd (eOp fAdd (eOp fIx (eVar 0) (eC (.str n106))) (eOp fMul (eOp fIx (eVar 0) (eC (.str n103))) (eC (.int (Int.ofNat 8513))))) (eC (.int (Int.ofNat 61)))) (gNm 4))
def dr4 (C : CF) : DS := (sRet (eOp fMod (eOp fFdiv (eCB fInt (aCons (eOp fMod (eOp fPow (eVar 4) (eC (.int (Int.ofNat 19)))) (eC (.int (Int.ofNat 2305843009213693951)))) aNil)) (eC (.int (Int.ofNat 256)))) (eVar 1)))
def drT (C : CF) : DB := (bAnd (bVal (eOp (fEqA C wEl) (eOp fIx (eVar 0) (eC (.str n104))) (eC (.int (Int.ofNat 0))))) (bVal (eOp fLt (eOp fIx (eVar 0) (eC (.str n88))) (eCB fLen (aCons (eOp fIx (eVar 0) (eC (.str n105))) aNil)))))
def dr10 (C : CF) : DS := (sAsg (eOp fIx (eOp fIx (eVar 0) (eC (.str n105))) (eOp fIx (eVar 0) (eC (.str n88)))) (gNm 2))
def dr11 (C : CF) : DS := (sSub (eOp fAdd (eOp fIx (eVar 0) (eC (.str n88))) (eC (.int (Int.ofNat 1)))) (eVar 0) (eC (.str n88)))
def dr12 (C : CF) : DS := (sIf (bVal (eOp fGe (eVar 2) (eOp fPow (eC (.int (Int.ofNat 10))) (eC (.int (Int.ofNat 18)))))) (sSub (eOp fSub (eVar 2) (eOp fPow (eC (.int (Int.ofNat 10))) (eC (.int (Int.ofNat 18))))) (eVar 0) (eC (.str n104))) (sSub (eOp fMod (eCB fInt (aCons (eOp fAdd (eOp fMul (eOp fIx (eVar 0) (eC (.str n106))) (eC (.int (Int.ofNat 48271)))) (eVar 2)) aNil)) (eC (.int (Int.ofNat 2147483563)))) (eVar 0) (eC (.str n106))))
def dr1D (C : CF) : DS := (sSub (eOp fSub (eVar 2) (eOp fPow (eC (.int (Int.ofNat 10))) (eC (.int (Int.ofNat 18))))) (eVar 0) (eC (.str n104)))
def dr1F (C : CF) : DS := (sSub (eOp fMod (eCB fInt (aCons (eOp fAdd (eOp fMul (eOp fIx (eVar 0) (eC (.str n106))) (eC (.int (Int.ofNat 48271)))) (eVar 2)) aNil)) (eC (.int (Int.ofNat 2147483563)))) (eVar 0) (eC (.str n106)))
def dr20 (C : CF) : DS := (sAsg (eOp fMod (eCB fInt (aCons (eOp fIx (eVar 0) (eC (.str n104))) aNil)) (eVar 1)) (gNm 3))
def dr21 (C : CF) : DS := (sSub (eOp fFdiv (eOp fIx (eVar 0) (eC (.str n104))) (eVar 1)) (eVar 0) (eC (.str n104)))
def dr22 (C : CF) : DS := (sRet (eVar 3))
def NFOLD : EV := .str n106
def NAT : EV := .str n88
def NDIG : EV := .str n104
def NCNT : EV := .str n103
def NCEL : EV := .str n105

def shD (C : CF) : DS := sSeq (dr0 C) (sSeq (dr1 C) (sSeq (dr2 C) (sSeq (dr3 C) (dr4 C))))
/-- the pen in the own heap: its cells at 0, itself at 1, a list at 2 -/
def hpD (cs : List EV) (at_ dg ct fd : Int) (o2 : EO) : EH := ⟨.nd (.lst cs) (.nd (.dic [(NCEL, .ref 0), (NAT, .int at_), (NDIG, .int dg), (NCNT, .int ct), (NFOLD, .int fd)]) .nil .nil) (.nd o2 .nil .nil), 3⟩
example : (⟨((T.nil.set 0 (.lst [])).set 1 (.lst [.non])).set 2 (.lst [.non, .non]), 3⟩ : EH) = ⟨.nd (.lst []) (.nd (.lst [.non]) .nil .nil) (.nd (.lst [.non, .non]) .nil .nil), 3⟩ := rfl
section
variable (C : CF) {cs : List EV} {at_ dg ct fd : Int} {o2 : EO} {s : ES} {r : List (Option EV)}
theorem g_fold : eOp fIx (eVar 0) (eC NFOLD) (some (.ref 1) :: r) (hpD cs at_ dg ct fd o2) = .ok (.int fd) (hpD cs at_ dg ct fd o2) := rfl
theorem g_cnt : eOp fIx (eVar 0) (eC NCNT) (some (.ref 1) :: r) (hpD cs at_ dg ct fd o2) = .ok (.int ct) (hpD cs at_ dg ct fd o2) := rfl
theorem g_dig : eOp fIx (eVar 0) (eC NDIG) (some (.ref 1) :: r) (hpD cs at_ dg ct fd o2) = .ok (.int dg) (hpD cs at_ dg ct fd o2) := rfl
/-- what is told of a draw -/
def Tells (m : Int) (o2 : EO) (q : RS) : Prop := ∃ (d : Int) (h' : EH), q = .rt (.int d) h' ∧ 0 ≤ d ∧ d < m ∧ h'.get 2 = some o2
theorem d_tail {x3 x4 : Option EV} {m : Int} (hm : 0 < m) {x2 : Option EV} (h1 : 0 ≤ fd) (h2 : fd < 2147483563) (h3 : 0 ≤ ct) (h4 : ct < 1099511627776) :
    Tells m o2 (sSeq (dr3 C) (dr4 C) [some (.ref 1), some (.int m), x2, x3, x4] (hpD cs at_ dg ct fd o2)) := by
  refine ⟨_, _, (v_seq (v_asg (v_add (v_add g_fold (v_mul g_cnt rfl (by omega) (by omega))) rfl))).trans (v_ret (v_mod (v_fdiv (v_int (v_mod (v_pow rfl rfl (by decide) (by decide) ?_) rfl (by decide))) rfl (by decide) (by decide)) rfl hm)), ?_, ?_, rfl⟩
  · show (fd + ct * 8513 + 61).natAbs < 18446744073709551616
    omega
  · exact Int.emod_nonneg _ (by omega)
  · exact Int.emod_lt_of_pos _ hm
theorem v_gt {a b : DE} {s : ES} {h h1 h2 : EH} {i j : Int} (ha : a s h = .ok (.int i) h1) (hb : b s h1 = .ok (.int j) h2) : eOp fGt a b s h = .ok (.bl (decide (j < i))) h2 := by
  rw [v_op ha hb, ← iLt_dec]; rfl
theorem v_ge {a b : DE} {s : ES} {h h1 h2 : EH} {i j : Int} (ha : a s h = .ok (.int i) h1) (hb : b s h1 = .ok (.int j) h2) : eOp fGe a b s h = .ok (.bl (decide (j ≤ i))) h2 := by
  rw [v_op ha hb, ← iLe_dec]; rfl
theorem v_seqR {c d : DS} {s : ES} {h h1 : EH} {x : EV} (hc : c s h = .rt x h1) : sSeq c d s h = .rt x h1 := by
  show (c s h).nxt d = _
  rw [hc]
  rfl
/-- digits, then the blend -/
theorem d_rest {m : Int} (hm : 0 < m) (hm2 : m < 1073741824) {x2 x3 x4 : Option EV} (h0 : 0 ≤ dg) (h1 : 0 ≤ fd) (h2 : fd < 2147483563) (h3 : 0 ≤ ct) (h4 : ct < 1099511627776) :
    Tells m o2 (sSeq (dr2 C) (sSeq (dr3 C) (dr4 C)) [some (.ref 1), some (.int m), x2, x3, x4] (hpD cs at_ dg ct fd o2)) := by
  by_cases hd : 0 < dg
  · have e : dr2 C [some (.ref 1), some (.int m), x2, x3, x4] (hpD cs at_ dg ct fd o2) = .rt (.int (dg % m)) (hpD cs at_ (dg / m) ct fd o2) := by
      refine (v_if (v_val (v_gt (j := 0) g_dig rfl))).trans ?_
      rw [decide_eq_true hd]
      exact (v_seq (v_asg (v_mod (v_int g_dig) rfl hm))).trans ((v_seq (v_sub_ (v_fdiv g_dig rfl hm hm2) rfl rfl rfl)).trans (v_ret rfl))
    exact ⟨_, _, v_seqR e, Int.emod_nonneg _ (by omega), Int.emod_lt_of_pos _ hm, rfl⟩
  · have e : dr2 C [some (.ref 1), some (.int m), x2, x3, x4] (hpD cs at_ dg ct fd o2) = .nx [some (.ref 1), some (.int m), x2, x3, x4] (hpD cs at_ dg ct fd o2) := by
      refine (v_if (v_val (v_gt (j := 0) g_dig rfl))).trans ?_
      rw [decide_eq_false hd]
      rfl
    rw [v_seq e]
    exact d_tail C hm h1 h2 h3 h4
theorem d_all {m : Int} (ns : List Int) (hm : 0 < m) (hm2 : m < 1073741824) (h1 : 0 ≤ fd) (h2 : fd < 2147483563) :
    Tells m o2 (shD C [some (.ref 1), some (.int m), none, none, none] (hpD (ns.map EV.int) 0 0 0 fd o2)) := by
  have e0 : dr0 C [some (.ref 1), some (.int m), none, none, none] (hpD (ns.map EV.int) 0 0 0 fd o2) = .nx [some (.ref 1), some (.int m), none, none, none] (hpD (ns.map EV.int) 0 0 1 fd o2) := rfl
  show Tells m o2 (sSeq (dr0 C) _ _ _)
  rw [v_seq e0]
  cases ns with
  | nil =>
    have e1 : dr1 C [some (.ref 1), some (.int m), none, none, none] (hpD ([].map EV.int) 0 0 1 fd o2) = .nx [some (.ref 1), some (.int m), none, none, none] (hpD ([].map EV.int) 0 0 1 fd o2) := rfl
    rw [v_seq e1]
    exact d_rest C hm hm2 (by decide) h1 h2 (by decide) (by decide)
  | cons c r =>
    have et : drT C [some (.ref 1), some (.int m), none, none, none] (hpD ((c :: r).map EV.int) 0 0 1 fd o2) = .ok true (hpD ((c :: r).map EV.int) 0 0 1 fd o2) := rfl
    have e10 : dr10 C [some (.ref 1), some (.int m), none, none, none] (hpD ((c :: r).map EV.int) 0 0 1 fd o2) = .nx [some (.ref 1), some (.int m), some (.int c), none, none] (hpD ((c :: r).map EV.int) 0 0 1 fd o2) := rfl
    have e11 : dr11 C [some (.ref 1), some (.int m), some (.int c), none, none] (hpD ((c :: r).map EV.int) 0 0 1 fd o2) = .nx [some (.ref 1), some (.int m), some (.int c), none, none] (hpD ((c :: r).map EV.int) 1 0 1 fd o2) := rfl
    by_cases hc : (1000000000000000000 : Int) ≤ c
    · have e12 : dr12 C [some (.ref 1), some (.int m), some (.int c), none, none] (hpD ((c :: r).map EV.int) 1 0 1 fd o2) = .nx [some (.ref 1), some (.int m), some (.int c), none, none] (hpD ((c :: r).map EV.int) 1 (c - 1000000000000000000) 1 fd o2) := by
        refine (v_if (v_val (v_ge (i := c) (j := 1000000000000000000) rfl rfl))).trans ?_
        rw [decide_eq_true hc]
        exact v_sub_ (v_sub (i := c) (j := 1000000000000000000) rfl rfl) rfl rfl rfl
      have e1 : dr1 C [some (.ref 1), some (.int m), none, none, none] (hpD ((c :: r).map EV.int) 0 0 1 fd o2) = .nx [some (.ref 1), some (.int m), some (.int c), none, none] (hpD ((c :: r).map EV.int) 1 (c - 1000000000000000000) 1 fd o2) :=
        (v_if et).trans ((v_seq e10).trans ((v_seq e11).trans e12))
      rw [v_seq e1]
      exact d_rest C hm hm2 (by omega) h1 h2 (by decide) (by decide)
    · have e12 : dr12 C [some (.ref 1), some (.int m), some (.int c), none, none] (hpD ((c :: r).map EV.int) 1 0 1 fd o2) = .nx [some (.ref 1), some (.int m), some (.int c), none, none] (hpD ((c :: r).map EV.int) 1 0 1 ((fd * 48271 + c) % 2147483563) o2) := by
        refine (v_if (v_val (v_ge (i := c) (j := 1000000000000000000) rfl rfl))).trans ?_
        rw [decide_eq_false hc]
        exact v_sub_ (v_mod (v_int (v_add (v_mul g_fold rfl (by omega) (by omega)) rfl)) rfl (by decide)) rfl rfl rfl
      have e1 : dr1 C [some (.ref 1), some (.int m), none, none, none] (hpD ((c :: r).map EV.int) 0 0 1 fd o2) = .nx [some (.ref 1), some (.int m), some (.int c), none, none] (hpD ((c :: r).map EV.int) 1 0 1 ((fd * 48271 + c) % 2147483563) o2) :=
        (v_if et).trans ((v_seq e10).trans ((v_seq e11).trans e12))
      rw [v_seq e1]
      exact d_rest C hm hm2 (by decide) (Int.emod_nonneg _ (by decide)) (Int.emod_lt_of_pos _ (by decide)) (by decide) (by decide)
end
end Law
end

/-! ##### Lw.src.lean -/
set_option Elab.async false
set_option linter.all false
set_option maxRecDepth 100000
set_option maxHeartbeats 4000000
set_option autoImplicit false
noncomputable section
namespace Law
open PySem PySem.Spec PyProof.Rows L2 LV
open LV (bAnd bOr bNot bVal)
/-! ## the pick -/
theorem pad_draw (m : Int) : padE 5 [.ref 1, .int m] = [some (.ref 1), some (.int m), none, none, none] := rfl
def o2L : EO := .lst [.str n25, .str n21]
def esP : ES := [none, some (.ref 1)] ++ List.replicate (NL.length - 2) none
def esS (x : Str) : ES := [none, none, some (.str x)] ++ List.replicate (NL.length - 3) none
def hp2 (cs : List EV) (fd : Int) : EH := ⟨.nd (.lst cs) (.nd (.dic [(NCEL, .ref 0), (NAT, .int 0), (NDIG, .int 0), (NCNT, .int 0), (NFOLD, .int fd)]) .nil .nil) .nil, 2⟩
theorem draw_C (d : Nat) {fd : Int} (ns : List Int) (h1 : 0 ≤ fd) (h2 : fd < 2147483563) : ∃ (i : Int) (h' : EH), callN tree (d + 1) 102 [.ref 1, .int 2] (hpD (ns.map EV.int) 0 0 0 fd o2L) = .ok (.int i) h' ∧ 0 ≤ i ∧ i < 2 ∧ h'.get 2 = some o2L := by
  obtain ⟨i, h', e, a, b, g⟩ := d_all (callN tree d) (o2 := o2L) (m := 2) ns (by decide) (by decide) h1 h2
  refine ⟨i, h', ?_, a, b, g⟩
  show (sh102 (callN tree d) (padE 5 [.ref 1, .int 2]) (hpD (ns.map EV.int) 0 0 0 fd o2L)).fin = _
  rw [show sh102 (callN tree d) (padE 5 [.ref 1, .int 2]) (hpD (ns.map EV.int) 0 0 0 fd o2L) = .rt (.int i) h' from e]
  rfl
end Law
end

/-! ##### Lx.src.lean -/
set_option Elab.async false
set_option linter.all false
set_option maxRecDepth 100000
set_option maxHeartbeats 4000000
set_option autoImplicit false
noncomputable section
namespace Law
open PySem PySem.Spec PyProof.Rows L2 LV
open LV (bAnd bOr bNot bVal)
/-! ## the pick, as the law calls it -/
theorem pick_ok (d : Nat) {fd : Int} (ns : List Int) (h1 : 0 ≤ fd) (h2 : fd < 2147483563) : ∃ (x : Str) (h' : EH), shL1 (callN tree (d + 2)) esP (hp2 (ns.map EV.int) fd) = .nx (setN esP 2 (some (.str x))) h' ∧ (x = n25 ∨ x = n21) := by
  obtain ⟨i, h', e, a, b, g⟩ := draw_C d ns h1 h2
  have key : ∀ x : Str, fIx (.ref 2) (.int i) h' = .ok (.str x) h' → shL1 (callN tree (d + 2)) esP (hp2 (ns.map EV.int) fd) = .nx (setN esP 2 (some (.str x))) h' := fun x hx => by
    refine v_asg ?_
    show (bodyG 2 2 (sh103 (callN tree (d + 1))) [.ref 1, .ref 2] (hpD (ns.map EV.int) 0 0 0 fd o2L)) = _
    show (sh103 (callN tree (d + 1)) [some (.ref 1), some (.ref 2)] (hpD (ns.map EV.int) 0 0 0 fd o2L)).fin = _
    have e3 : sh103 (callN tree (d + 1)) [some (.ref 1), some (.ref 2)] (hpD (ns.map EV.int) 0 0 0 fd o2L) = .rt (.str x) h' := by
      refine v_ret ((v_op (x := .ref 2) (y := .int i) rfl ?_).trans hx)
      exact e
    rw [e3]
    rfl
  have hi : i = 0 ∨ i = 1 := by omega
  rcases hi with rfl | rfl
  · exact ⟨n25, h', key n25 (by
      show onOpt (h'.get 2) _ _ = _
      rw [g]; rfl), .inl rfl⟩
  · exact ⟨n21, h', key n21 (by
      show onOpt (h'.get 2) _ _ = _
      rw [g]; rfl), .inr rfl⟩
theorem hp2_get (cs : List EV) (fd : Int) (n : Nat) : (hp2 cs fd).get (n + 2) = none := by
  show T.get (.nd (.lst cs) (.nd (.dic [(NCEL, .ref 0), (NAT, .int 0), (NDIG, .int 0), (NCNT, .int 0), (NFOLD, .int fd)]) .nil .nil) .nil) (n + 1 + 1) = none
  rw [T.get_nd]
  show @Bool.rec (fun _ => Option EO) (T.nil.get ((n + 1) / 2)) (T.get (.nd (.dic [(NCEL, .ref 0), (NAT, .int 0), (NDIG, .int 0), (NCNT, .int 0), (NFOLD, .int fd)]) .nil .nil) ((n + 1) / 2)) (Nat.beq ((n + 1) % 2) 0) = none
  cases hb : Nat.beq ((n + 1) % 2) 0 with
  | false => rfl
  | true =>
    have h := Nat.eq_of_beq_eq_true hb
    obtain ⟨j, hj⟩ : ∃ j, (n + 1) / 2 = j + 1 := ⟨(n + 1) / 2 - 1, by omega⟩
    show T.get _ ((n + 1) / 2) = none
    rw [hj, T.get_nd]
    show @Bool.rec (fun _ => Option EO) (T.nil.get (j / 2)) (T.nil.get (j / 2)) (Nat.beq (j % 2) 0) = none
    cases Nat.beq (j % 2) 0 <;> rfl
theorem penK_eq (q : Addr) (f : Int) : penK q f = [(.inr n105, .ref q), (.inr n88, .int 0), (.inr n104, .int 0), (.inr n103, .int 0), (.inr n106, .int f)] := by
  unfold penK
  rw [e105, e88, e104, e103, e106]
/-- the pen's two objects, held -/
theorem emb2 {G : GA} {H : Hp} {p q : Addr} {ns : List Int} {fd : Int} (hpq : p ≠ q) (hp : H p = some (.dK (penK q fd))) (hq : H q = some (.lst (ns.map V.int))) :
    Emb G (fun i => if i = 0 then q else p) (hp2 (ns.map EV.int) fd) H where
  obj := fun n o e => by
    have hr : Reps G (fun i => if i = 0 then q else p) 2 H (ns.map EV.int) (ns.map V.int) := by
      clear hq hp e
      induction ns with
      | nil => exact .nil
      | cons c r ih => exact .cons (.int c) ih
    match n, e with
    | 0, e =>
      cases e
      exact ⟨_, hq, .lst hr⟩
    | 1, e =>
      cases e
      rw [penK_eq] at hp
      exact ⟨_, hp, .dic (KReps.cons (k := .inr n105) (x := .ref 0) (v := .ref q) (Rep.ref (ρ := fun i => if i = 0 then q else p) (n := 0) (m := 2) (Nat.zero_lt_succ 1)) (KReps.cons (k := .inr n88) (.int 0) (KReps.cons (k := .inr n104) (.int 0) (KReps.cons (k := .inr n103) (.int 0) (KReps.cons (k := .inr n106) (.int fd) .nil)))))⟩
    | n + 2, e => rw [hp2_get] at e; cases e
  inj := fun i j p' e1 e2 h => by
    match i, j, e1, e2, h with
    | 0, 0, _, _, _ => rfl
    | 1, 1, _, _, _ => rfl
    | 0, 1, _, _, h => exact absurd h.symm hpq
    | 1, 0, _, _, h => exact absurd h hpq
    | n + 2, _, e, _, _ => exact absurd (show n + 2 < 2 from e) (by omega)
    | _, n + 2, _, e, _ => rw [hp2_get] at e; cases e
  lt := fun n o e => by
    match n, e with
    | 0, _ => exact Nat.zero_lt_succ 1
    | 1, _ => exact Nat.lt_succ_self 1
    | n + 2, e => rw [hp2_get] at e; cases e
  full := fun n hn => by
    match n, hn with
    | 0, _ => exact ⟨_, hq⟩
    | 1, _ => exact ⟨_, hp⟩
    | n + 2, hn => exact absurd (show n + 2 < 2 from hn) (by omega)
end Law
end

/-! ##### Ew.src.lean -/
set_option Elab.async false
set_option linter.all false
set_option maxRecDepth 100000
set_option maxHeartbeats 0
set_option autoImplicit false
noncomputable section
namespace Law
open PySem PySem.Spec PyProof.Rows L2 LV
def isTq (q : RS) : Bool := match q with
  | .rt (.bl true) _ => true
  | _ => false
theorem isTq_ok {q : RS} (h : isTq q = true) : ∃ h', q = .rt (.bl true) h' := by
  unfold isTq at h
  split at h
  · exact ⟨_, rfl⟩
  · cases h
theorem ev_look : isTq (shL (callN tree 40) (esS n25) EH.nil) = true := by decide +kernel
theorem ev_only : isTq (shL (callN tree 40) (esS n21) EH.nil) = true := by decide +kernel
end Law
end

/-! ##### Ly.src.lean -/
set_option Elab.async false
set_option linter.all false
set_option maxRecDepth 100000
set_option maxHeartbeats 4000000
set_option autoImplicit false
noncomputable section
namespace Law
open PySem PySem.Spec PyProof.Rows L2 LV
open LV (bAnd bOr bNot bVal)
def spPen (K : PySem.W.Frag) : Sp := fun vs H Q _ => ∃ (a : Addr) (ns : List Int), vs = [.ref a] ∧ SqL K H a (ns.map V.int) ∧ ∀ (p q : Addr) (f : Int) (H' : Hp), 0 ≤ f → f < 1000000009 → p ≠ q → H' p = some (.dK (penK q f)) → H' q = some (.lst (ns.map V.int)) → Q (.ref p) H'
def spLaw (K : PySem.W.Frag) : Sp := fun vs H Q _ => ∃ (a : Addr) (ns : List Int), vs = [.ref a] ∧ SqL K H a (ns.map V.int) ∧ ∀ H', Q (.bl true) H'
theorem scLaw : FnScope NL ["script"] (defScope (top 95)) := ⟨rfl, rfl, rfl, by decide +kernel, rfl, by decide +kernel, by decide +kernel⟩
section
variable {T : Tb} {w : World} {P : Program} {base : Heap} {C : CF} {k : Nat}
theorem ok_pen (L : Lvl T P w base C k) (W : Fx T w) {f : Addr} {fd : FuncData} (F : FunD T.G.K "_law_pen" "_law_pen" (defArgs (top 92)) (defBody (top 92)) (defScope (top 92)) [] [] f fd) : FnOk P w T.G.K T.mg base CX0 (k + 2) f fd ["script"] (spPen T.G.K) := by
  refine F.ok scPen (fun vs H Q E h => ?_) fun cdv A outer s H vs Q E hr h => ⟨tPen T.G.K, PSs.nox (wPen W.fr_int W.fr_list (C := C) (k := k) (T := T) ?_), ?_⟩
  · obtain ⟨a, ns, rfl, _⟩ := h
    rfl
  · exact ⟨rfl, rfl, scPen.nd, rfl, rfl, rfl, PassesOwn.never, hr, L.fn, fun _ _ => rfl, L.len, W.kept.kp, W.kept.bnd⟩
  · obtain ⟨a, ns, rfl, hS, hQ⟩ := h
    exact pure_pen hS hQ
def tLaw (T : Tb) (C : CF) : TS := tSeq (tAsg (tCall (spPen T.G.K) [] E0 (tCons (tVar 0) tNil)) (gName 1)) (tSeq (rdS T.G (shL1 C)) (rdS T.G (shL C)))
theorem slots_P {G : GA} {ρ : Nat → Addr} {H : Hp} {a p : Addr} (h : ρ 1 = p) : Slots G ρ 2 H esP ((start NL [.ref a]).set 1 (some (.ref p))) := by
  refine ⟨rfl, fun i x e => ?_⟩
  match i, e with
  | 0, e => cases e
  | 1, e => cases e; exact ⟨.ref p, rfl, by rw [← h]; exact .ref (by decide)⟩
  | 2, e => cases e
  | 3, e => cases e
  | 4, e => cases e
  | 5, e => cases e
  | 6, e => cases e
  | 7, e => cases e
  | 8, e => cases e
  | 9, e => cases e
  | 10, e => cases e
  | 11, e => cases e
  | 12, e => cases e
  | n + 13, e => cases e
theorem slots_S {G : GA} {ρ : Nat → Addr} {m : Nat} {H : Hp} {x : Str} {σ : L2.St} (h : Slots G ρ m H (setN esP 2 (some (.str x))) σ) : Slots G ρ 0 H (esS x) σ := by
  refine ⟨h.len, fun i y e => ?_⟩
  match i, e with
  | 0, e => cases e
  | 1, e => cases e
  | 2, e =>
    cases e
    obtain ⟨v, h1, r⟩ := h.at_ 2 (.str x) rfl
    cases r
    exact ⟨_, h1, .str x⟩
  | 3, e => cases e
  | 4, e => cases e
  | 5, e => cases e
  | 6, e => cases e
  | 7, e => cases e
  | 8, e => cases e
  | 9, e => cases e
  | 10, e => cases e
  | 11, e => cases e
  | 12, e => cases e
  | n + 13, e => cases e
theorem emb0 {G : GA} {ρ : Nat → Addr} {H : Hp} : Emb G ρ EH.nil H := Emb.nil
theorem ok_law (W : Fx T w) (A : tree.All T w) {f : Addr} {fd : FuncData} (FP : FunD T.G.K "_law_pen" "_law_pen" (defArgs (top 92)) (defBody (top 92)) (defScope (top 92)) [] [] f fd) (hf : T.mg "_law_pen" = some (.ref f)) {fl : Addr} {fdl : FuncData}
    (FL : FunD T.G.K "law" "law" (defArgs (top 95)) (defBody (top 95)) (defScope (top 95)) [] [] fl fdl)
    (ev : ∀ x : Str, x = n25 ∨ x = n21 → ∃ h', shL (callN tree 40) (esS x) EH.nil = .rt (.bl true) h') : FnOk P w T.G.K T.mg base CX0 82 fl fdl ["script"] (spLaw T.G.K) := by
  have L : Lvl T P w base (callN tree 40) 80 := level A P base 40
  have GP : FnOk P w T.G.K T.mg base CX0 80 f fd ["script"] (spPen T.G.K) := ok_pen (level A P base 39) W FP
  have bP : Binds T.G.K fd ["script"] [] := FP.bindsN fun _ _ _ _ _ _ us hl => match us, hl with | [_], _ => rfl
  refine FL.ok scLaw (fun vs H Q E h => ?_) fun cdv A outer s H vs Q E hr h => ⟨tLaw T (callN tree 40), PSs.nox ?_, ?_⟩
  · obtain ⟨a, ns, rfl, _⟩ := h
    rfl
  · have key : ∀ X : Cx, X.w = w → X.xe = (fun _ _ => False) → X.prog = P → X.base = base → XC T (callN tree 40) NL (defScope (top 95)) true 80 X → PSs X (defBody (top 95)) (tLaw T (callN tree 40)) := fun X hw hx hP hB c =>
      pss_cons (ps_set (i := 1) c.nN (c.hn rfl) (.inl (c.lk rfl)) (pe_call (by rw [hP, hw, hB, c.K, c.mg]; exact GP) c.r (c.gl rfl) (by rw [c.mg]; exact hf) (by rw [c.K]; exact FP.kp) (by rw [c.K]; exact bP) .nil pass0 (pa_cons (pe_var (c.hn rfl) (.inl (c.lk rfl))) pa_nil)) (hf := .inr (c.lk rfl))) (pss_cons (wL1 W _ 80 X hw hx c) (wL W _ 80 X hw hx c))
    exact key _ rfl rfl rfl rfl ⟨rfl, rfl, scLaw.nd, rfl, rfl, rfl, PassesOwn.never, hr, L.fn, fun _ _ => rfl, L.len, W.kept.kp, W.kept.bnd⟩
  · obtain ⟨a, ns, rfl, hS, hQ⟩ := h
    refine ⟨_, rfl, a, ns, rfl, hS, fun p q fo H' h0 h1 hpq hp hq => ?_⟩
    obtain ⟨x, h', e, hx⟩ := pick_ok 38 ns h0 (by omega)
    refine ⟨_, esP, hp2 (ns.map EV.int) fo, emb2 hpq hp hq, slots_P rfl, ?_⟩
    rw [show shL1 (callN tree 40) esP (hp2 (ns.map EV.int) fo) = .nx (setN esP 2 (some (.str x))) h' from e]
    intro ρ' σ' H'' l em' sl'
    obtain ⟨h9, e9⟩ := ev x hx
    refine ⟨ρ', esS x, EH.nil, emb0, slots_S sl', ?_⟩
    rw [e9]
    intro ρ2 v H2 _ _ r
    cases r
    exact hQ H2
end
end Law
end

noncomputable section
namespace Law
open PySem PySem.Spec PyProof.Rows L2 LV
theorem ev_all (x : Str) (h : x = n25 ∨ x = n21) : ∃ h', shL (callN tree 40) (esS x) EH.nil = .rt (.bl true) h' := by
  rcases h with rfl | rfl
  · exact isTq_ok ev_look
  · exact isTq_ok ev_only
theorem facts {P : Program} {w : World} {K : PySem.W.Frag} {h : Heap} {mg : Str → Option Value} {f : Addr} (X : K.In h) (G : h.Ns mainGlobals mg) (hfa : mg ("law" : Str) = some (.ref f)) (c : SaysV ex vd tsL w K) :
    ∃ fd : FuncData, (∀ (s : Shared) (v : Value), BindsTo s fd ⟨[v], []⟩ [("script", v)]) ∧ ∀ base : Heap, K.In base → base.Ns mainGlobals mg → FnOk P w K mg base CX0 82 f fd ["script"] (spLaw K) := by
  obtain ⟨fd, F⟩ := fds c (d0 := d0) rfl
  have M : MgOf (tbOf K mg fd) := ⟨fun x v e => PySem.W.mg_of X G e, fun x e => PySem.W.mg_none_of X G e⟩
  have W := fx c F M
  have A := all F W
  have FL := F 105 d105 rfl
  have hl := hd_law c M
  rw [hfa] at hl
  cases hl
  have b := FunD.bindsA (ps := ["script"]) FL fun _ _ _ _ _ _ us hl => match us, hl with | [_], _ => rfl
  exact ⟨fd 105, fun s v => b s [v] rfl, fun base _ _ => ok_law W A (F 104 d104 rfl) (hd_law_pen c M) FL ev_all⟩
end Law
end
open PySem PySem.W PySem.Calls PyProof.Rows
theorem PySem.Challenge.cw_lentonce_k91_whole_known_runs_holds : PySem.Challenge.rw_lentonce_k91_whole_known_runs.Holds := by
  w_on; o_law
  refine HandSHeadRun.head_any (r := OpenLaw.row PySem.Challenge.rw_lentonce_k91_whole_known_runs) (q := view (OpenLaw.row PySem.Challenge.rw_lentonce_k91_whole_known_runs).prog [95]) (H := Law.hk) (ob := Law.ob) (M := 20000) (loose := Law.lo) (d := HandSHeadRun.topDef (OpenLaw.row PySem.Challenge.rw_lentonce_k91_whole_known_runs).prog 95) (kwd := []) Law.ob_eq
    (by kernel_rfl) (fun s => by kernel_rfl) Law.run (by kernel_rfl) (by kernel_rfl) (by kernel_rfl) (by rfl) (by first | assumption | decide +kernel) (by decide +kernel) ⟨rfl, rfl, rfl, rfl, rfl, by decide +kernel⟩ ?hw ?hc
  case hw => w_witness2
  case hc =>
    refine L2.walk_ofE (l := PySem.Challenge.rw_lentonce_k91_whole_known_runs) (n := 63) (k := 82) (x := "script") (CX := L2.CX0) rfl (by decide) (by kernel_rfl) ⟨rfl, by decide, by decide⟩ ?F (fun _ _ _ _ z => z)
    intro w mg fa h Y G hmg0
    obtain ⟨K, KX, c⟩ := Y
    have hmg : mg ("law" : PySem.Str) = some (.ref fa) := by
      have e : (HandSHeadRun.topDef (OpenLaw.row PySem.Challenge.rw_lentonce_k91_whole_known_runs).prog 95).name = ("law" : PySem.Str) := by kernel_rfl
      rw [← e]
      exact hmg0
    obtain ⟨fd, hb, hF⟩ := Law.facts (P := (PySem.Challenge.rw_lentonce_k91_whole_known_runs).prog) (w := w) KX G hmg c
    exact ⟨K, fd, Law.spLaw K, KX, hb, fun H a ns hl _ hS => ⟨a, ns, rfl, hS, fun _ => rfl⟩, hF⟩

