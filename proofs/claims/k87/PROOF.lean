import PyProof.Rows.All
import Wide.All
import OpenK.AllK
import Wide.FinOn
import HandS.ForMost
import HandS.ClsMeth
import HandS.Property
import HandS.Conv
import HandS.Flow
import HandS.Wide
import HandS.SetFor
import HandS.Strs
import HandS.Zip
import KE.GoesEnumKw
import HandS.Style
import HandS.IsInst
import HandS.Evl
import HandS.CallRecv
import PySem.Challenge.RW_beanjars_k87_whole_counts_reduced
set_option Elab.async false
set_option linter.all false
set_option maxRecDepth 100000
namespace Bj

/-! ### tables -/
structure Good (k : Nat) (t : Nat → Nat → Nat) : Prop where
  pos : 1 ≤ k
  le : k ≤ 8
  lt : ∀ a b, a < k → b < k → t a b < k
  sym : ∀ a b, a < k → b < k → t a b = t b a
def Assoc (k : Nat) (t : Nat → Nat → Nat) : Prop := ∀ a b c, a < k → b < k → c < k → t (t a b) c = t a (t b c)

/-! ### the monoid of a table: none stands for no bean -/
def mul (t : Nat → Nat → Nat) : Option Nat → Option Nat → Option Nat
  | none, y => y
  | some a, none => some a
  | some a, some b => some (t a b)
def In (k : Nat) : Option Nat → Prop
  | none => True
  | some a => a < k
theorem mul_none {t} (x : Option Nat) : mul t x none = x := by cases x <;> rfl
theorem none_mul {t} (x : Option Nat) : mul t none x = x := rfl
theorem mul_in {k t} (G : Good k t) : ∀ {x y : Option Nat}, In k x → In k y → In k (mul t x y)
  | none, _, _, hy => hy
  | some _, none, hx, _ => hx
  | some a, some b, hx, hy => G.lt a b hx hy
theorem mul_comm {k t} (G : Good k t) : ∀ {x y : Option Nat}, In k x → In k y → mul t x y = mul t y x
  | none, none, _, _ => rfl
  | none, some _, _, _ => rfl
  | some _, none, _, _ => rfl
  | some a, some b, hx, hy => congrArg some (G.sym a b hx hy)
theorem mul_assoc {k t} (A : Assoc k t) : ∀ {x y z : Option Nat}, In k x → In k y → In k z → mul t (mul t x y) z = mul t x (mul t y z)
  | none, _, _, _, _, _ => rfl
  | some _, none, _, _, _, _ => rfl
  | some a, some b, none, _, _, _ => rfl
  | some a, some b, some c, hx, hy, hz => congrArg some (A a b c hx hy hz)
def pw (t : Nat → Nat → Nat) (x : Option Nat) : Nat → Option Nat
  | 0 => none
  | n + 1 => mul t (pw t x n) x
theorem pw_in {k t} (G : Good k t) {x : Option Nat} (hx : In k x) : ∀ n, In k (pw t x n)
  | 0 => trivial
  | n + 1 => mul_in G (pw_in G hx n) hx
theorem pw_one {t} (x : Option Nat) : pw t x 1 = x := rfl
theorem pw_add {k t} (G : Good k t) (A : Assoc k t) {x : Option Nat} (hx : In k x) (m : Nat) : ∀ n, pw t x (m + n) = mul t (pw t x m) (pw t x n)
  | 0 => (mul_none _).symm
  | n + 1 => by
    show mul t (pw t x (m + n)) x = mul t (pw t x m) (mul t (pw t x n) x)
    rw [pw_add G A hx m n, mul_assoc A (pw_in G hx m) (pw_in G hx n) hx]
/-- four factors, the middle ones turned -/
theorem mul4 {k t} (G : Good k t) (A : Assoc k t) {a b c d : Option Nat} (ha : In k a) (hb : In k b) (hc : In k c) (hd : In k d) : mul t (mul t a b) (mul t c d) = mul t (mul t a c) (mul t b d) := by
  rw [mul_assoc A ha hb (mul_in G hc hd), mul_assoc A ha hc (mul_in G hb hd), ← mul_assoc A hb hc hd, mul_comm G hb hc, mul_assoc A hc hb hd]
theorem pw_sq {k t} (G : Good k t) (A : Assoc k t) {x : Option Nat} (hx : In k x) : ∀ n, pw t (mul t x x) n = pw t x (2 * n)
  | 0 => rfl
  | n + 1 => by
    have e : 2 * (n + 1) = 2 * n + 2 := by omega
    rw [e, pw_add G A hx (2 * n) 2]
    show mul t (pw t (mul t x x) n) (mul t x x) = _
    rw [pw_sq G A hx n]
    rfl
/-- one turn of times -/
theorem times_odd {k t} (G : Good k t) (A : Assoc k t) {f x : Option Nat} (hf : In k f) (hx : In k x) {n : Nat} (hn : n % 2 = 1) : mul t f (pw t x n) = mul t (mul t f x) (pw t (mul t x x) (n / 2)) := by
  rw [pw_sq G A hx, mul_assoc A hf hx (pw_in G hx _)]
  have e : n = 1 + 2 * (n / 2) := by omega
  have q := pw_add G A hx 1 (2 * (n / 2))
  rw [← e] at q
  rw [q]
  rfl
theorem times_even {k t} (G : Good k t) (A : Assoc k t) {x : Option Nat} (hx : In k x) {n : Nat} (hn : n % 2 = 0) : pw t x n = pw t (mul t x x) (n / 2) := by
  rw [pw_sq G A hx]
  have e : n = 2 * (n / 2) := by omega
  rw [← e]

/-! ### powers come again -/
def red (s L n : Nat) : Nat := if n < s then n else s + (n - s) % (L - s + 1)
theorem pw_shift {k t} (G : Good k t) (A : Assoc k t) {x : Option Nat} (hx : In k x) {s p : Nat} (h : pw t x (s + p) = pw t x s) : ∀ q j, pw t x (s + j + p * q) = pw t x (s + j)
  | 0, _ => rfl
  | q + 1, j => by
    have e : s + j + p * (q + 1) = (s + p) + (j + p * q) := by rw [Nat.mul_succ]; omega
    rw [e, pw_add G A hx, h, ← pw_add G A hx, ← Nat.add_assoc]
    exact pw_shift G A hx h q j
theorem pw_red {k t} (G : Good k t) (A : Assoc k t) {x : Option Nat} (hx : In k x) {s L : Nat} (hs : 1 ≤ s) (hL : s ≤ L) (h : pw t x (L + 1) = pw t x s) (n : Nat) : pw t x (red s L n) = pw t x n := by
  unfold red
  by_cases c : n < s
  · rw [if_pos c]
  · rw [if_neg c]
    have h' : pw t x (s + (L - s + 1)) = pw t x s := by
      have e : s + (L - s + 1) = L + 1 := by omega
      rw [e, h]
    have q := pw_shift G A hx h' ((n - s) / (L - s + 1)) ((n - s) % (L - s + 1))
    have e : s + (n - s) % (L - s + 1) + (L - s + 1) * ((n - s) / (L - s + 1)) = n := by
      have := Nat.mod_add_div (n - s) (L - s + 1)
      omega
    rw [e] at q
    exact q.symm
theorem red_le {s L n : Nat} (hL : s ≤ L) : red s L n ≤ L := by
  unfold red
  by_cases c : n < s
  · rw [if_pos c]; omega
  · rw [if_neg c]
    have := Nat.mod_lt (n - s) (show 0 < L - s + 1 by omega)
    omega
theorem red_pos {s L n : Nat} (hs : 1 ≤ s) (hn : 1 ≤ n) : 1 ≤ red s L n := by
  unfold red
  by_cases c : n < s
  · rw [if_pos c]; omega
  · rw [if_neg c]; omega

/-! ### jars: the product of the powers -/
/-- g: which element a colour stands for; n: how many beans; over the colours below j -/
def Phi (t : Nat → Nat → Nat) (g n : Nat → Nat) : Nat → Option Nat
  | 0 => none
  | j + 1 => mul t (Phi t g n j) (pw t (some (g j)) (n j))
theorem phi_in {m t} (G : Good m t) {g n : Nat → Nat} : ∀ j, (∀ c, c < j → g c < m) → In m (Phi t g n j)
  | 0, _ => trivial
  | j + 1, h => mul_in G (phi_in G j fun c hc => h c (by omega)) (pw_in G (show In m (some (g j)) from h j (by omega)) _)
theorem phi_congr {t} {g g' n n' : Nat → Nat} : ∀ j, (∀ c, c < j → pw t (some (g c)) (n c) = pw t (some (g' c)) (n' c)) → Phi t g n j = Phi t g' n' j
  | 0, _ => rfl
  | j + 1, h => by
    show mul t _ _ = mul t _ _
    rw [phi_congr j fun c hc => h c (by omega), h j (by omega)]
def bump (n : Nat → Nat) (c : Nat) : Nat → Nat := fun i => if i = c then n i + 1 else n i
theorem phi_bump {m t} (G : Good m t) (A : Assoc m t) {g n : Nat → Nat} {c : Nat} : ∀ j, (∀ i, i < j → g i < m) → c < j → Phi t g (bump n c) j = mul t (Phi t g n j) (some (g c))
  | 0, _, h => by omega
  | j + 1, h, hc => by
    have hj : ∀ i, i < j → g i < m := fun i hi => h i (by omega)
    have gj : In m (some (g j)) := h j (by omega)
    show mul t (Phi t g (bump n c) j) (pw t (some (g j)) (bump n c j)) = mul t (mul t (Phi t g n j) (pw t (some (g j)) (n j))) (some (g c))
    by_cases e : j = c
    · subst e
      have e1 : Phi t g (bump n j) j = Phi t g n j := phi_congr j fun i hi => by
        show pw t _ (if i = j then n i + 1 else n i) = _
        rw [if_neg (by omega)]
      have e2 : bump n j j = n j + 1 := if_pos rfl
      rw [e1, e2]
      show mul t _ (mul t _ _) = _
      rw [mul_assoc A (phi_in G j hj) (pw_in G gj _) gj]
    · have e2 : bump n c j = n j := if_neg e
      rw [e2, phi_bump G A j hj (by omega)]
      have gc : In m (some (g c)) := h c (by omega)
      rw [mul_assoc A (phi_in G j hj) gc (pw_in G gj _), mul_comm G gc (pw_in G gj _), mul_assoc A (phi_in G j hj) (pw_in G gj _) gc]
theorem phi_zero {t} {g : Nat → Nat} : ∀ j, Phi t g (fun _ => 0) j = none
  | 0 => rfl
  | j + 1 => by
    show mul t (Phi t g (fun _ => 0) j) none = none
    rw [phi_zero j]
    rfl

/-! ### the colours of a jar, one after the other -/
def colsOf (n : Nat → Nat) (k : Nat) : List Nat := (List.range k).filter fun c => decide (0 < n c)
theorem phi_cols {t} {g n : Nat → Nat} : ∀ k, (colsOf n k).foldl (fun acc c => mul t acc (pw t (some (g c)) (n c))) none = Phi t g n k
  | 0 => rfl
  | k + 1 => by
    unfold colsOf
    rw [List.range_succ, List.filter_append, List.foldl_append]
    show List.foldl _ (List.foldl _ none (colsOf n k)) _ = _
    rw [phi_cols k]
    by_cases h : 0 < n k
    · rw [List.filter_cons, if_pos (decide_eq_true h)]
      rfl
    · rw [List.filter_cons, if_neg (by simpa using h)]
      have e : n k = 0 := by omega
      show Phi t g n k = mul t (Phi t g n k) (pw t (some (g k)) (n k))
      rw [e]
      exact (mul_none _).symm

/-! ### quotients -/
structure Quot (k : Nat) (t : Nat → Nat → Nat) (m : Nat) (g : Nat → Nat) (q : Nat → Nat → Nat) : Prop where
  pos : 1 ≤ m
  le : m ≤ 8
  lt : ∀ c, c < k → g c < m
  on : ∀ i, i < m → ∃ c, c < k ∧ g c = i
  hom : ∀ a b, a < k → b < k → q (g a) (g b) = g (t a b)
  dis : ∀ a b c, a < k → b < k → c < k → g (t (t a b) c) = g (t a (t b c))
theorem Quot.good {k t m g q} (Q : Quot k t m g q) (G : Good k t) : Good m q where
  pos := Q.pos
  le := Q.le
  lt := fun i j hi hj => by
    obtain ⟨a, ha, rfl⟩ := Q.on i hi
    obtain ⟨b, hb, rfl⟩ := Q.on j hj
    rw [Q.hom a b ha hb]
    exact Q.lt _ (G.lt a b ha hb)
  sym := fun i j hi hj => by
    obtain ⟨a, ha, rfl⟩ := Q.on i hi
    obtain ⟨b, hb, rfl⟩ := Q.on j hj
    rw [Q.hom a b ha hb, Q.hom b a hb ha, G.sym a b ha hb]
theorem Quot.assoc {k t m g q} (Q : Quot k t m g q) (G : Good k t) : Assoc m q := fun i j l hi hj hl => by
  obtain ⟨a, ha, rfl⟩ := Q.on i hi
  obtain ⟨b, hb, rfl⟩ := Q.on j hj
  obtain ⟨c, hc, rfl⟩ := Q.on l hl
  rw [Q.hom a b ha hb, Q.hom _ c (G.lt a b ha hb) hc, Q.hom b c hb hc, Q.hom a _ ha (G.lt b c hb hc), Q.dis a b c ha hb hc]
/-- a draw keeps the product -/
theorem phi_draw {k t m g q} (Q : Quot k t m g q) (G : Good k t) {n : Nat → Nat} {a b : Nat} (ha : a < k) (hb : b < k) : Phi q g (bump (bump n a) b) k = Phi q g (bump n (t a b)) k := by
  have Gm := Q.good G
  have A := Q.assoc G
  have hg : ∀ i, i < k → g i < m := fun i hi => Q.lt i hi
  rw [phi_bump Gm A k hg hb, phi_bump Gm A k hg ha, phi_bump Gm A k hg (G.lt a b ha hb), mul_assoc A (phi_in Gm k hg) (show In m (some (g a)) from hg a ha) (show In m (some (g b)) from hg b hb)]
  show mul q _ (some (q (g a) (g b))) = _
  rw [Q.hom a b ha hb]
theorem phi_single {k t m g q} (Q : Quot k t m g q) (G : Good k t) {c : Nat} (hc : c < k) : Phi q g (bump (fun _ => 0) c) k = some (g c) := by
  rw [phi_bump (Q.good G) (Q.assoc G) k (fun i hi => Q.lt i hi) hc, phi_zero]
  rfl

/-! ### the groups by the forest: names, waiting pairs -/
def triples (k : Nat) : List (Nat × Nat × Nat) := (List.range k).flatMap fun a => (List.range k).flatMap fun b => (List.range k).map fun c => (a, b, c)
def testOf (t : Nat → Nat → Nat) (x : Nat × Nat × Nat) : Nat × Nat := (t (t x.1 x.2.1) x.2.2, t x.1 (t x.2.1 x.2.2))
def apart (p : Nat × Nat) : Bool := !decide (p.1 = p.2)
def tests (k : Nat) (t : Nat → Nat → Nat) : List (Nat × Nat) := ((triples k).map (testOf t)).filter apart
def puts (k : Nat) (t : Nat → Nat → Nat) (p : Nat × Nat) : List (Nat × Nat) := ((List.range k).map fun c => (t p.1 c, t p.2 c)).filter apart
def nmAt (nm : List Nat) (c : Nat) : Nat := nm.getD c 0
def merge (nm : List Nat) (x y : Nat) : List Nat := nm.map fun z => if z = x ∨ z = y then min x y else z
def go (k : Nat) (t : Nat → Nat → Nat) : Nat → List Nat → List (Nat × Nat) → List Nat
  | 0, nm, _ => nm
  | _ + 1, nm, [] => nm
  | n + 1, nm, p :: w => if nmAt nm p.1 = nmAt nm p.2 then go k t n nm w else go k t n (merge nm (nmAt nm p.1) (nmAt nm p.2)) (w ++ puts k t p)
/-- how many names are in use -/
def used (k : Nat) (nm : List Nat) : Nat := ((List.range k).filter fun v => decide (v ∈ nm)).length
def mu (k : Nat) (nm : List Nat) (w : List (Nat × Nat)) : Nat := w.length + (k + 1) * used k nm
def fuel0 (k : Nat) (t : Nat → Nat → Nat) : Nat := mu k (List.range k) (tests k t)
/-- the names of the groups -/
def names (k : Nat) (t : Nat → Nat → Nat) : List Nat := go k t (fuel0 k t) (List.range k) (tests k t)

theorem nmAt_mem {nm : List Nat} {c : Nat} (h : c < nm.length) : nmAt nm c ∈ nm := by
  unfold nmAt
  rw [List.getD_eq_getElem?_getD, List.getElem?_eq_getElem h]
  exact List.getElem_mem h
theorem nmAt_merge {nm : List Nat} {x y c : Nat} (h : c < nm.length) : nmAt (merge nm x y) c = if nmAt nm c = x ∨ nmAt nm c = y then min x y else nmAt nm c := by
  unfold nmAt merge
  rw [List.getD_eq_getElem?_getD, List.getElem?_map, List.getElem?_eq_getElem h, List.getD_eq_getElem?_getD, List.getElem?_eq_getElem h]
  rfl
theorem mem_merge {nm : List Nat} {x y v : Nat} (hx : x ∈ nm) (hy : y ∈ nm) (h : v ∈ merge nm x y) : v ∈ nm := by
  unfold merge at h
  obtain ⟨z, hz, rfl⟩ := List.mem_map.mp h
  by_cases c : z = x ∨ z = y
  · rw [if_pos c]
    rcases Nat.le_total x y with l | l
    · rw [Nat.min_eq_left l]; exact hx
    · rw [Nat.min_eq_right l]; exact hy
  · rw [if_neg c]; exact hz
theorem max_gone {nm : List Nat} {x y : Nat} (h : x ≠ y) : max x y ∉ merge nm x y := fun hm => by
  unfold merge at hm
  obtain ⟨z, hz, e⟩ := List.mem_map.mp hm
  by_cases c : z = x ∨ z = y
  · rw [if_pos c] at e
    omega
  · rw [if_neg c] at e
    omega
theorem filter_len_lt {α : Type} (l : List α) (p q : α → Bool) (h : ∀ x, p x = true → q x = true) {y : α} (hy : y ∈ l) (hq : q y = true) (hp : p y = false) : (l.filter p).length < (l.filter q).length := by
  induction l with
  | nil => cases hy
  | cons a r ih =>
    have le : ∀ l : List α, (l.filter p).length ≤ (l.filter q).length := fun l => by
      induction l with
      | nil => exact Nat.le_refl _
      | cons a r ih =>
        rw [List.filter_cons, List.filter_cons]
        by_cases c : p a = true
        · rw [if_pos c, if_pos (h a c)]; simpa using ih
        · rw [if_neg c]
          by_cases d : q a = true
          · rw [if_pos d, List.length_cons]; omega
          · rw [if_neg d]; exact ih
    rw [List.filter_cons, List.filter_cons]
    rcases List.mem_cons.mp hy with e | e
    · subst e
      rw [if_neg (by rw [hp]; decide), if_pos hq, List.length_cons]
      have := le r
      omega
    · have ih' := ih e
      by_cases c : p a = true
      · rw [if_pos c, if_pos (h a c)]; simpa using ih'
      · rw [if_neg c]
        by_cases d : q a = true
        · rw [if_pos d, List.length_cons]; omega
        · rw [if_neg d]; exact ih'
theorem used_merge {k : Nat} {nm : List Nat} {x y : Nat} (hx : x ∈ nm) (hy : y ∈ nm) (hk : ∀ v ∈ nm, v < k) (h : x ≠ y) : used k (merge nm x y) < used k nm := by
  have hm : max x y ∈ nm := by
    rcases Nat.le_total x y with l | l
    · rw [Nat.max_eq_right l]; exact hy
    · rw [Nat.max_eq_left l]; exact hx
  exact filter_len_lt (List.range k) _ _ (fun v hv => decide_eq_true (mem_merge hx hy (of_decide_eq_true hv))) (List.mem_range.mpr (hk _ hm)) (decide_eq_true hm) (decide_eq_false (max_gone h))
theorem puts_len (k : Nat) (t : Nat → Nat → Nat) (p : Nat × Nat) : (puts k t p).length ≤ k := by
  unfold puts
  refine Nat.le_trans (List.length_filter_le _ _) ?_
  rw [List.length_map, List.length_range]
  exact Nat.le_refl _
theorem mu_drop {k : Nat} {nm : List Nat} {p : Nat × Nat} {w : List (Nat × Nat)} : mu k nm w < mu k nm (p :: w) := by
  unfold mu
  rw [List.length_cons]
  omega
theorem mu_join {k : Nat} {t : Nat → Nat → Nat} {nm : List Nat} {p : Nat × Nat} {w : List (Nat × Nat)} {x y : Nat} (hx : x ∈ nm) (hy : y ∈ nm) (hk : ∀ v ∈ nm, v < k) (h : x ≠ y) : mu k (merge nm x y) (w ++ puts k t p) < mu k nm (p :: w) := by
  have h1 := used_merge hx hy hk h
  have h2 := puts_len k t p
  unfold mu
  rw [List.length_append, List.length_cons]
  have h3 : (k + 1) * (used k (merge nm x y) + 1) ≤ (k + 1) * used k nm := Nat.mul_le_mul_left _ h1
  rw [Nat.mul_succ] at h3
  omega

/-! ### closure -/
inductive Cl (R : Nat → Nat → Prop) : Nat → Nat → Prop
  | base {x y} : R x y → Cl R x y
  | refl {x} : Cl R x x
  | symm {x y} : Cl R x y → Cl R y x
  | trans {x y z} : Cl R x y → Cl R y z → Cl R x z
theorem Cl.lift {R S : Nat → Nat → Prop} (h : ∀ x y, R x y → Cl S x y) {x y : Nat} (c : Cl R x y) : Cl S x y := by
  induction c with
  | base r => exact h _ _ r
  | refl => exact .refl
  | symm _ ih => exact .symm ih
  | trans _ _ ih1 ih2 => exact .trans ih1 ih2
/-- linked so far: by the names, or by what waits -/
def Lk (nm : List Nat) (w : List (Nat × Nat)) (x y : Nat) : Prop := nmAt nm x = nmAt nm y ∨ (x, y) ∈ w
structure FInv (k : Nat) (t : Nat → Nat → Nat) (nm : List Nat) (w : List (Nat × Nat)) : Prop where
  len : nm.length = k
  lt : ∀ v ∈ nm, v < k
  wlt : ∀ p ∈ w, p.1 < k ∧ p.2 < k
  con : ∀ x y c, x < k → y < k → c < k → nmAt nm x = nmAt nm y → Cl (Lk nm w) (t x c) (t y c)
  tst : ∀ a b c, a < k → b < k → c < k → Cl (Lk nm w) (t (t a b) c) (t a (t b c))
theorem mem_puts {k t p x y} : (x, y) ∈ puts k t p ↔ (∃ c, c < k ∧ x = t p.1 c ∧ y = t p.2 c) ∧ x ≠ y := by
  unfold puts apart
  rw [List.mem_filter, List.mem_map]
  constructor
  · rintro ⟨⟨c, hc, e⟩, h⟩
    cases e
    exact ⟨⟨c, List.mem_range.mp hc, rfl, rfl⟩, by simpa using h⟩
  · rintro ⟨⟨c, hc, rfl, rfl⟩, h⟩
    exact ⟨⟨c, List.mem_range.mpr hc, rfl⟩, by simpa using h⟩
theorem mem_triples {k a b c} : (a, b, c) ∈ triples k ↔ a < k ∧ b < k ∧ c < k := by
  unfold triples
  rw [List.mem_flatMap]
  constructor
  · rintro ⟨a', ha, h⟩
    obtain ⟨b', hb, h⟩ := List.mem_flatMap.mp h
    obtain ⟨c', hc, h⟩ := List.mem_map.mp h
    cases h
    exact ⟨List.mem_range.mp ha, List.mem_range.mp hb, List.mem_range.mp hc⟩
  · rintro ⟨ha, hb, hc⟩
    exact ⟨a, List.mem_range.mpr ha, List.mem_flatMap.mpr ⟨b, List.mem_range.mpr hb, List.mem_map.mpr ⟨c, List.mem_range.mpr hc, rfl⟩⟩⟩
theorem mem_tests {k t x y} : (x, y) ∈ tests k t ↔ (∃ a b c, a < k ∧ b < k ∧ c < k ∧ x = t (t a b) c ∧ y = t a (t b c)) ∧ x ≠ y := by
  unfold tests apart
  rw [List.mem_filter, List.mem_map]
  constructor
  · rintro ⟨⟨⟨a, b, c⟩, hc, e⟩, h⟩
    cases e
    obtain ⟨h1, h2, h3⟩ := mem_triples.mp hc
    exact ⟨⟨a, b, c, h1, h2, h3, rfl, rfl⟩, by simpa using h⟩
  · rintro ⟨⟨a, b, c, h1, h2, h3, rfl, rfl⟩, h⟩
    exact ⟨⟨(a, b, c), mem_triples.mpr ⟨h1, h2, h3⟩, rfl⟩, by simpa using h⟩
theorem FInv.drop {k t nm p w} (I : FInv k t nm (p :: w)) (e : nmAt nm p.1 = nmAt nm p.2) : FInv k t nm w := by
  have up : ∀ x y, Lk nm (p :: w) x y → Cl (Lk nm w) x y := fun x y h => by
    rcases h with h | h
    · exact .base (.inl h)
    · rcases List.mem_cons.mp h with h | h
      · cases h; exact .base (.inl e)
      · exact .base (.inr h)
  exact ⟨I.len, I.lt, fun q hq => I.wlt q (List.mem_cons_of_mem _ hq), fun x y c hx hy hc h => (I.con x y c hx hy hc h).lift up, fun a b c ha hb hc => (I.tst a b c ha hb hc).lift up⟩
theorem FInv.join {k t nm p w} (G : Good k t) (I : FInv k t nm (p :: w)) : FInv k t (merge nm (nmAt nm p.1) (nmAt nm p.2)) (w ++ puts k t p) := by
  obtain ⟨p1, p2⟩ := I.wlt p List.mem_cons_self
  have hx : nmAt nm p.1 ∈ nm := nmAt_mem (by rw [I.len]; exact p1)
  have hy : nmAt nm p.2 ∈ nm := nmAt_mem (by rw [I.len]; exact p2)
  generalize hX : nmAt nm p.1 = X at *
  generalize hY : nmAt nm p.2 = Y at *
  have at_ : ∀ c, c < k → nmAt (merge nm X Y) c = if nmAt nm c = X ∨ nmAt nm c = Y then min X Y else nmAt nm c := fun c hc => nmAt_merge (by rw [I.len]; exact hc)
  -- all colours below k or not: outside names are 0; the merged names there are the same place's
  have keep : ∀ x y, nmAt nm x = nmAt nm y → nmAt (merge nm X Y) x = nmAt (merge nm X Y) y := fun x y h => by
    by_cases cx : x < k
    · by_cases cy : y < k
      · rw [at_ x cx, at_ y cy, h]
      · have e0 : nmAt nm y = 0 := by unfold nmAt; rw [List.getD_eq_getElem?_getD, List.getElem?_eq_none (by rw [I.len]; omega)]; rfl
        have e1 : nmAt (merge nm X Y) y = 0 := by unfold nmAt; rw [List.getD_eq_getElem?_getD, List.getElem?_eq_none (by unfold merge; rw [List.length_map, I.len]; omega)]; rfl
        rw [at_ x cx, e1, h, e0]
        by_cases c : 0 = X ∨ 0 = Y
        · rw [if_pos c]; omega
        · rw [if_neg c]
    · have e0 : nmAt nm x = 0 := by unfold nmAt; rw [List.getD_eq_getElem?_getD, List.getElem?_eq_none (by rw [I.len]; omega)]; rfl
      have e1 : nmAt (merge nm X Y) x = 0 := by unfold nmAt; rw [List.getD_eq_getElem?_getD, List.getElem?_eq_none (by unfold merge; rw [List.length_map, I.len]; omega)]; rfl
      by_cases cy : y < k
      · rw [at_ y cy, e1, ← h, e0]
        by_cases c : 0 = X ∨ 0 = Y
        · rw [if_pos c]; omega
        · rw [if_neg c]
      · have e2 : nmAt (merge nm X Y) y = 0 := by unfold nmAt; rw [List.getD_eq_getElem?_getD, List.getElem?_eq_none (by unfold merge; rw [List.length_map, I.len]; omega)]; rfl
        rw [e1, e2]
  have link : nmAt (merge nm X Y) p.1 = nmAt (merge nm X Y) p.2 := by
    rw [at_ _ p1, at_ _ p2, hX, hY, if_pos (.inl rfl), if_pos (.inr rfl)]
  have up : ∀ x y, Lk nm (p :: w) x y → Cl (Lk (merge nm X Y) (w ++ puts k t p)) x y := fun x y h => by
    rcases h with h | h
    · exact .base (.inl (keep x y h))
    · rcases List.mem_cons.mp h with h | h
      · cases h; exact .base (.inl link)
      · exact .base (.inr (List.mem_append_left _ h))
  have put : ∀ c, c < k → Cl (Lk (merge nm X Y) (w ++ puts k t p)) (t p.1 c) (t p.2 c) := fun c hc => by
    by_cases e : t p.1 c = t p.2 c
    · rw [e]; exact .refl
    · exact .base (.inr (List.mem_append_right _ (mem_puts.mpr ⟨⟨c, hc, rfl, rfl⟩, e⟩)))
  have old : ∀ x y c, x < k → y < k → c < k → nmAt nm x = nmAt nm y → Cl (Lk (merge nm X Y) (w ++ puts k t p)) (t x c) (t y c) := fun x y c hx hy hc h => (I.con x y c hx hy hc h).lift up
  refine ⟨by unfold merge; rw [List.length_map, I.len], fun v hv => I.lt v (mem_merge hx hy hv), fun q hq => ?_, fun x y c hx' hy' hc h => ?_, fun a b c ha hb hc => (I.tst a b c ha hb hc).lift up⟩
  · rcases List.mem_append.mp hq with hq | hq
    · exact I.wlt q (List.mem_cons_of_mem _ hq)
    · obtain ⟨⟨c, hc, e1, e2⟩, _⟩ := mem_puts (x := q.1) (y := q.2) |>.mp hq
      rw [e1, e2]
      exact ⟨G.lt _ _ p1 hc, G.lt _ _ p2 hc⟩
  · rw [at_ x hx', at_ y hy'] at h
    by_cases cx : nmAt nm x = X ∨ nmAt nm x = Y
    · by_cases cy : nmAt nm y = X ∨ nmAt nm y = Y
      · have P := put c hc
        have toX : ∀ z, z < k → (nmAt nm z = X ∨ nmAt nm z = Y) → Cl (Lk (merge nm X Y) (w ++ puts k t p)) (t z c) (t p.1 c) := fun z hz hh => by
          rcases hh with hh | hh
          · exact old z p.1 c hz p1 hc (hh.trans hX.symm)
          · exact .trans (old z p.2 c hz p2 hc (hh.trans hY.symm)) (.symm P)
        exact .trans (toX x hx' cx) (.symm (toX y hy' cy))
      · rw [if_pos cx, if_neg cy] at h
        omega
    · by_cases cy : nmAt nm y = X ∨ nmAt nm y = Y
      · rw [if_neg cx, if_pos cy] at h
        omega
      · rw [if_neg cx, if_neg cy] at h
        exact old x y c hx' hy' hc h
theorem nmAt_range {k c : Nat} (h : c < k) : nmAt (List.range k) c = c := by
  unfold nmAt
  rw [List.getD_eq_getElem?_getD, List.getElem?_range h]
  rfl
theorem FInv.start {k t} (G : Good k t) : FInv k t (List.range k) (tests k t) where
  len := List.length_range
  lt := fun v hv => List.mem_range.mp hv
  wlt := fun p hp => by
    obtain ⟨⟨a, b, c, ha, hb, hc, e1, e2⟩, _⟩ := mem_tests (x := p.1) (y := p.2) |>.mp hp
    rw [e1, e2]
    exact ⟨G.lt _ _ (G.lt _ _ ha hb) hc, G.lt _ _ ha (G.lt _ _ hb hc)⟩
  con := fun x y c hx hy hc h => by
    rw [nmAt_range hx, nmAt_range hy] at h
    rw [h]
    exact .refl
  tst := fun a b c ha hb hc => by
    by_cases e : t (t a b) c = t a (t b c)
    · rw [e]; exact .refl
    · exact .base (.inr (mem_tests.mpr ⟨⟨a, b, c, ha, hb, hc, rfl, rfl⟩, e⟩))
theorem go_inv {k t} (G : Good k t) : ∀ n nm w, FInv k t nm w → mu k nm w ≤ n → FInv k t (go k t n nm w) []
  | 0, nm, w, I, h => by
    have e : w = [] := by
      cases w with
      | nil => rfl
      | cons p w => unfold mu at h; rw [List.length_cons] at h; omega
    subst e
    exact I
  | n + 1, nm, [], I, _ => I
  | n + 1, nm, p :: w, I, h => by
    unfold go
    by_cases e : nmAt nm p.1 = nmAt nm p.2
    · rw [if_pos e]
      exact go_inv G n nm w (I.drop e) (by have := mu_drop (k := k) (nm := nm) (p := p) (w := w); omega)
    · rw [if_neg e]
      obtain ⟨p1, p2⟩ := I.wlt p List.mem_cons_self
      exact go_inv G n _ _ (I.join G) (by
        have := mu_join (t := t) (p := p) (w := w) (nmAt_mem (by rw [I.len]; exact p1)) (nmAt_mem (by rw [I.len]; exact p2)) I.lt e
        omega)
/-- what the names are -/
structure Names (k : Nat) (t : Nat → Nat → Nat) (nm : List Nat) : Prop where
  len : nm.length = k
  lt : ∀ v ∈ nm, v < k
  con : ∀ x y c, x < k → y < k → c < k → nmAt nm x = nmAt nm y → nmAt nm (t x c) = nmAt nm (t y c)
  tst : ∀ a b c, a < k → b < k → c < k → nmAt nm (t (t a b) c) = nmAt nm (t a (t b c))
theorem names_ok {k t} (G : Good k t) : Names k t (names k t) := by
  have I : FInv k t (names k t) [] := go_inv G _ _ _ (.start G) (Nat.le_refl _)
  have cl : ∀ {x y}, Cl (Lk (names k t) []) x y → nmAt (names k t) x = nmAt (names k t) y := fun {x y} c => by
    induction c with
    | base r => exact r.elim (fun h => h) fun h => by cases h
    | refl => rfl
    | symm _ ih => exact ih.symm
    | trans _ _ ih1 ih2 => exact ih1.trans ih2
  exact ⟨I.len, I.lt, fun x y c hx hy hc h => cl (I.con x y c hx hy hc h), fun a b c ha hb hc => cl (I.tst a b c ha hb hc)⟩
theorem tests_nil {k t} (A : Assoc k t) : tests k t = [] := by
  rw [List.eq_nil_iff_forall_not_mem]
  rintro ⟨x, y⟩ h
  obtain ⟨⟨a, b, c, ha, hb, hc, rfl, rfl⟩, ne⟩ := mem_tests.mp h
  exact ne (A a b c ha hb hc)
theorem go_nil {k t} : ∀ n nm, go k t n nm [] = nm
  | 0, _ => rfl
  | _ + 1, _ => rfl
theorem names_assoc {k t} (A : Assoc k t) : names k t = List.range k := by
  unfold names
  rw [tests_nil A, go_nil]

/-! ### groups, numbers, the quotient -/
theorem idxOf_at {l : List Nat} (hN : l.Nodup) {i v : Nat} (h : l[i]? = some v) : l.idxOf v = i := by
  obtain ⟨hi, e⟩ := List.getElem?_eq_some_iff.mp h
  have hm : v ∈ l := by rw [← e]; exact List.getElem_mem hi
  have hl := List.idxOf_lt_length_iff.mpr hm
  have e2 : l[l.idxOf v] = l[i] := (List.getElem_idxOf hl).trans e.symm
  exact (List.getElem_inj hN).mp e2
def heads (k : Nat) (t : Nat → Nat → Nat) : List Nat := (List.range k).filter fun v => decide (v ∈ names k t)
def groupOf (k : Nat) (t : Nat → Nat → Nat) (v : Nat) : List Nat := (List.range k).filter fun c => decide (nmAt (names k t) c = v)
def grps (k : Nat) (t : Nat → Nat → Nat) : List (List Nat) := (heads k t).map (groupOf k t)
def gn (k : Nat) (t : Nat → Nat → Nat) (c : Nat) : Nat := (heads k t).idxOf (nmAt (names k t) c)
def rep (k : Nat) (t : Nat → Nat → Nat) (i : Nat) : Nat := ((grps k t).getD i []).headD 0
def quo (k : Nat) (t : Nat → Nat → Nat) (i j : Nat) : Nat := gn k t (t (rep k t i) (rep k t j))
def ng (k : Nat) (t : Nat → Nat → Nat) : Nat := (heads k t).length
theorem heads_nodup (k t) : (heads k t).Nodup := List.Nodup.sublist List.filter_sublist List.nodup_range
theorem mem_heads {k t} (G : Good k t) {v : Nat} : v ∈ heads k t ↔ v ∈ names k t := by
  unfold heads
  rw [List.mem_filter]
  exact ⟨fun h => of_decide_eq_true h.2, fun h => ⟨List.mem_range.mpr ((names_ok G).lt v h), decide_eq_true h⟩⟩
theorem head_in {k t} (G : Good k t) {c : Nat} (hc : c < k) : nmAt (names k t) c ∈ heads k t := (mem_heads G).mpr (nmAt_mem (by rw [(names_ok G).len]; exact hc))
theorem gn_lt {k t} (G : Good k t) {c : Nat} (hc : c < k) : gn k t c < ng k t := List.idxOf_lt_length_iff.mpr (head_in G hc)
theorem gn_at {k t} (G : Good k t) {c : Nat} (hc : c < k) : (heads k t)[gn k t c]? = some (nmAt (names k t) c) := by
  have h := gn_lt G hc
  unfold ng at h
  rw [List.getElem?_eq_getElem h]
  exact congrArg some (List.getElem_idxOf h)
theorem gn_of {k t} {i v : Nat} (h : (heads k t)[i]? = some v) : (heads k t).idxOf v = i := idxOf_at (heads_nodup k t) h
theorem gn_eq {k t} (G : Good k t) {a b : Nat} (ha : a < k) (hb : b < k) : gn k t a = gn k t b ↔ nmAt (names k t) a = nmAt (names k t) b := by
  constructor
  · intro h
    have h1 := gn_at G ha
    have h2 := gn_at G hb
    rw [h, h2] at h1
    exact (Option.some.inj h1).symm
  · intro h
    unfold gn
    rw [h]
theorem mem_groupOf {k t v c} : c ∈ groupOf k t v ↔ c < k ∧ nmAt (names k t) c = v := by
  unfold groupOf
  rw [List.mem_filter, List.mem_range]
  exact ⟨fun h => ⟨h.1, of_decide_eq_true h.2⟩, fun h => ⟨h.1, decide_eq_true h.2⟩⟩
theorem grps_at {k : Nat} {t : Nat → Nat → Nat} {i v : Nat} (h : (heads k t)[i]? = some v) : (grps k t)[i]? = some (groupOf k t v) := by
  unfold grps
  rw [List.getElem?_map, h]
  rfl
/-- c is in group i exactly if i is its number -/
theorem in_group {k t} (G : Good k t) {i c : Nat} {g : List Nat} (h : (grps k t)[i]? = some g) (hc : c < k) : c ∈ g ↔ gn k t c = i := by
  unfold grps at h
  rw [List.getElem?_map] at h
  cases e : (heads k t)[i]? with
  | none => rw [e] at h; cases h
  | some v =>
    rw [e] at h
    obtain rfl : groupOf k t v = g := Option.some.inj h
    rw [mem_groupOf]
    constructor
    · rintro ⟨_, e2⟩
      unfold gn
      rw [e2]
      exact gn_of e
    · intro e2
      have q := gn_at G hc
      rw [e2, e] at q
      exact ⟨hc, (Option.some.inj q).symm⟩
theorem group_ne {k t} (G : Good k t) {v : Nat} (h : v ∈ heads k t) : groupOf k t v ≠ [] := fun e => by
  have h1 := (mem_heads G).mp h
  obtain ⟨c, hc, e2⟩ := List.mem_iff_getElem.mp h1
  have hk : c < k := by rw [← (names_ok G).len]; exact hc
  have : c ∈ groupOf k t v := mem_groupOf.mpr ⟨hk, by unfold nmAt; rw [List.getD_eq_getElem?_getD, List.getElem?_eq_getElem hc]; exact e2⟩
  rw [e] at this
  cases this
theorem rep_ok {k t} (G : Good k t) {i : Nat} (hi : i < ng k t) : rep k t i < k ∧ gn k t (rep k t i) = i := by
  have e : (heads k t)[i]? = some (heads k t)[i] := List.getElem?_eq_getElem hi
  have h := grps_at e
  have hm : (heads k t)[i] ∈ heads k t := List.getElem_mem hi
  have hr : rep k t i ∈ groupOf k t (heads k t)[i] := by
    unfold rep
    rw [List.getD_eq_getElem?_getD, h]
    show (groupOf k t (heads k t)[i]).headD 0 ∈ _
    cases q : groupOf k t (heads k t)[i] with
    | nil => exact absurd q (group_ne G hm)
    | cons a r => exact List.mem_cons_self
  obtain ⟨h1, h2⟩ := mem_groupOf.mp hr
  exact ⟨h1, (in_group G h h1).mp hr⟩
theorem ng_le {k t} : ng k t ≤ k := by
  unfold ng heads
  refine Nat.le_trans (List.length_filter_le _ _) ?_
  rw [List.length_range]
  exact Nat.le_refl _
theorem quot_ok {k t} (G : Good k t) : Quot k t (ng k t) (gn k t) (quo k t) where
  pos := Nat.lt_of_le_of_lt (Nat.zero_le _) (gn_lt G (c := 0) (by have := G.pos; omega))
  le := Nat.le_trans ng_le G.le
  lt := fun c hc => gn_lt G hc
  on := fun i hi => ⟨rep k t i, rep_ok G hi⟩
  hom := fun a b ha hb => by
    obtain ⟨r1, e1⟩ := rep_ok G (gn_lt G ha)
    obtain ⟨r2, e2⟩ := rep_ok G (gn_lt G hb)
    have N := names_ok G
    have f1 := (gn_eq G r1 ha).mp e1
    have f2 := (gn_eq G r2 hb).mp e2
    unfold quo
    refine (gn_eq G (G.lt _ _ r1 r2) (G.lt _ _ ha hb)).mpr ?_
    rw [N.con _ _ _ r1 ha r2 f1, G.sym a _ ha r2, N.con _ _ _ r2 hb ha f2, G.sym b a hb ha]
  dis := fun a b c ha hb hc => (gn_eq G (G.lt _ _ (G.lt _ _ ha hb) hc) (G.lt _ _ ha (G.lt _ _ hb hc))).mpr ((names_ok G).tst a b c ha hb hc)
theorem heads_assoc {k t} (A : Assoc k t) : heads k t = List.range k := by
  unfold heads
  rw [names_assoc A]
  exact List.filter_eq_self.mpr fun v hv => decide_eq_true hv
theorem gn_assoc {k t} (A : Assoc k t) {c : Nat} (hc : c < k) : gn k t c = c := by
  unfold gn
  rw [heads_assoc A, names_assoc A, nmAt_range hc]
  exact idxOf_at List.nodup_range (List.getElem?_range hc)
theorem ng_assoc {k t} (A : Assoc k t) : ng k t = k := by
  unfold ng
  rw [heads_assoc A, List.length_range]
theorem quo_assoc {k t} (G : Good k t) (A : Assoc k t) {i j : Nat} (hi : i < k) (hj : j < k) : quo k t i j = t i j := by
  have e : ∀ i, i < k → rep k t i = i := fun i hi => by
    obtain ⟨h1, h2⟩ := rep_ok G (i := i) (by rw [ng_assoc A]; exact hi)
    rw [gn_assoc A h1] at h2
    exact h2
  unfold quo
  rw [e i hi, e j hj, gn_assoc A (G.lt i j hi hj)]
end Bj

set_option maxHeartbeats 4123456
/-! ### instances whose class has its own operators: rules by the def's promise -/
namespace Bj
open PySem PySem.Spec
open PyProof.Rows L2
section
variable {X : Cx} {k : Nat} {f C a dx : Addr} {fs : List (Str × V)} {fd : FuncData} {ps : List Str} {sp : Sp} {pins : List (Addr × Obj)} {σ : L2.St} {H : Hp} {s : Shared}
/-- a def of the text is called one unit further in -/
theorem run_in {Q : VK} {us : List Value} {vs : List V} (F : FnOk X.prog X.w X.K X.mg X.base CX0 k f fd ps sp) (hr : Room (k + 1) X.A) (hb : Binds X.K fd ps []) (I : Inv X pins σ H s) (r : Vals vs us) (h : sp vs H Q E0) :
    wpAny (model X.prog X.w) X.A.in1 (call (.ref f) us) (EP X pins σ Q) X.xe s := by
  have hl : (us ++ []).length = ps.length := by
    rw [List.append_nil, ← r.length]
    exact F.len _ _ _ _ h
  have bb := hb s us I.kIn hl
  rw [List.append_nil] at bb
  refine wpAny_call (codeAny_mono (F.run X.A.in1 X.stack s H ⟨us, []⟩ us vs Q E0 hr.in1 I.env0.in1 bb r h) fun r s' hq => ?_)
  cases r with
  | error e => exact False.elim hq
  | ok fl =>
    cases fl with
    | ret u => exact I.after hq
    | next => exact False.elim hq
    | brk => exact False.elim hq
    | cont => exact False.elim hq
theorem run_at {Q : VK} {us : List Value} {vs : List V} (F : FnOk X.prog X.w X.K X.mg X.base CX0 k f fd ps sp) (hr : Room k X.A) (hb : Binds X.K fd ps []) (I : Inv X pins σ H s) (r : Vals vs us) (h : sp vs H Q E0) :
    wpAny (model X.prog X.w) X.A (call (.ref f) us) (EP X pins σ Q) X.xe s :=
  run_fn (dvs := []) F hr hb .nil pass0 I r (by rw [List.append_nil]; exact h)
theorem inst_at (I : Inv X pins σ H s) (e : H a = some (.ins C dx fs)) : ∃ od, PySem.W.InstAt s.heap a (PySem.W.instObj C dx) C (some od) := by
  obtain ⟨mA, J, _⟩ := ins_get I.hok e
  obtain ⟨od, J, _⟩ := J.look
  exact ⟨od, J⟩
/-- what the text says of a def as a class's own operator -/
structure Dun (K : PySem.W.Frag) (C : Addr) (name : Str) (f : Addr) : Prop where
  at_ : PySem.W.findIn K (.ref C) name = some (some (.ref f))
  fn : PySem.W.isFn K (.ref f) = true

/-! o[i] by __getitem__ -/
def tGetOwn (C : Addr) (sp : Sp) (ta tb : TE) : TE := fun σ H Q => ta σ H fun x H1 => tb σ H1 fun y H2 => ∃ a dx fs, x = .ref a ∧ H2 a = some (.ins C dx fs) ∧ sp [.ref a, y] H2 Q E0
theorem pe_getOwn {o i : Expr} {ta tb : TE} {pos : Pos} (D : Dun X.K C "__getitem__" f) (hi : PySem.W.fnIn X.K f = true) (F : FnOk X.prog X.w X.K X.mg X.base CX0 k f fd ps sp) (hr : Room (k + 1) X.A) (hb : Binds X.K fd ps [])
    (ha : PE X o ta) (hc : PE X i tb) (hsl : ∀ v u : Value, subscripted i true v u = runValue (.builtin "lifetime.subscript" ⟨[v, u], []⟩) := by intro _ _; rfl) : PE X (.Subscript o i pos) (tGetOwn C sp ta tb) := by
  refine ⟨fun pins s σ H Q I h => ?_⟩
  refine Subscript_ (thn (ha.run pins s σ H _ I h) fun v s1 ⟨x, H1, I1, r1, q1⟩ => thn (hc.run pins s1 σ H1 _ I1 q1) fun u s2 ⟨y, H2, I2, r2, a, dx, fs, ex, ea, q2⟩ => ?_)
  subst ex
  obtain rfl : v = Value.ref a := r1
  obtain ⟨od, J⟩ := inst_at I2 ea
  obtain ⟨m, Fm⟩ := I2.fr
  exact PySem.W.sub_K Fm I2.ok.mod.kin J D.at_ hi D.fn (run_in (vs := [.ref a, y]) F hr hb I2 (.cons rfl (.cons r2 .nil)) q2) (hsl _ _)

/-! x in o by __contains__ -/
def rInOwn (C : Addr) (sp : Sp) : R2 := fun x y H Q => ∃ a dx fs, y = .ref a ∧ H a = some (.ins C dx fs) ∧ sp [.ref a, x] H (fun v H' => ∃ b, v = .bl b ∧ Q (.bl b) H') E0
def rNotInOwn (C : Addr) (sp : Sp) : R2 := fun x y H Q => ∃ a dx fs, y = .ref a ∧ H a = some (.ins C dx fs) ∧ sp [.ref a, x] H (fun v H' => ∃ b, v = .bl b ∧ Q (.bl (!b)) H') E0
theorem op_inOwn (D : Dun X.K C "__contains__" f) (F : FnOk X.prog X.w X.K X.mg X.base CX0 k f fd ps sp) (hr : Room k X.A) (hb : Binds X.K fd ps []) : OpR X (compareOp .In) (rInOwn C sp) := by
  intro pins s σ H x y v u Q I rx ry h
  obtain ⟨a, dx, fs, rfl, ea, q⟩ := h
  obtain rfl : u = Value.ref a := ry
  obtain ⟨od, J⟩ := inst_at I ea
  obtain ⟨m, Fm⟩ := I.fr
  refine PySem.W.in_K Fm I.ok.mod.kin J D.at_ D.fn (thn (run_at (vs := [.ref a, x]) F hr hb I (.cons rfl (.cons rx .nil)) q) fun w' s1 ⟨z, H1, I1, rz, b, ez, q1⟩ => ?_)
  subst ez
  cases rz
  exact wpAny_truthy_bool ⟨.bl b, H1, I1, rfl, q1⟩
theorem op_notInOwn (D : Dun X.K C "__contains__" f) (F : FnOk X.prog X.w X.K X.mg X.base CX0 k f fd ps sp) (hr : Room k X.A) (hb : Binds X.K fd ps []) : OpR X (compareOp .NotIn) (rNotInOwn C sp) := by
  intro pins s σ H x y v u Q I rx ry h
  obtain ⟨a, dx, fs, rfl, ea, q⟩ := h
  obtain rfl : u = Value.ref a := ry
  obtain ⟨od, J⟩ := inst_at I ea
  obtain ⟨m, Fm⟩ := I.fr
  refine PySem.W.notIn_K Fm I.ok.mod.kin J D.at_ D.fn (thn (run_at (vs := [.ref a, x]) F hr hb I (.cons rfl (.cons rx .nil)) q) fun w' s1 ⟨z, H1, I1, rz, b, ez, q1⟩ => ?_)
  subst ez
  cases rz
  exact wpAny_truthy_bool ⟨.bl (!b), H1, I1, rfl, q1⟩

/-! the truth of o by __bool__ -/
def tBoolOwn (C : Addr) (sp : Sp) (ta : TE) : TT := fun σ H Q => ta σ H fun x H1 => ∃ a dx fs, x = .ref a ∧ H1 a = some (.ins C dx fs) ∧ sp [.ref a] H1 (fun v H' => ∃ b, v = .bl b ∧ Q b H') E0
theorem pt_boolOwn {e : Expr} {ta : TE} (D : Dun X.K C "__bool__" f) (F : FnOk X.prog X.w X.K X.mg X.base CX0 k f fd ps sp) (hr : Room k X.A) (hb : Binds X.K fd ps []) (ha : PE X e ta)
    (he : ∀ whole, isTrue e X.env whole = (do let v ← whole; standAt e.pos; holding [v] (truthy v)) := by intro _; rfl) : PT X e (tBoolOwn C sp ta) := by
  refine ⟨fun pins s σ H Q I h => ?_⟩
  refine isTrue_plain (thn (ha.run pins s σ H _ I h) fun v s1 ⟨x, H1, I1, r1, a, dx, fs, ex, ea, q⟩ => ?_) (he _)
  subst ex
  obtain rfl : v = Value.ref a := r1
  obtain ⟨od, J⟩ := inst_at I1 ea
  obtain ⟨m, Fm⟩ := I1.fr
  refine PySem.W.truthy_K Fm I1.ok.mod.kin J D.at_ D.fn (thn (run_at (vs := [.ref a]) F hr hb I1 (.cons rfl .nil) q) fun w' s2 ⟨z, H2, I2, rz, b, ez, q2⟩ => ?_)
  subst ez
  cases rz
  exact ⟨H2, I2, q2⟩

/-! o op u, both of one class, by __add__, __sub__ -/
def rBinOwn (C : Addr) (sp : Sp) : R2 := fun x y H Q => ∃ a dx fs b dy gs, x = .ref a ∧ y = .ref b ∧ H a = some (.ins C dx fs) ∧ H b = some (.ins C dy gs) ∧ sp [.ref a, .ref b] H Q E0
theorem op_binOwn {op : Operator} (D : Dun X.K C (PySem.dunder op.info.2) f) (hc : PySem.W.selfFirst X.K C = true) (F : FnOk X.prog X.w X.K X.mg X.base CX0 k f fd ps sp) (hr : Room k X.A) (hb : Binds X.K fd ps []) : OpR X (binaryOp op) (rBinOwn C sp) := by
  intro pins s σ H x y v u Q I rx ry h
  obtain ⟨a, dx, fs, b, dy, gs, rfl, rfl, ea, eb, q⟩ := h
  obtain rfl : v = Value.ref a := rx
  obtain rfl : u = Value.ref b := ry
  obtain ⟨od, J⟩ := inst_at I ea
  obtain ⟨od', J'⟩ := inst_at I eb
  obtain ⟨m, Fm⟩ := I.fr
  refine PySem.W.binop_K Fm I.ok.mod.kin J J'.type hc D.at_ D.fn (thn (run_at (vs := [.ref a, .ref b]) F hr hb I (.cons rfl (.cons rfl .nil)) q) fun w' s1 ⟨z, H1, I1, rz, q1⟩ => ?_)
  have g : EP X pins σ Q w' s1 := ⟨z, H1, I1, rz, q1⟩
  cases z with
  | non => cases rz; exact g
  | bl _ => cases rz; exact g
  | int _ => obtain ⟨t, rfl⟩ := rz; exact g
  | str _ => obtain ⟨t, rfl⟩ := rz; exact g
  | byt _ => obtain ⟨t, rfl⟩ := rz; exact g
  | flt _ => obtain ⟨t, rfl⟩ := rz; exact g
  | ref _ => cases rz; exact g
  | ty _ => cases rz; exact g

/-! cls(..): a local name that holds a class of the text -/
def tMakeL (i : Nat) (C : Addr) (sp : Sp) (t : TA) : TE := fun σ H Q => σ[i]? = some (some (.ref C)) ∧ t σ H fun vs H1 => ∀ x dx, H1 x = none → H1 dx = none → dx ≠ x →
  sp (.ref x :: vs) (upd (upd H1 dx (.own x)) x (.ins C dx [])) (fun v H2 => v = .non ∧ Q (.ref x) H2) E0
theorem pe_makeL {i : Nat} {x : Str} {p pos : Pos} {e : Expr} {es : List Expr} {t : TA} (M : Mk X.K C f) (F : FnOk X.prog X.w X.K X.mg X.base CX0 k f fd ps sp) (hr : Room (k + 1) X.A) (hN : X.N[i]? = some x) (hv : Vis X.env.scope x) (hb : Binds X.K fd ps [])
    (ha : PA X (e :: es) t) (hdb : (x == ("__debug__" : Str)) = false := by decide) (hcd : (x == ("__classdict__" : Str)) = false := by decide)
    (he : starEach (e :: es) X.env = (false, eval e X.env) :: starEach es X.env := by rfl) (hpl : (backTo pos (starEach es X.env)).any (·.1) = false := by rfl) :
    PE X (.Call (.Name x p) (e :: es) [] pos) (tMakeL i C sp t) := by
  refine ⟨fun pins s σ H Q I h => ?_⟩
  obtain ⟨hs, ht⟩ := h
  refine wpAny_Call_Name_kw (thn ((pe_var (pos := p) hN hv hdb hcd).run pins s σ H (fun v H1 => v = .ref C ∧ H1 = H) I ⟨.ref C, hs, rfl, rfl⟩) fun u s1 ⟨v, H1, I1, r1, q1⟩ => ?_)
  obtain ⟨rfl, rfl⟩ := q1
  cases r1
  refine PySem.W.callWith_K (h₀ := X.base) I.ok.mod.kin M.kp (thn (ha.run pos pins s1 σ _ _ I1 ht) fun us s2 ⟨vs, H2, I2, r, q⟩ => ⟨I2.kIn, ?_⟩) he hpl
  refine run_make (dvs := []) M F hr hb .nil pass0 I2 r fun y dy n1 n2 n3 => ?_
  rw [List.append_nil]
  exact q y dy n1 n2 n3

/-! xs[i] op= e, a list -/
def rGetL (K : PySem.W.Frag) : V → V → Hp → VK → Prop := fun x y H Q => ∃ (p : Addr) (xs : List V) (j : Nat) (v : V), x = .ref p ∧ y = .int (j : Int) ∧ SqL K H p xs ∧ xs[j]? = some v ∧ Q v H
theorem get_list : PGet X (rGetL X.K) := by
  intro pins s σ H x y v u Q I rx ry h
  obtain ⟨p, xs, j, z, rfl, rfl, hq, he, q⟩ := h
  cases rx
  obtain ⟨t, rfl⟩ := ry
  obtain ⟨its, r, pl, hz⟩ := I.list hq
  obtain ⟨w, ew, rw'⟩ := r.get he
  have hn := line63
  have hj := (List.getElem?_eq_some_iff.mp he).1
  exact wpAny_getItem_list pl.isList (by omega) (by omega) (by simpa using ew) ⟨z, H, I, rw', q⟩
end
end Bj

/-! ### a list comprehension with three clauses -/
namespace Bj
open PySem PySem.Spec
open PyProof.Rows L2
/-- a turn of a clause: K what comes behind the store and the tests, ahead of the next turn -/
def turnK (tg : Expr) (ifs : List Expr) (p : Pos) (e : Expr) (d : Nat) (it acc : Value) (env : Env) (K : Sem Fin → Sem Fin) : Sem Fin := do
  standAt p
  match ← pyNext it with
  | none => pure (.done .next)
  | some v => do
    letOwnedTupleGo tg it v
    assign tg env v
    let ok ← forIn ifs true fun c r => if r = true then do let ok ← isTrue c env (eval c env); pure (ForInStep.yield ok) else pure (ForInStep.yield r)
    if ok = true then K (again (.compLoop e d it acc env)) else again (.compLoop e d it acc env)
/-- the next clause's loop, then what follows -/
def nextK (i : Expr) (e : Expr) (d : Nat) (acc : Value) (env : Env) (rest : Sem Fin) : Sem Fin := do
  let x ← eval i env
  standAt i.pos
  let x ← foldedSetIterable i env x
  let _ ← runOwn (.compStart e d (← holding [x] (pyIter x)) acc env) env
  rest
/-- the item appended, then what follows -/
def emitK (elt : Expr) (acc : Value) (env : Env) (rest : Sem Fin) : Sem Fin := (do let _ ← call (.builtin "list.append") [acc, ← eval elt env]) >>= fun _ => rest
section
variable (elt t0 i0 t1 i1 t2 i2 : Expr) (f0 f1 f2 : List Expr) (scope : Scope) (pos : Pos) (it acc : Value) (env : Env)
theorem turn3_0 : compTurn (.ListComp elt [⟨t0, i0, f0, 0⟩, ⟨t1, i1, f1, 0⟩, ⟨t2, i2, f2, 0⟩] scope pos) 0 it acc env =
    turnK t0 f0 i0.pos (.ListComp elt [⟨t0, i0, f0, 0⟩, ⟨t1, i1, f1, 0⟩, ⟨t2, i2, f2, 0⟩] scope pos) 0 it acc env (nextK i1 (.ListComp elt [⟨t0, i0, f0, 0⟩, ⟨t1, i1, f1, 0⟩, ⟨t2, i2, f2, 0⟩] scope pos) 1 acc env) := by rfl
theorem turn3_1 : compTurn (.ListComp elt [⟨t0, i0, f0, 0⟩, ⟨t1, i1, f1, 0⟩, ⟨t2, i2, f2, 0⟩] scope pos) 1 it acc env =
    turnK t1 f1 i1.pos (.ListComp elt [⟨t0, i0, f0, 0⟩, ⟨t1, i1, f1, 0⟩, ⟨t2, i2, f2, 0⟩] scope pos) 1 it acc env (nextK i2 (.ListComp elt [⟨t0, i0, f0, 0⟩, ⟨t1, i1, f1, 0⟩, ⟨t2, i2, f2, 0⟩] scope pos) 2 acc env) := by rfl
theorem turn3_2 : compTurn (.ListComp elt [⟨t0, i0, f0, 0⟩, ⟨t1, i1, f1, 0⟩, ⟨t2, i2, f2, 0⟩] scope pos) 2 it acc env =
    turnK t2 f2 i2.pos (.ListComp elt [⟨t0, i0, f0, 0⟩, ⟨t1, i1, f1, 0⟩, ⟨t2, i2, f2, 0⟩] scope pos) 2 it acc env (emitK elt acc env) := by rfl
end
section
variable {prog : Program} {w : World} {A : Around} {R : Result → Shared → Prop} {s : Shared} {elt tg : Expr} {gs : List Comprehension} {ifs : List Expr} {scope : Scope} {pos p : Pos} {d : Nat} {it acc : Value} {env : Env} {K : Sem Fin → Sem Fin}
theorem loopK (ht : compTurn (.ListComp elt gs scope pos) d it acc env = turnK tg ifs p (.ListComp elt gs scope pos) d it acc env K) (I : Nat → Shared → Prop)
    (turn : ∀ n s, I n s → wpAny (model prog w) A (pyNext it) (fun r s₁ => match r with
      | none => R (.ok .next) s₁
      | some v => wpAny (model prog w) A (letOwnedTupleGo tg it v) (fun _ s₂ => wpAny (model prog w) A (assign tg env v) (fun _ s₃ =>
          wpAny (model prog w) A (forIn ifs true fun c r => if r = true then do let ok ← isTrue c env (eval c env); pure (ForInStep.yield ok) else pure (ForInStep.yield r)) (fun ok s₄ =>
            if ok = true then ∀ (rest : Sem Fin) (Q : Fin → Shared → Prop) (E : Value → Shared → Prop), (∀ s', (∃ m, m < n ∧ I m s') → wpAny (model prog w) A rest Q E s') → wpAny (model prog w) A (K rest) Q E s₄
            else ∃ m, m < n ∧ I m s₄) (fun _ _ => False) s₃) (fun _ _ => False) s₂) (fun _ _ => False) s₁) (fun _ _ => False) s)
    (n : Nat) (h : I n s) : codeAny (model prog w) A (.compLoop (.ListComp elt gs scope pos) d it acc env) R s := by
  refine codeAny_loop rfl I (fun n s hI => ?_) n h
  show wpAny _ A ((compTurn (.ListComp elt gs scope pos) d it acc env).onRaise (fun x => do noteFrame x env; theTreesLotGoes x)) _ _ s
  refine wpAny_noted ?_
  rw [ht]
  unfold turnK
  refine wpAny_bind (wpAny_standAt (wpAny_bind (thnF (turn n s hI) fun r s₁ h₁ => ?_)))
  cases r with
  | none => exact wpAny_pure h₁
  | some v =>
    refine wpAny_bind (thnF h₁ fun _ s₂ h₂ => wpAny_bind (thnF h₂ fun _ s₃ h₃ => wpAny_bind (thnF h₃ fun ok s₄ h₄ => ?_)))
    cases ok with
    | false => exact wpAny_pure ⟨rfl, h₄⟩
    | true => exact h₄ _ _ _ fun s' hm => wpAny_pure ⟨rfl, hm⟩
end

/-! what comes behind a clause's tests: reached from the slots σ, it leaves what the slots knew but those of vs -/
abbrev TBd := L2.St → Hp → (Hp → Prop) → Prop
structure PBd (Y : Cx) (vs : List Nat) (K : Sem Fin → Sem Fin) (t : TBd) : Prop where
  run : ∀ (pins : List (Addr × Obj)) (s : Shared) (σ : L2.St) (H : Hp) (Nx : Hp → Prop), Inv Y pins σ H s → t σ H Nx → ∀ (rest : Sem Fin) (Q : Fin → Shared → Prop) (E : Value → Shared → Prop),
    (∀ s' H', Inv Y pins (wipe σ vs) H' s' → Nx H' → wpAny (model Y.prog Y.w) Y.A rest Q E s') → wpAny (model Y.prog Y.w) Y.A (K rest) Q E s
section
variable {Y : Cx} {elt tg iter : Expr} {gs : List Comprehension} {ifs : List Expr} {scope : Scope} {pos p : Pos} {d : Nat} {D : Addr} {K : Sem Fin → Sem Fin} {wi : TI} {g : TG} {tt : TT} {te : TE} {tb : TBd} {vs vs1 : List Nat}
theorem noE {α : Type} {t : Sem α} {Q Q' : α → Shared → Prop} {E : Value → Shared → Prop} {s : Shared} (hx : Y.xe = fun _ _ => False) (h : wpAny (model Y.prog Y.w) Y.A t Q Y.xe s) (hQ : ∀ a s, Q a s → Q' a s) : wpAny (model Y.prog Y.w) Y.A t Q' E s :=
  wpAny_mono h hQ fun _ _ z => by
    rw [hx] at z
    exact z.elim
def bEmit (D : Addr) (te : TE) : TBd := fun σ H Nx => te σ H fun y H1 => ∃ l, H1 D = some (.lst l) ∧ l.length < sizeLine ∧ Nx (upd H1 D (.lst (l ++ [y])))
theorem bd_emit (hx : Y.xe = fun _ _ => False) (he : PE Y elt te) : PBd Y vs (emitK elt (.ref D) Y.env) (bEmit D te) := by
  refine ⟨fun pins s σ H Nx I h rest Q E k => ?_⟩
  unfold emitK
  refine wpAny_bind (wpAny_bind (noE hx (he.run pins s σ H _ I h) fun u s1 ⟨y, H1, I1, r1, l, hD, hz, q⟩ => wpAny_bind (app_ok (E := E) I1 hD hz r1 fun s2 I2 => wpAny_pure ?_)))
  exact k s2 _ (I2.weak (wipe_length σ vs) fun j v e => (wipe_some e).1) q
/-- a clause's own loop -/
theorem clause_loop {R : Result → Shared → Prop} {pins : List (Addr × Obj)} {σ : L2.St} {H : Hp} {s : Shared} {it : Addr} {fp : List Addr} {tn : Nat → Heap → Prop} {J : It} {W : Nat → Nat → Hp → Prop} {m0 : Nat} {Nx : Hp → Prop}
    (hx : Y.xe = fun _ _ => False) (hc : Y.calm = true) (hg : PG Y tg g) (ht : PTs Y ifs tt) (hb : PBd Y vs K tb)
    (htree : compTurn (.ListComp elt gs scope pos) d (.ref it) (.ref D) Y.env = turnK tg ifs p (.ListComp elt gs scope pos) d (.ref it) (.ref D) Y.env K)
    (T : Turn Y.prog Y.w Y.K tg J fp it tn) (I : Inv Y pins (wipe σ vs) H s) (st : tn 0 s.heap) (ff : ∀ b ∈ fp, FpOk Y pins H b) (w0 : W 0 m0 H)
    (turn : ∀ j k H, W j k H → (J.stop j H ∧ Nx H) ∨ (J.go j H ∧ ∃ N1 : Hp → Prop, (∀ H', N1 H' → ∃ k', k' < k ∧ W (j + 1) k' H') ∧ ∀ x H', J.yld j H x H' → g x (wipe σ vs) H' fun σ2 H2 => wipe σ2 vs = wipe σ vs ∧ tt σ2 H2 fun b H3 =>
      if b = true then tb σ2 H3 N1 else N1 H3))
    (fin : ∀ H' s', Inv Y pins (wipe σ vs) H' s' → Nx H' → R (.ok .next) s') :
    codeAny (model Y.prog Y.w) Y.A (.compLoop (.ListComp elt gs scope pos) d (.ref it) (.ref D) Y.env) R s := by
  have stat : ∀ {H' : Hp}, (∀ b ∈ fp, H' b = none) → ∀ b ∈ fp, FpOk Y pins H' b := fun hn b hb => ⟨hn b hb, (ff b hb).2⟩
  refine loopK htree (fun n s' => ∃ j H', Inv Y pins (wipe σ vs) H' s' ∧ tn j s'.heap ∧ (∀ b ∈ fp, H' b = none) ∧ W j n H') ?_ m0 ⟨0, H, I, st, fun b hb => (ff b hb).1, w0⟩
  rintro n s1 ⟨j, H1, I1, st1, n1, w1⟩
  rcases turn j n H1 w1 with ⟨stop, nx⟩ | ⟨more, N1, hN1, step⟩
  · refine thnF (T.done Y rfl rfl rfl hc j pins s1 (wipe σ vs) H1 (fun _ _ => False) I1 (stat n1) st1 stop) fun r s2 ⟨hr, I2⟩ => ?_
    subst hr
    exact fin H1 s2 I2 nx
  · refine thnF (T.item Y rfl rfl rfl hc j pins s1 (wipe σ vs) H1 (fun _ _ => False) I1 (stat n1) st1 more) fun r s2 ⟨u, hr, h2⟩ => ?_
    subst hr
    refine thnF h2 fun _ s3 ⟨x, H3, I3, r3, y3, st3, n3⟩ => ?_
    refine noE hx (hg.run _ s3 (wipe σ vs) H3 x u _ (I3.pinned (stat n3) (T.obj _ _ st3)) r3 (step x H3 y3)) fun _ s4 ⟨σ4, H4, I4, hw4, q4⟩ => ?_
    refine noE hx (ht.run _ s4 σ4 H4 _ I4 q4) fun b s5 ⟨H5, I5, q5⟩ => ?_
    have back : ∀ {s' : Shared} {H' : Hp}, Inv Y (pins ++ pinsAt fp s3.heap) (wipe σ4 vs) H' s' → N1 H' → ∃ m, m < n ∧ ∃ j H', Inv Y pins (wipe σ vs) H' s' ∧ tn j s'.heap ∧ (∀ b ∈ fp, H' b = none) ∧ W j m H' := fun {s' H'} I' nx => by
      obtain ⟨m', hm, w'⟩ := hN1 H' nx
      have pin' : ∀ b ∈ fp, ∀ o, s3.heap.get? b = some o → s'.heap.get? b = some o ∧ H' b = none := fun b hb o e =>
        let z := I'.pin (b, o) (List.mem_append_right _ (List.mem_append_right _ (mem_pinsAt hb e)))
        ⟨z.1, z.2.1⟩
      rw [hw4] at I'
      refine ⟨m', hm, j + 1, H', I'.unpinned, T.keep _ _ _ st3 fun b hb o e => (pin' b hb o e).1, fun b hb => ?_, w'⟩
      obtain ⟨o, e, _⟩ := T.obj _ _ st3 b hb
      exact (pin' b hb o e).2
    cases b with
    | false =>
      simp only [Bool.false_eq_true, if_false] at q5 ⊢
      exact back (I5.weak (wipe_length σ4 vs) fun j v e => (wipe_some e).1) q5
    | true =>
      simp only [if_true] at q5 ⊢
      exact fun rest Q E k => hb.run _ s5 σ4 H5 N1 I5 q5 rest Q E fun s' H' I' nx => k s' (back I' nx)
theorem startK {prog : Program} {w : World} {A : Around} {R : Result → Shared → Prop} {s : Shared} {it acc : Value} {env : Env} (h0 : codeAny (model prog w) A (.compLoop (.ListComp elt gs scope pos) (d + 1) it acc env) R s)
    (h : wpAny (model prog w) A (pyIter it) (fun it' s' => codeAny (model prog w) A (.compLoop (.ListComp elt gs scope pos) (d + 1) it' acc env) R s') (fun _ _ => False) s)
    (hs : ((clausesOf (.ListComp elt gs scope pos))[d + 1]?).elim false (·.is_async != 0) = false) : codeAny (model prog w) A (.compStart (.ListComp elt gs scope pos) (d + 1) it acc env) R s := by
  refine codeAny_of_tree ?_
  show wpAny _ _ ((compStart (.ListComp elt gs scope pos) (d + 1) it acc env).onRaise (fun x => do noteFrame x env; standAt theWindowsPlace)) _ _ s
  refine wpAny_notedAt ?_
  unfold compStart
  rw [hs, if_neg Bool.false_ne_true]
  have go : wpAny (model prog w) A (do let it' ← pyIter it; again (.compLoop (.ListComp elt gs scope pos) (d + 1) it' acc env)) (fun fin s' => match fin with
      | .done f => R (.ok f) s'
      | .again c => c.quiet = true ∧ codeAny (model prog w) A c R s') (notedBy (model prog w) A env fun e s' => R (.error e) s') s :=
    wpAny_bind (thnF h fun it' s' h' => wpAny_pure ⟨rfl, h'⟩)
  refine wpAny_bind (wpAny_askSetting ?_)
  split
  · exact wpAny_pure ⟨rfl, h0⟩
  · refine wpAny_bind (wpAny_rule ?_)
    split
    · exact wpAny_bind (wpAny_standAt go)
    · exact go
def bNext (wi : TI) (g : TG) (tt : TT) (tb : TBd) (vs : List Nat) : TBd := fun σ H Nx => wi σ H fun J H1 => ∃ W : Nat → Nat → Hp → Prop, (∃ m, W 0 m H1) ∧ ∀ j k H, W j k H →
  (J.stop j H ∧ Nx H) ∨ (J.go j H ∧ ∃ N1 : Hp → Prop, (∀ H', N1 H' → ∃ k', k' < k ∧ W (j + 1) k' H') ∧ ∀ x H', J.yld j H x H' → g x (wipe σ vs) H' fun σ2 H2 => wipe σ2 vs = wipe σ vs ∧ tt σ2 H2 fun b H3 =>
    if b = true then tb σ2 H3 N1 else N1 H3)
theorem bd_next (hx : Y.xe = fun _ _ => False) (hc : Y.calm = true) (hi : PI Y tg iter wi) (hg : PG Y tg g) (ht : PTs Y ifs tt) (hb : PBd Y vs K tb)
    (htree : ∀ it, compTurn (.ListComp elt gs scope pos) (d + 1) it (.ref D) Y.env = turnK tg ifs p (.ListComp elt gs scope pos) (d + 1) it (.ref D) Y.env K)
    (hs : ((clausesOf (.ListComp elt gs scope pos))[d + 1]?).elim false (·.is_async != 0) = false) (hf : ∀ x, foldedSetIterable iter Y.env x = pure x) :
    PBd Y vs (nextK iter (.ListComp elt gs scope pos) (d + 1) (.ref D) Y.env) (bNext wi g tt tb vs) := by
  refine ⟨fun pins s σ H Nx I h rest Q E k => ?_⟩
  unfold nextK
  refine wpAny_bind (noE hx (hi.run pins s σ H _ I h) fun xv s1 h1 => wpAny_bind (wpAny_standAt (wpAny_bind (wpAny_of_eq (hf xv) (wpAny_bind (wpAny_holding (noE hx h1 fun itv s2 h2 => ?_)))))))
  obtain ⟨it, fp, tn, J, H2, e, I2, T, st2, f2, W, ⟨m0, w0⟩, turn⟩ := h2
  subst e
  refine wpAny_bind (wpAny_runOwn ?_)
  rw [Around.mark_none]
  have loop : codeAny (model Y.prog Y.w) Y.A (.compLoop (.ListComp elt gs scope pos) (d + 1) (.ref it) (.ref D) Y.env)
      (fun r s' => match r with
        | .ok _ => ∃ H', Inv Y pins (wipe σ vs) H' s' ∧ Nx H'
        | .error _ => False) s2 :=
    clause_loop hx hc hg ht hb (htree _) T (I2.weak (wipe_length σ vs) fun j v e => (wipe_some e).1) st2 f2 w0 turn fun H' s' I' n' => ⟨H', I', n'⟩
  refine codeAny_mono (startK loop (T.self Y.A 0 _ _ _ st2 loop) hs) fun r s' hr => ?_
  cases r with
  | ok f =>
    obtain ⟨H', I', n'⟩ := hr
    exact k s' H' I' n'
  | error e => exact hr.elim
end
theorem PBd.mono {Y : Cx} {vs vs1 : List Nat} {K : Sem Fin → Sem Fin} {t : TBd} (h : PBd Y vs1 K t) (hv : ∀ i ∈ vs1, i ∈ vs) : PBd Y vs K t :=
  ⟨fun pins s σ H Nx I q rest Q E k => h.run pins s σ H Nx I q rest Q E fun s' H' I' n' => k s' H' (I'.weak (by rw [wipe_length, wipe_length]) fun j v e => by
    obtain ⟨e1, e2⟩ := wipe_some e
    rw [wipe_out fun z => e2 (hv j z)]
    exact e1) n'⟩

/-! the whole comprehension: its first clause, then the body tb at the new list's address -/
def tLcB (wi : TI) (g : TG) (tt : TT) (tb : Addr → TBd) (vs : List Nat) : TE := fun σ H Q => wi σ H fun J H1 => ∀ D, H1 D = none → ∃ W : Nat → Nat → Hp → Prop, (∃ m, W 0 m (upd H1 D (.lst []))) ∧ ∀ i m H, W i m H →
  (J.stop i H ∧ Q (.ref D) H) ∨ (J.go i H ∧ ∃ Nx : Hp → Prop, (∀ H', Nx H' → ∃ m', m' < m ∧ W (i + 1) m' H') ∧ ∀ x H', J.yld i H x H' → g x (wipe σ vs) H' fun σ2 H2 => wipe σ2 vs = wipe σ vs ∧ tt σ2 H2 fun b H3 =>
    if b = true then tb D σ2 H3 Nx else Nx H3)
section
variable {X : Cx} {elt tg iter : Expr} {gs : List Comprehension} {ifs : List Expr} {scope : Scope} {pos : Pos} {own : List (Str × Nat)} {K : Addr → Env → Sem Fin → Sem Fin} {wi : TI} {g : TG} {tt : TT} {tb : Addr → TBd}
theorem lcB_core {pins : List (Addr × Obj)} {s : Shared} {σ : L2.St} {H : Hp} {Q : VK} {pos' : Pos} {use : Option (Value → Sem Unit)} {Qf : Value → Shared → Prop} (hc : X.calm = true) (hN : X.N.Nodup) (hi : PI X tg iter wi) (ok : BlkOk X.N X.env.scope scope own)
    (hg : ∀ (s : Shared) (H : Hp) (C : Addr) (cl : List (Str × Addr)) (fp : List Addr), PG (X.blk s H scope (compEnvC scope cl C X.env) fp) tg g)
    (ht : ∀ (s : Shared) (H : Hp) (C : Addr) (cl : List (Str × Addr)) (fp : List Addr), PTs (X.blk s H scope (compEnvC scope cl C X.env) fp) ifs tt)
    (hb : ∀ (s : Shared) (H : Hp) (C : Addr) (cl : List (Str × Addr)) (fp : List Addr) (D : Addr), PBd (X.blk s H scope (compEnvC scope cl C X.env) fp) (own.map (·.2)) (K D (compEnvC scope cl C X.env)) (tb D))
    (htree : ∀ (it : Value) (D : Addr) (env : Env), compTurn (.ListComp elt (⟨tg, iter, ifs, 0⟩ :: gs) scope pos) 0 it (.ref D) env = turnK tg ifs iter.pos (.ListComp elt (⟨tg, iter, ifs, 0⟩ :: gs) scope pos) 0 it (.ref D) env (K D env))
    (hs : ∀ x, foldedSetIterable iter X.env x = pure x) (I : Inv X pins σ H s) (h : tLcB wi g tt tb (own.map (·.2)) σ H Q)
    (hRR : ∀ D C s' m H', Inv X pins σ H' s' → Q (.ref D) H' → s'.heap.Ns C m → FpOk X pins H' C → compPost (model X.prog X.w) X.A X.xe use Qf (.ref D) C (.ok .next) s') :
    wpAny (model X.prog X.w) X.A (comprehension (.ListComp elt (⟨tg, iter, ifs, 0⟩ :: gs) scope pos) scope X.env pos' (newList []) false (eval iter X.env) use) Qf X.xe s := by
  have hfree : ∀ y ∈ scope.names, y.2 = .free → ∃ c, X.env.cells.lookup y.1 = some c := fun y hy e => (ok.free y hy e).elim (fun k => I.ok.has _ (.inl k)) fun k => I.ok.has _ (.inr k)
  refine wpAny_comprehension_free (use := use) rfl hs (closure_ok hfree) ok.kind (fun y hy e => by rw [ok.uniq y hy, e])
    (thn (hi.run pins s σ H _ I h) fun xv s1 h1 => thn h1 fun itv s2 h2 => ?_)
  obtain ⟨it, fp, tn, J, H2, e, I2, T, st2, f2, q⟩ := h2
  subst e
  refine wpAny_newObj_type (newEnv_comp ?_) (by show 0 ≤ sizeLine; decide)
  obtain ⟨W, ⟨m0, w0⟩, turn⟩ := q s2.heap.objs.size (I2.hok.fresh (Nat.le_refl _))
  -- the new list stands at the heap's end; then the block's own dict and cells
  have hget : (s2.heap.push { cls := .type "list", data := .seq ([] : List Value).toArray }).get? s2.heap.objs.size = some { cls := .type "list", data := .seq ([] : List Value).toArray } := Heap.get?_push_size _ rfl
  have old : ∀ b o, s2.heap.get? b = some o → (s2.heap.push { cls := .type "list", data := .seq ([] : List Value).toArray }).get? b = some o := fun b o z => Heap.get?_push_of_some _ z
  have I3 : Inv X pins σ (upd H2 s2.heap.objs.size (.lst [])) { s2 with heap := s2.heap.push { cls := .type "list", data := .seq ([] : List Value).toArray } } :=
    I2.laid (t' := s2.toks) old (Nat.le_refl _) ⟨Nat.zero_le _, [], 0, .nil, hget⟩
  have sz : ∀ b ∈ fp, b < s2.heap.objs.size := fun b hb => by
    obtain ⟨o, e, _⟩ := T.obj _ _ st2 b hb
    exact Heap.lt_size e
  have f3 : ∀ b ∈ fp, FpOk X pins (upd H2 s2.heap.objs.size (.lst [])) b ∧ b < (s2.heap.push { cls := .type "list", data := .seq ([] : List Value).toArray }).objs.size := fun b hb => by
    refine ⟨⟨?_, (f2 b hb).2⟩, by rw [Heap.size_push]; exact Nat.lt_succ_of_lt (sz b hb)⟩
    rw [upd_ne (Nat.ne_of_lt (sz b hb))]
    exact (f2 b hb).1
  have st3 : tn 0 (s2.heap.push { cls := .type "list", data := .seq ([] : List Value).toArray }) := T.keep _ _ _ st2 fun b _ o e => old b o e
  generalize hs3 : ({ s2 with heap := s2.heap.push { cls := .type "list", data := .seq ([] : List Value).toArray } } : Shared) = s3 at I3
  have h3 : s3.heap = s2.heap.push { cls := .type "list", data := .seq ([] : List Value).toArray } := by rw [← hs3]
  rw [← h3] at f3 st3
  have I4 := block_start I3 ok hN f3
  have st4 : tn 0 (pushCells (s3.heap.push { cls := .type "dict", data := .dict #[] }) scope.names) := T.keep _ _ _ st3 fun b _ o e => pushCells_keeps _ _ _ _ (Heap.get?_push_of_some _ e)
  show codeAny _ _ (.compStart (.ListComp elt (⟨tg, iter, ifs, 0⟩ :: gs) scope pos) 0 (.ref it) (.ref s2.heap.objs.size) (compEnvC scope (cellsFrom (s3.heap.objs.size + 1) scope.names (cloFrom X.env.cells scope.names [])) s3.heap.objs.size X.env))
    (compPost (model X.prog X.w) X.A X.xe use _ (.ref s2.heap.objs.size) s3.heap.objs.size) { s3 with heap := pushCells (s3.heap.push { cls := .type "dict", data := .dict #[] }) scope.names }
  have cL : (compEnvC scope (cellsFrom (s3.heap.objs.size + 1) scope.names (cloFrom X.env.cells scope.names [])) s3.heap.objs.size X.env).locals = s3.heap.objs.size := rfl
  have pg := hg s3 (upd H2 s2.heap.objs.size (.lst [])) s3.heap.objs.size (cellsFrom (s3.heap.objs.size + 1) scope.names (cloFrom X.env.cells scope.names [])) fp
  have pt := ht s3 (upd H2 s2.heap.objs.size (.lst [])) s3.heap.objs.size (cellsFrom (s3.heap.objs.size + 1) scope.names (cloFrom X.env.cells scope.names [])) fp
  have pb := hb s3 (upd H2 s2.heap.objs.size (.lst [])) s3.heap.objs.size (cellsFrom (s3.heap.objs.size + 1) scope.names (cloFrom X.env.cells scope.names [])) fp s2.heap.objs.size
  generalize compEnvC scope (cellsFrom (s3.heap.objs.size + 1) scope.names (cloFrom X.env.cells scope.names [])) s3.heap.objs.size X.env = ce at I4 pg pt pb cL ⊢
  have ff : ∀ b ∈ fp, FpOk (X.blk s3 (upd H2 s2.heap.objs.size (.lst [])) scope ce fp) [] (upd H2 s2.heap.objs.size (.lst [])) b := fun b hb =>
    ⟨(f3 b hb).1.1, (I4.ok.exf b hb).1, I4.ok.exfs b hb, .inl hb, fun x c e => (I4.ok.exf b hb).2 x c e, fun p hp => absurd (show p ∈ ([] : List (Addr × Obj)) ++ [] from hp) (by simp)⟩
  have loop := clause_loop (Y := X.blk s3 (upd H2 s2.heap.objs.size (.lst [])) scope ce fp) (R := compPost (model X.prog X.w) X.A X.xe use Qf (.ref s2.heap.objs.size) s3.heap.objs.size) (Nx := Q (.ref s2.heap.objs.size)) rfl hc pg pt pb (htree (.ref it) s2.heap.objs.size ce) T I4 st4 ff w0 turn
    fun H' s' I5 q5 => by
      have I6 : Inv X pins σ H' s' := I3.call' (ch := fp) I5.os I5.base I5.hok I5.bare fun b hb => ⟨(f3 b hb).1.2.2.2.1, (f3 b hb).1.2.1, (f3 b hb).1.2.2.2.2.1, (f3 b hb).1.2.2.2.2.2⟩
      have nC : H' s3.heap.objs.size = none := by
        have z : H' ce.locals = none := I5.free
        rw [cL] at z
        exact z
      obtain ⟨m, hn, _⟩ := I5.loc
      have hn : s'.heap.Ns ce.locals m := hn
      rw [cL] at hn
      exact hRR s2.heap.objs.size s3.heap.objs.size s' m H' I6 q5 hn (I3.fpOk (Nat.le_refl _) nC)
  exact codeAny_compStart_list loop (T.self X.A 0 _ _ _ st4 loop)
theorem pe_lcB (hc : X.calm = true) (hN : X.N.Nodup) (hi : PI X tg iter wi) (ok : BlkOk X.N X.env.scope scope own)
    (hg : ∀ (s : Shared) (H : Hp) (C : Addr) (cl : List (Str × Addr)) (fp : List Addr), PG (X.blk s H scope (compEnvC scope cl C X.env) fp) tg g)
    (ht : ∀ (s : Shared) (H : Hp) (C : Addr) (cl : List (Str × Addr)) (fp : List Addr), PTs (X.blk s H scope (compEnvC scope cl C X.env) fp) ifs tt)
    (hb : ∀ (s : Shared) (H : Hp) (C : Addr) (cl : List (Str × Addr)) (fp : List Addr) (D : Addr), PBd (X.blk s H scope (compEnvC scope cl C X.env) fp) (own.map (·.2)) (K D (compEnvC scope cl C X.env)) (tb D))
    (htree : ∀ (it : Value) (D : Addr) (env : Env), compTurn (.ListComp elt (⟨tg, iter, ifs, 0⟩ :: gs) scope pos) 0 it (.ref D) env = turnK tg ifs iter.pos (.ListComp elt (⟨tg, iter, ifs, 0⟩ :: gs) scope pos) 0 it (.ref D) env (K D env))
    (hs : ∀ x, foldedSetIterable iter X.env x = pure x := by intro _; rfl) : PE X (.ListComp elt (⟨tg, iter, ifs, 0⟩ :: gs) scope pos) (tLcB wi g tt tb (own.map (·.2))) := by
  refine ⟨fun pins s σ H Q I h => ?_⟩
  rw [eval_ListComp]
  refine lcB_core hc hN hi ok hg ht hb htree hs I h fun D C s' m H' I' q hn f => ⟨m, hn, fun h'' sb => ?_⟩
  obtain ⟨f0, f1, f2, f3, f4, f5⟩ := f
  exact ⟨.ref D, H', I'.turned (t' := s'.toks) (fun b o hb e => (sb.2 b hb).trans e) f0 f1 f3 f4 f5, rfl, q⟩
/-- name = [..] on one line, the name a local -/
theorem ps_setLcB {i : Nat} {y : Str} {py spos : Pos} (hc : X.calm = true) (hN : X.N.Nodup) (hy : X.N[i]? = some y) (hyl : X.env.scope.names.lookup y = some .local)
    (hsw : swapsWith (.ListComp elt (⟨tg, iter, ifs, 0⟩ :: gs) scope pos) (some (.Name y py)) spos.line X.env = pure true) (hi : PI X tg iter wi) (ok : BlkOk X.N X.env.scope scope own)
    (hg : ∀ (s : Shared) (H : Hp) (C : Addr) (cl : List (Str × Addr)) (fp : List Addr), PG (X.blk s H scope (compEnvC scope cl C X.env) fp) tg g)
    (ht : ∀ (s : Shared) (H : Hp) (C : Addr) (cl : List (Str × Addr)) (fp : List Addr), PTs (X.blk s H scope (compEnvC scope cl C X.env) fp) ifs tt)
    (hb : ∀ (s : Shared) (H : Hp) (C : Addr) (cl : List (Str × Addr)) (fp : List Addr) (D : Addr), PBd (X.blk s H scope (compEnvC scope cl C X.env) fp) (own.map (·.2)) (K D (compEnvC scope cl C X.env)) (tb D))
    (htree : ∀ (it : Value) (D : Addr) (env : Env), compTurn (.ListComp elt (⟨tg, iter, ifs, 0⟩ :: gs) scope pos) 0 it (.ref D) env = turnK tg ifs iter.pos (.ListComp elt (⟨tg, iter, ifs, 0⟩ :: gs) scope pos) 0 it (.ref D) env (K D env))
    (hs : ∀ x, foldedSetIterable iter X.env x = pure x := by intro _; rfl) : PS X (.Assign [.Name y py] (.ListComp elt (⟨tg, iter, ifs, 0⟩ :: gs) scope pos) spos) (tAsg (tLcB wi g tt tb (own.map (·.2))) (gName i)) := by
  refine ⟨fun pins s σ H D I h => ?_⟩
  rw [exec_Assign_Name_used _ _ _ _ hsw]
  refine wpAny_bind (wpAny_standAt (wpAny_bind ?_))
  show wpAny _ X.A (do let _ ← comprehension (.ListComp elt (⟨tg, iter, ifs, 0⟩ :: gs) scope pos) scope X.env (firstIterPos (⟨tg, iter, ifs, 0⟩ :: gs) pos) (newList []) false (eval iter X.env) (some (assign (.Name y py) X.env))) _ _ s
  have h : tLcB wi g tt tb (own.map (·.2)) σ H (fun x H1 => gName i x σ H1 D.nx) := h
  refine wpAny_bind (thn (lcB_core (Qf := fun _ s' => SP X pins D .next s') hc hN hi ok hg ht hb htree hs I h fun L C s' m H' I' q hn f => ?_) fun _ s' hq => wpAny_pure (wpAny_pure hq))
  show wpAny _ _ (assign (.Name y py) X.env (.ref L)) _ _ _
  refine wpAny_assign_Name (store_ok2 (v := V.ref L) I' hN hy (.inl hyl) rfl (fun s2 I2 ⟨a, sb, ha⟩ => ?_) (.inr hyl))
  obtain ⟨f0, f1, f2, f3, f4, f5⟩ := f
  have haC : C ≠ a := by
    rcases ha with z | z
    · rw [z]; exact f1
    · exact fun e => f4 y a z e.symm
  exact ⟨m, hn.sameBut sb haC, fun h3 sb3 => ⟨_, H', I2.turned (t' := s2.toks) (fun b o hb e => (sb3.2 b hb).trans e) f0 f1 f3 f4 f5, q⟩⟩
end
section
variable {X : Cx} {elt tg iter tg1 iter1 tg2 iter2 : Expr} {ifs ifs1 ifs2 : List Expr} {scope : Scope} {pos : Pos} {own : List (Str × Nat)} {vs1 vs2 : List Nat} {wi wi1 wi2 : TI} {g g1 g2 : TG} {tt tt1 tt2 : TT} {te : TE}
/-- what a comprehension's block context is -/
abbrev Blk (X : Cx) (scope : Scope) (p : Cx → Prop) : Prop := ∀ (s : Shared) (H : Hp) (C : Addr) (cl : List (Str × Addr)) (fp : List Addr), p (X.blk s H scope (compEnvC scope cl C X.env) fp)
theorem bd1 (he : Blk X scope fun Y => PE Y elt te) {vs : List Nat} : ∀ (s : Shared) (H : Hp) (C : Addr) (cl : List (Str × Addr)) (fp : List Addr) (D : Addr), PBd (X.blk s H scope (compEnvC scope cl C X.env) fp) vs (emitK elt (.ref D) (compEnvC scope cl C X.env)) (bEmit D te) :=
  fun s H C cl fp D => bd_emit rfl (he s H C cl fp)
theorem pe_c1 (hc : X.calm = true) (hN : X.N.Nodup) (hi : PI X tg iter wi) (ok : BlkOk X.N X.env.scope scope own) (hg : Blk X scope fun Y => PG Y tg g) (ht : Blk X scope fun Y => PTs Y ifs tt) (he : Blk X scope fun Y => PE Y elt te)
    (hs : ∀ x, foldedSetIterable iter X.env x = pure x := by intro _; rfl) : PE X (.ListComp elt [⟨tg, iter, ifs, 0⟩] scope pos) (tLcB wi g tt (fun D => bEmit D te) (own.map (·.2))) :=
  pe_lcB (K := fun D env => emitK elt (.ref D) env) hc hN hi ok hg ht (bd1 he) (fun _ _ _ => rfl) hs
theorem ps_c1 {i : Nat} {y : Str} {py spos : Pos} (hc : X.calm = true) (hN : X.N.Nodup) (hy : X.N[i]? = some y) (hyl : X.env.scope.names.lookup y = some .local) (hsw : swapsWith (.ListComp elt [⟨tg, iter, ifs, 0⟩] scope pos) (some (.Name y py)) spos.line X.env = pure true)
    (hi : PI X tg iter wi) (ok : BlkOk X.N X.env.scope scope own) (hg : Blk X scope fun Y => PG Y tg g) (ht : Blk X scope fun Y => PTs Y ifs tt) (he : Blk X scope fun Y => PE Y elt te)
    (hs : ∀ x, foldedSetIterable iter X.env x = pure x := by intro _; rfl) : PS X (.Assign [.Name y py] (.ListComp elt [⟨tg, iter, ifs, 0⟩] scope pos) spos) (tAsg (tLcB wi g tt (fun D => bEmit D te) (own.map (·.2))) (gName i)) :=
  ps_setLcB (K := fun D env => emitK elt (.ref D) env) hc hN hy hyl hsw hi ok hg ht (bd1 he) (fun _ _ _ => rfl) hs
theorem bd2 (hc : X.calm = true) (hv : ∀ i ∈ vs1, i ∈ own.map (·.2)) (hi1 : Blk X scope fun Y => PI Y tg1 iter1 wi1) (hg1 : Blk X scope fun Y => PG Y tg1 g1) (ht1 : Blk X scope fun Y => PTs Y ifs1 tt1) (he : Blk X scope fun Y => PE Y elt te)
    (hs1 : ∀ env x, foldedSetIterable iter1 env x = pure x) {c0 : Comprehension} : ∀ (s : Shared) (H : Hp) (C : Addr) (cl : List (Str × Addr)) (fp : List Addr) (D : Addr), PBd (X.blk s H scope (compEnvC scope cl C X.env) fp) (own.map (·.2))
      (nextK iter1 (.ListComp elt [c0, ⟨tg1, iter1, ifs1, 0⟩] scope pos) 1 (.ref D) (compEnvC scope cl C X.env)) (bNext wi1 g1 tt1 (bEmit D te) vs1) := fun s H C cl fp D =>
  (bd_next (Y := X.blk s H scope (compEnvC scope cl C X.env) fp) (d := 0) (gs := [c0, ⟨tg1, iter1, ifs1, 0⟩]) (p := iter1.pos) rfl hc (hi1 s H C cl fp) (hg1 s H C cl fp) (ht1 s H C cl fp) (bd_emit (Y := X.blk s H scope (compEnvC scope cl C X.env) fp) rfl (he s H C cl fp)) (fun _ => rfl) rfl (hs1 _)).mono hv
theorem pe_c2 (hc : X.calm = true) (hN : X.N.Nodup) (hi : PI X tg iter wi) (ok : BlkOk X.N X.env.scope scope own) (hv : ∀ i ∈ vs1, i ∈ own.map (·.2)) (hg : Blk X scope fun Y => PG Y tg g) (ht : Blk X scope fun Y => PTs Y ifs tt)
    (hi1 : Blk X scope fun Y => PI Y tg1 iter1 wi1) (hg1 : Blk X scope fun Y => PG Y tg1 g1) (ht1 : Blk X scope fun Y => PTs Y ifs1 tt1) (he : Blk X scope fun Y => PE Y elt te)
    (hs : ∀ x, foldedSetIterable iter X.env x = pure x := by intro _; rfl) (hs1 : ∀ env x, foldedSetIterable iter1 env x = pure x := by intro _ _; rfl) :
    PE X (.ListComp elt [⟨tg, iter, ifs, 0⟩, ⟨tg1, iter1, ifs1, 0⟩] scope pos) (tLcB wi g tt (fun D => bNext wi1 g1 tt1 (bEmit D te) vs1) (own.map (·.2))) :=
  pe_lcB (K := fun D env => nextK iter1 (.ListComp elt [⟨tg, iter, ifs, 0⟩, ⟨tg1, iter1, ifs1, 0⟩] scope pos) 1 (.ref D) env) hc hN hi ok hg ht (bd2 hc hv hi1 hg1 ht1 he hs1) (fun _ _ _ => rfl) hs
theorem bd3 {c0 : Comprehension} (hc : X.calm = true) (hv : ∀ i ∈ vs1, i ∈ own.map (·.2)) (hv2 : ∀ i ∈ vs2, i ∈ vs1) (hi1 : Blk X scope fun Y => PI Y tg1 iter1 wi1) (hg1 : Blk X scope fun Y => PG Y tg1 g1) (ht1 : Blk X scope fun Y => PTs Y ifs1 tt1)
    (hi2 : Blk X scope fun Y => PI Y tg2 iter2 wi2) (hg2 : Blk X scope fun Y => PG Y tg2 g2) (ht2 : Blk X scope fun Y => PTs Y ifs2 tt2) (he : Blk X scope fun Y => PE Y elt te) (hs1 : ∀ env x, foldedSetIterable iter1 env x = pure x) (hs2 : ∀ env x, foldedSetIterable iter2 env x = pure x) :
    ∀ (s : Shared) (H : Hp) (C : Addr) (cl : List (Str × Addr)) (fp : List Addr) (D : Addr), PBd (X.blk s H scope (compEnvC scope cl C X.env) fp) (own.map (·.2))
      (nextK iter1 (.ListComp elt [c0, ⟨tg1, iter1, ifs1, 0⟩, ⟨tg2, iter2, ifs2, 0⟩] scope pos) 1 (.ref D) (compEnvC scope cl C X.env)) (bNext wi1 g1 tt1 (bNext wi2 g2 tt2 (bEmit D te) vs2) vs1) := fun s H C cl fp D =>
  (bd_next (Y := X.blk s H scope (compEnvC scope cl C X.env) fp) (d := 0) (gs := [c0, ⟨tg1, iter1, ifs1, 0⟩, ⟨tg2, iter2, ifs2, 0⟩]) (p := iter1.pos) rfl hc (hi1 s H C cl fp) (hg1 s H C cl fp) (ht1 s H C cl fp)
    ((bd_next (Y := X.blk s H scope (compEnvC scope cl C X.env) fp) (d := 1) (gs := [c0, ⟨tg1, iter1, ifs1, 0⟩, ⟨tg2, iter2, ifs2, 0⟩]) (p := iter2.pos) rfl hc (hi2 s H C cl fp) (hg2 s H C cl fp) (ht2 s H C cl fp) (bd_emit (Y := X.blk s H scope (compEnvC scope cl C X.env) fp) rfl (he s H C cl fp)) (fun _ => rfl) rfl (hs2 _)).mono hv2) (fun _ => rfl) rfl (hs1 _)).mono hv
theorem pe_c3 (hc : X.calm = true) (hN : X.N.Nodup) (hi : PI X tg iter wi) (ok : BlkOk X.N X.env.scope scope own) (hv : ∀ i ∈ vs1, i ∈ own.map (·.2)) (hv2 : ∀ i ∈ vs2, i ∈ vs1) (hg : Blk X scope fun Y => PG Y tg g) (ht : Blk X scope fun Y => PTs Y ifs tt)
    (hi1 : Blk X scope fun Y => PI Y tg1 iter1 wi1) (hg1 : Blk X scope fun Y => PG Y tg1 g1) (ht1 : Blk X scope fun Y => PTs Y ifs1 tt1)
    (hi2 : Blk X scope fun Y => PI Y tg2 iter2 wi2) (hg2 : Blk X scope fun Y => PG Y tg2 g2) (ht2 : Blk X scope fun Y => PTs Y ifs2 tt2) (he : Blk X scope fun Y => PE Y elt te)
    (hs : ∀ x, foldedSetIterable iter X.env x = pure x := by intro _; rfl) (hs1 : ∀ env x, foldedSetIterable iter1 env x = pure x := by intro _ _; rfl) (hs2 : ∀ env x, foldedSetIterable iter2 env x = pure x := by intro _ _; rfl) :
    PE X (.ListComp elt [⟨tg, iter, ifs, 0⟩, ⟨tg1, iter1, ifs1, 0⟩, ⟨tg2, iter2, ifs2, 0⟩] scope pos) (tLcB wi g tt (fun D => bNext wi1 g1 tt1 (bNext wi2 g2 tt2 (bEmit D te) vs2) vs1) (own.map (·.2))) :=
  pe_lcB (K := fun D env => nextK iter1 (.ListComp elt [⟨tg, iter, ifs, 0⟩, ⟨tg1, iter1, ifs1, 0⟩, ⟨tg2, iter2, ifs2, 0⟩] scope pos) 1 (.ref D) env) hc hN hi ok hg ht (bd3 hc hv hv2 hi1 hg1 ht1 hi2 hg2 ht2 he hs1 hs2) (fun _ _ _ => rfl) hs
theorem ps_c3 {i : Nat} {y : Str} {py spos : Pos} (hc : X.calm = true) (hN : X.N.Nodup) (hy : X.N[i]? = some y) (hyl : X.env.scope.names.lookup y = some .local)
    (hsw : swapsWith (.ListComp elt [⟨tg, iter, ifs, 0⟩, ⟨tg1, iter1, ifs1, 0⟩, ⟨tg2, iter2, ifs2, 0⟩] scope pos) (some (.Name y py)) spos.line X.env = pure true)
    (hi : PI X tg iter wi) (ok : BlkOk X.N X.env.scope scope own) (hv : ∀ i ∈ vs1, i ∈ own.map (·.2)) (hv2 : ∀ i ∈ vs2, i ∈ vs1) (hg : Blk X scope fun Y => PG Y tg g) (ht : Blk X scope fun Y => PTs Y ifs tt)
    (hi1 : Blk X scope fun Y => PI Y tg1 iter1 wi1) (hg1 : Blk X scope fun Y => PG Y tg1 g1) (ht1 : Blk X scope fun Y => PTs Y ifs1 tt1)
    (hi2 : Blk X scope fun Y => PI Y tg2 iter2 wi2) (hg2 : Blk X scope fun Y => PG Y tg2 g2) (ht2 : Blk X scope fun Y => PTs Y ifs2 tt2) (he : Blk X scope fun Y => PE Y elt te)
    (hs : ∀ x, foldedSetIterable iter X.env x = pure x := by intro _; rfl) (hs1 : ∀ env x, foldedSetIterable iter1 env x = pure x := by intro _ _; rfl) (hs2 : ∀ env x, foldedSetIterable iter2 env x = pure x := by intro _ _; rfl) :
    PS X (.Assign [.Name y py] (.ListComp elt [⟨tg, iter, ifs, 0⟩, ⟨tg1, iter1, ifs1, 0⟩, ⟨tg2, iter2, ifs2, 0⟩] scope pos) spos) (tAsg (tLcB wi g tt (fun D => bNext wi1 g1 tt1 (bNext wi2 g2 tt2 (bEmit D te) vs2) vs1) (own.map (·.2))) (gName i)) :=
  ps_setLcB (K := fun D env => nextK iter1 (.ListComp elt [⟨tg, iter, ifs, 0⟩, ⟨tg1, iter1, ifs1, 0⟩, ⟨tg2, iter2, ifs2, 0⟩] scope pos) 1 (.ref D) env) hc hN hy hyl hsw hi ok hg ht (bd3 hc hv hv2 hi1 hg1 ht1 hi2 hg2 ht2 he hs1 hs2) (fun _ _ _ => rfl) hs
end
end Bj

/-! ### set(xs), xs a list of ints -/
namespace Bj
open PySem PySem.Spec
open PyProof.Rows L2
section
variable {P : Program} {w : World} {A : Around} {E : Value → Shared → Prop} {s : Shared}
/-- what set.__init__ leaves of an empty set at S, filled from the list at l -/
theorem set_filled {l S : Addr} {its : Array Value} (ns : List Int) {Qd : Fin → Shared → Prop} {Ed : Value → Shared → Prop} (hh : A.handled = none) (hl : s.heap.IsList l its) (hi : IntsAre its.toList ns) (hb : ns.length + 1 < scanBound)
    (hS : s.heap.get? S = some { cls := .type "set", dict := none, data := .set #[] 0 (.fresh 0 0 (!w.params.followText "set-order")) })
    (k : ∀ (h' : Heap) (tk c : Nat), SetR w h' S (fun j => decide (j ∈ ns)) c → c ≤ ns.length → (∀ b o, b ≠ S → s.heap.get? b = some o → h'.get? b = some o) → Qd (.done (.ret .none)) { s with heap := h', toks := tk }) :
    wpAny (model P w) A (Builtin.«set.__init__» ⟨[.ref S, .ref l], []⟩) Qd Ed s := by
  have hsz : its.size = ns.length := by rw [← Array.length_toList]; exact hi.length
  have nSl : l ≠ S := fun e => by
    obtain ⟨o, ho, hc, _⟩ := hl
    rw [e, hS] at ho
    cases ho
    exact absurd (show Value.type "set" = Value.type "list" from hc) (by decide)
  have a1 := PySem.F.sub_list_set
  have a2 := PySem.F.sub_list_frozenset
  have a3 : (Value.type "list" == Value.type "dict") = false := by decide
  have hlt : l < s.heap.objs.size := by
    obtain ⟨o, ho, _⟩ := hl
    exact Heap.lt_size ho
  have hSlt : S < s.heap.objs.size := Heap.lt_size hS
  obtain ⟨hp, gn, dr, tk, os⟩ := s
  have hty := hl.typeIs
  unfold Builtin.«set.__init__» noKeywords Builtin.Frozenset.updateFrom
  generalize hPI : pyIter = PI
  wp_walk
  subst hPI
  refine wpAny_pyIter_list hl (wpAny_bind (wpAny_runValue ?_))
  have hval : ∀ (i : Nat) (v : Value), its[i]? = some v → ∃ k t, ns[i]? = some k ∧ v = .int k t := fun i v hv => by
    have hin : i < ns.length := by rw [← hsz]; exact (Array.getElem?_eq_some_iff.mp hv).1
    obtain ⟨t, e⟩ := IntsAre.int_at hi i v (by rw [Array.getElem?_toList]; exact hv)
    exact ⟨ns[i], t, List.getElem?_eq_getElem hin, by rw [e, List.getD_eq_getElem?_getD, List.getElem?_eq_getElem hin]; rfl⟩
  have nI : l ≠ hp.objs.size := Nat.ne_of_lt hlt
  have nS : S ∉ [hp.objs.size, l] := by
    intro z
    rcases List.mem_cons.mp z with z | z
    · exact absurd z (Nat.ne_of_lt hSlt)
    · exact nSl (List.mem_singleton.mp z).symm
  have hh2 : A.in1.handled = none := hh
  refine set_update_ints ((Walks.list hh2 hp.objs.size l nI its).toS) S nS ns hsz hb hval its.size 0 _ (by omega) (Nat.zero_le _) ⟨⟨_, Heap.get?_push_size _ rfl, rfl, rfl⟩, hl.push _⟩
    ⟨0, Nat.le_refl 0, setR_new_at (Heap.get?_push_of_some _ hS)⟩ fun s' c hm hc hR => ?_
  obtain ⟨h', g', d', tk', os'⟩ := s'
  obtain rfl : g' = gn := hm.gens
  obtain rfl : d' = dr := hm.drawn
  obtain rfl : os' = os := hm.os
  rw [hsz] at hc
  refine wpAny_pure (wpAny_pure (k h' tk' c hR hc fun b o hbS e => ?_))
  have hb0 : b ≠ hp.objs.size := Nat.ne_of_lt (Heap.lt_size e)
  refine hm.heap b o (fun z => ?_) (Heap.get?_push_of_some _ e)
  rcases List.mem_cons.mp z with z | z
  · exact hbS z
  · exact hb0 (List.mem_singleton.mp z)
/-- T(..) by __new__ and an __init__ whose arguments are looked at by hk -/
theorem type_call2 {T newId initId : String} {Bi : Builtin} {args : List Value} {Q Q₁ : Value → Shared → Prop} (ft : TypeCalled T newId initId) (hct : checkTypeCall T ⟨args, []⟩ = pure ()) (entryI : entryFor table initId = some Bi)
    (hnew : codeAny (model P w) A.in1 (.call (.builtin newId) ⟨.type T :: args, []⟩) (wants Q₁ E) s)
    (hnext : ∀ obj s₁, Q₁ obj s₁ → s₁.TypeIs obj T ∧ wpAny (model P w) A.in1.in1 (checkBuiltinCall initId ⟨obj :: args, []⟩) (fun _ s₂ => wpAny (model P w) A.in1.in1 (Bi ⟨obj :: args, []⟩)
      (fun fin s' => match fin with | .done f => wants (fun r s₂ => r = .none ∧ Q obj s₂) E (.ok f) s' | .again c' => c'.quiet = true ∧ codeAny (model P w) A.in1 c' (wants (fun r s₂ => r = .none ∧ Q obj s₂) E) s')
      (fun e s' => wants (fun r s₂ => r = .none ∧ Q obj s₂) E (.error e) s') s₂) (fun e s' => wants (fun r s₂ => r = .none ∧ Q obj s₂) E (.error e) s') s₁) :
    wpAny (model P w) A (call (.type T) args) Q E s := by
  obtain ⟨c, tl, hmro⟩ := ft.mro
  have b1 := ft.made
  have b2 := ft.sub
  have b3 := ft.notType
  have b4 := ft.canCreate
  refine wpAny_call (codeAny_of_tree ?_)
  show wpAny _ _ (callAny (.type T) _) _ _ _
  refine wpAny_pure ⟨Code.quiet_builtin _ (by decide +kernel), codeAny_builtin F.entry_type_call ?_⟩
  rw [Around.under_plain (weight_type_call_type T args []) rfl]
  repeat (any_goals (first | assumption | wp_step))
  refine codeAny_mono hnew fun r s₁ hr => ?_
  cases r with
  | error e => exact hr
  | ok fl =>
    cases fl with
    | ret obj =>
      obtain ⟨hT, hsi⟩ := hnext _ _ hr
      have c1 := ft.init.lookup
      have c2 := ft.init.bind obj
      repeat (any_goals (first | assumption | wp_step))
      refine codeAny_mono (codeAny_call_builtin ft.init.plain entryI hsi) fun r₂ s₂ hr₂ => ?_
      cases r₂ with
      | error e => exact hr₂
      | ok fl₂ =>
        cases fl₂ with
        | ret r =>
          obtain ⟨rfl, hq⟩ := hr₂
          repeat (any_goals (first | assumption | wp_step))
        | next => exact hr₂.elim
        | brk => exact hr₂.elim
        | cont => exact hr₂.elim
    | next => exact hr.elim
    | brk => exact hr.elim
    | cont => exact hr.elim
theorem set_of_list {l : Addr} {its : Array Value} (ns : List Int) {Q : Value → Shared → Prop} (hh : A.handled = none) (hl : s.heap.IsList l its) (hi : IntsAre its.toList ns) (hb : ns.length + 1 < scanBound)
    (k : ∀ (h' : Heap) (tk c : Nat), SetR w h' s.heap.objs.size (fun j => decide (j ∈ ns)) c → c ≤ ns.length → (∀ b o, s.heap.get? b = some o → h'.get? b = some o) → Q (.ref s.heap.objs.size) { s with heap := h', toks := tk }) :
    wpAny (model P w) A (call (.type "set") [.ref l]) Q E s := by
  refine type_call2 (Q₁ := fun obj s₁ => obj = .ref s.heap.objs.size ∧ s₁ = { s with heap := s.heap.push { cls := .type "set", dict := none, data := .set #[] 0 (.fresh 0 0 (!w.params.followText "set-order")) } }) PySem.F.called_set (PySem.F.typeCall_set_1 _) PySem.F.entry_set_init (code_set_led1 (.ref l) ⟨rfl, rfl⟩) ?_
  rintro obj s₁ ⟨rfl, rfl⟩
  have hS : (s.heap.push { cls := .type "set", dict := none, data := .set #[] 0 (.fresh 0 0 (!w.params.followText "set-order")) }).get? s.heap.objs.size = some { cls := .type "set", dict := none, data := .set #[] 0 (.fresh 0 0 (!w.params.followText "set-order")) } := Heap.get?_push_size _ rfl
  refine ⟨⟨_, hS, rfl⟩, check_set_init_1 ⟨_, hS, rfl⟩ (set_filled ns (by exact hh) (hl.push _) hi hb hS fun h' tk c hR hc hk => ?_)⟩
  exact ⟨rfl, k h' tk c hR hc fun b o e => hk b o (Nat.ne_of_lt (Heap.lt_size e)) (Heap.get?_push_of_some _ e)⟩
end
section
variable {X : Cx}
/-- set(xs) -/
def rSetOfL (K : PySem.W.Frag) (w : World) : List V → Hp → VK → Prop := fun vs H Q => ∃ (a : Addr) (ns : List Int), vs = [V.ref a] ∧ SqL K H a (ns.map V.int) ∧ ns.length ≤ 1000 ∧
  ∀ (p : Addr) (c : Nat), H p = none → c ≤ ns.length → Q (.ref p) (upd H p (SetO w p (fun j => decide (j ∈ ns)) c))
theorem cr_setL (hc : X.calm = true) : CallR X (.type "set") (rSetOfL X.K X.w) := by
  intro pins s σ H vs us Q I r h
  obtain ⟨a, ns, rfl, hs, hz, q⟩ := h
  rw [Vals.ref1 r]
  obtain ⟨its, rv, pl, _⟩ := I.list hs
  refine set_of_list ns (I.ok.hd hc) pl.isList (by simpa using intsAre_of rv) (by unfold scanBound; omega) fun h' tk c hR hcn hk => ?_
  exact ⟨.ref s.heap.objs.size, _, I.laid (t' := tk) hk (Nat.le_refl _) (setO_new hR), rfl, q _ c (I.hok.fresh (Nat.le_refl _)) hcn⟩
end
end Bj

/-! ### zip(xs, ys, strict=True) of two lists of one length -/
namespace Bj
open PySem PySem.Spec
open PyProof.Rows L2
/-- a strict zip's record: as IsZip, the third field True -/
abbrev IsZs (h : Heap) (z TI TO : Addr) (f0 : Value) : Prop := h.get? z = some { cls := .type "zip", dict := none, data := .fields #[f0, .bool false, .bool true, .ref TI, .ref TO], slots := #[] }
theorem zs_typeCall (a b : Value) : checkTypeCall "zip" ⟨[a, b], [(Str.ofString "strict", .bool true)]⟩ = pure () := by kernel_rfl
theorem zs_newCall (a b : Value) : checkBuiltinCall "zip.__new__" ⟨[.type "zip", a, b], [(Str.ofString "strict", .bool true)]⟩ = pure () := by kernel_rfl
theorem zs_args (o a b : Value) : argsOk "object.__init__" ⟨[o, a, b], [(Str.ofString "strict", .bool true)]⟩ := by unfold argsOk; kernel_rfl
theorem zs_new (l1 l2 : Addr) (xs ys : Array Value) :
    Meets (Builtin.«zip.__new__» ⟨[.type "zip", .ref l1, .ref l2], [(Str.ofString "strict", .bool true)]⟩) (fun _ R s => s.heap.IsList l1 xs ∧ s.heap.IsList l2 ys ∧
      R (.ok (.ret (.ref (zipH4 s.heap l1 l2).objs.size))) { s with heap := (zipH4 s.heap l1 l2).push { cls := .type "zip", data := .fields #[.none, .bool false, .bool true, .ref (zipH2 s.heap l1 l2).objs.size, .ref (zipH3 s.heap l1 l2).objs.size] } }) :=
  .of_wp fun prog w A R s h => by
    obtain ⟨hp, g, d, tk, os⟩ := s
    obtain ⟨hl1, hl2, h⟩ := h
    have hsub := sub_zip
    have a1 : Heap.IsList (Shared.heap ⟨hp, g, d, tk, os⟩) l1 xs := hl1
    have a2 : Heap.IsList (Shared.heap ⟨hp.push { cls := .type "list_iterator", data := .fields #[.ref l1, .int 0 0] }, g, d, tk, os⟩) l2 ys := Heap.IsList.push hl2 _
    wp_walk using wpAny_pyIter_list a1, wpAny_pyIter_list a2
    exact ⟨_, rfl, h⟩
section
variable {prog : Program} {w : World} {A : Around} {E : Value → Shared → Prop} {s : Shared}
theorem zs_call {l1 l2 : Addr} {xs ys : Array Value} {Q : Value → Shared → Prop} (hl1 : s.heap.IsList l1 xs) (hl2 : s.heap.IsList l2 ys)
    (h : ∀ h', IsZs h' (s.heap.objs.size + 4) (s.heap.objs.size + 2) (s.heap.objs.size + 3) .none → IsPair h' (s.heap.objs.size + 2) (.ref s.heap.objs.size) (.ref (s.heap.objs.size + 1)) →
      IsPair h' (s.heap.objs.size + 3) .none .none → h'.IsListIter s.heap.objs.size l1 0 → h'.IsListIter (s.heap.objs.size + 1) l2 0 → (∀ c o, s.heap.get? c = some o → h'.get? c = some o) → Q (.ref (s.heap.objs.size + 4)) { s with heap := h' }) :
    wpAny (model prog w) A (call (.type "zip") [.ref l1, .ref l2] [(Str.ofString "strict", .bool true)]) Q E s := by
  refine callType_newKw F.called_zip (by decide) (zs_typeCall _ _) (zs_newCall _ _) (fun o => zs_args o _ _) F.entry_zip_new (zs_new l1 l2 xs ys) ⟨hl1, hl2, ?_⟩
  have z1 : (zipH1 s.heap l1).objs.size = s.heap.objs.size + 1 := Heap.size_push ..
  have z2 : (zipH2 s.heap l1 l2).objs.size = s.heap.objs.size + 2 := by rw [Heap.size_push, z1]
  have z3 : (zipH3 s.heap l1 l2).objs.size = s.heap.objs.size + 3 := by rw [Heap.size_push, z2]
  have z4 : (zipH4 s.heap l1 l2).objs.size = s.heap.objs.size + 4 := by rw [Heap.size_push, z3]
  have up1 : ∀ {o o' : Obj} {h : Heap} {c : Addr}, h.get? c = some o → (h.push o').get? c = some o := fun e => Heap.get?_push_of_some _ e
  generalize ho : (Obj.mk (.type "zip") none (.fields #[.none, .bool false, .bool true, .ref (zipH2 s.heap l1 l2).objs.size, .ref (zipH3 s.heap l1 l2).objs.size]) #[]) = oz
  have q1 : (zipH1 s.heap l1).get? s.heap.objs.size = some _ := Heap.get?_push_size _ rfl
  have q2 : (zipH2 s.heap l1 l2).get? (zipH1 s.heap l1).objs.size = some _ := Heap.get?_push_size _ rfl
  have q3 : (zipH3 s.heap l1 l2).get? (zipH2 s.heap l1 l2).objs.size = some _ := Heap.get?_push_size _ rfl
  have q4 : (zipH4 s.heap l1 l2).get? (zipH3 s.heap l1 l2).objs.size = some _ := Heap.get?_push_size _ rfl
  have q5 : ((zipH4 s.heap l1 l2).push oz).get? (zipH4 s.heap l1 l2).objs.size = some oz := Heap.get?_push_size _ (by rw [← ho]; rfl)
  rw [z1] at q2
  rw [z1, z2] at q3
  rw [z3] at q4
  have eo : oz = Obj.mk (.type "zip") none (.fields #[.none, .bool false, .bool true, .ref (s.heap.objs.size + 2), .ref (s.heap.objs.size + 3)]) #[] := by rw [← ho, z2, z3]
  rw [z4] at q5
  have q6 := q5.trans (congrArg some eo)
  show _ ∧ _
  rw [z4]
  refine ⟨⟨_, q6, rfl⟩, h _ q6 ?_ ?_ ?_ ?_ ?_⟩
  · exact up1 (up1 q3)
  · exact up1 q4
  · exact ⟨_, up1 (up1 (up1 (up1 q1))), rfl, rfl⟩
  · exact ⟨_, up1 (up1 (up1 q2)), rfl, rfl⟩
  · exact fun c o e => up1 (up1 (up1 (up1 (up1 e))))
theorem ends_item {it l : Addr} {i : Nat} {items : Array Value} {x : Value} {Q : Option Value → Shared → Prop} (hit : s.heap.IsListIter it l i) (hl : s.heap.IsList l items) (hx : items[i]? = some x)
    (hQ : ∀ h', h'.IsListIter it l (i + 1) → Heap.SameBut it s.heap h' → Q (some x) { s with heap := h' }) : wpAny (model prog w) A (Builtin.SmallTypes.nextOrEnd (.ref it)) Q E s := by
  unfold Builtin.SmallTypes.nextOrEnd
  exact wpAny_bind (wpAny_attempt (wpAny_nextOf_list_item hit hl hx fun h' a b => wpAny_pure (hQ h' a b)))
theorem ends_end {it l : Addr} {i : Nat} {items : Array Value} {Q : Option Value → Shared → Prop} (hh : A.handled = none) (hit : s.heap.IsListIter it l i) (hl : s.heap.IsList l items) (hx : items[i]? = none)
    (hQ : ∀ h', Heap.ExtBut it s.heap h' → Q none { s with heap := h' }) : wpAny (model prog w) A (Builtin.SmallTypes.nextOrEnd (.ref it)) Q E s := by
  unfold Builtin.SmallTypes.nextOrEnd
  refine wpAny_bind (wpAny_attempt (wpAny_nextOf_list_end hh hit hl hx fun h' e he ⟨o, ho, hc⟩ => ?_))
  refine wpAny_bind (wpAny_isInstance (T := "StopIteration") (b := true) ⟨o, ho, hc⟩ isSubtype_stop ?_)
  exact wpAny_pure (hQ h' he)
/-- the parts of a strict zip as they stand -/
structure Zs (h : Heap) (z TI TO i1 i2 l1 l2 : Addr) (f0 a b : Value) (k1 k2 : Nat) (xs ys : Array Value) : Prop where
  zip : IsZs h z TI TO f0
  its : IsPair h TI (.ref i1) (.ref i2)
  own : IsPair h TO a b
  it1 : h.IsListIter i1 l1 k1
  it2 : h.IsListIter i2 l2 k2
  ls1 : h.IsList l1 xs
  ls2 : h.IsList l2 ys
theorem zs_next_item {z TI TO i1 i2 l1 l2 : Addr} {k1 k2 : Nat} {xs ys : Array Value} {x y a b : Value} {Q : Value → Shared → Prop} (D : ZipApart z TI TO i1 i2 l1 l2) (Z : Zs s.heap z TI TO i1 i2 l1 l2 .none a b k1 k2 xs ys)
    (hx : xs[k1]? = some x) (hy : ys[k2]? = some y)
    (hQ : ∀ h', IsZs h' z TI TO (rawInt s.heap.objs.size) → IsPair h' TO x y → h'.IsListIter i1 l1 (k1 + 1) → h'.IsListIter i2 l2 (k2 + 1) → IsPair h' s.heap.objs.size x y →
      (∀ c o, c ≠ z → c ≠ TO → c ≠ i1 → c ≠ i2 → s.heap.get? c = some o → h'.get? c = some o) → Q (.ref s.heap.objs.size) { s with heap := h' }) :
    wpAny (model prog w) A (Builtin.«zip.__next__» ⟨[.ref z], []⟩) (fun fin s' => ∃ v, fin = .done (.ret v) ∧ Q v s') E s := by
  obtain ⟨hz, hTI, hTO, h1, h2, g1, g2⟩ := Z
  show wpAny _ _ (field (.ref z) 2 >>= _) _ _ _
  refine wpAny_bind (wpAny_field hz rfl (x := .bool true) rfl ?_)
  show wpAny _ _ (field (.ref z) 3 >>= _) _ _ _
  refine wpAny_bind (wpAny_field hz rfl (x := .ref TI) rfl (wpAny_bind (wpAny_seqItems hTI rfl ?_)))
  show wpAny _ _ (Builtin.SmallTypes.ownedTupleIsFree (.ref z) >>= _) _ _ _
  unfold Builtin.SmallTypes.ownedTupleIsFree
  refine wpAny_bind (wpAny_bind (wpAny_field hz rfl (x := .none) rfl (wpAny_pure ?_)))
  simp only [if_true]
  refine wpAny_bind (wpAny_rule (wpAny_bind (wpAny_field hz rfl (x := .ref TO) rfl (wpAny_bind (wpAny_setField_rec hz (by simp) fun ha za sa => wpAny_bind ?_)))))
  have za : IsZs ha z TI TO .ellipsis := za
  simp only [List.zipIdx_cons, List.zipIdx_nil, List.forIn_cons, List.forIn_nil]
  -- the first list's item
  refine wpAny_bind (wpAny_bind (wpAny_onRaise ?_))
  show wpAny _ _ (Builtin.SmallTypes.nextOrEnd (.ref i1)) _ _ _
  refine ends_item (h1.extBut sa.extBut D.i1z) (g1.extBut sa.extBut D.l1z) hx fun hb ib sb => ?_
  have Tb : IsPair hb TO a b := sb.extBut _ _ D.TOi1 (sa.extBut _ _ D.TOz hTO)
  refine wpAny_bind (wpAny_seqItems Tb rfl (wpAny_bind (wpAny_updateSeq_pair Tb fun hc Tc sc => wpAny_bind (wpAny_letGo (wpAny_pure ?_)))))
  have Tc : IsPair hc TO x b := Tc
  -- the second one's
  refine wpAny_bind (wpAny_bind (wpAny_onRaise ?_))
  show wpAny _ _ (Builtin.SmallTypes.nextOrEnd (.ref i2)) _ _ _
  refine ends_item (((h2.extBut sa.extBut D.i2z).extBut sb.extBut D.i12.symm).extBut sc.extBut D.TOi2.symm) (((g2.extBut sa.extBut D.l2z).extBut sb.extBut D.l2i1).extBut sc.extBut D.l2TO) hy fun hd id sd => ?_
  have Td : IsPair hd TO x b := sd.extBut _ _ D.TOi2 Tc
  refine wpAny_bind (wpAny_seqItems Td rfl (wpAny_bind (wpAny_updateSeq_pair Td fun he Te se => wpAny_bind (wpAny_letGo (wpAny_pure (wpAny_pure ?_))))))
  have Te : IsPair he TO x y := Te
  -- the pair is made and handed out
  refine wpAny_bind (wpAny_seqItems Te rfl (wpAny_bind (wpAny_newTuple ?_)))
  have hsz : he.objs.size = s.heap.objs.size := by rw [se.1, sd.1, sc.1, sb.1, sa.1]
  have ze : IsZs he z TI TO .ellipsis := se.extBut _ _ D.TOz.symm (sd.extBut _ _ D.i2z.symm (sc.extBut _ _ D.TOz.symm (sb.extBut _ _ D.i1z.symm za)))
  have keep : ∀ c o, c ≠ z → c ≠ TO → c ≠ i1 → c ≠ i2 → s.heap.get? c = some o → he.get? c = some o := fun c o n1 n2 n3 n4 e => se.extBut _ _ n2 (sd.extBut _ _ n4 (sc.extBut _ _ n2 (sb.extBut _ _ n3 (sa.extBut _ _ n1 e))))
  have j1 : he.IsListIter i1 l1 (k1 + 1) := ((ib.extBut sc.extBut D.TOi1.symm).extBut sd.extBut D.i12).extBut se.extBut D.TOi1.symm
  have j2 : he.IsListIter i2 l2 (k2 + 1) := id.extBut se.extBut D.TOi2.symm
  have hzlt : z < he.objs.size := Heap.lt_size ze
  show wpAny _ _ (Builtin.SmallTypes.ownedTupleHandOut (.ref z) (.ref he.objs.size) >>= _) _ _ _
  unfold Builtin.SmallTypes.ownedTupleHandOut
  have zf : IsZs (he.push { cls := .type "tuple", data := .seq #[x, y] }) z TI TO .ellipsis := Heap.get?_push_of_some _ ze
  refine wpAny_bind (wpAny_bind (wpAny_setField_rec zf (by simp) fun hg zg sg => ?_))
  have zg : IsZs hg z TI TO (rawInt he.objs.size) := zg
  refine wpAny_setField_rec zg (by simp) fun hi zi si => ?_
  have zi : IsZs hi z TI TO (rawInt he.objs.size) := zi
  have up : ∀ c o, c ≠ z → he.get? c = some o → hi.get? c = some o := fun c o n e => si.extBut _ _ n (sg.extBut _ _ n (Heap.get?_push_of_some _ e))
  have Ti : IsPair hi he.objs.size x y := si.extBut _ _ (Nat.ne_of_gt hzlt) (sg.extBut _ _ (Nat.ne_of_gt hzlt) (Heap.get?_push_size _ rfl))
  rw [hsz] at zi Ti
  refine wpAny_pure ⟨_, rfl, ?_⟩
  show Q (.ref he.objs.size) _
  rw [hsz]
  exact hQ hi zi (up _ _ D.TOz Te) (j1.at fun o e => up _ o D.i1z e) (j2.at fun o e => up _ o D.i2z e) Ti fun c o n1 n2 n3 n4 e => up c o n1 (keep c o n1 n2 n3 n4 e)
/-- both lists are at their end -/
theorem zs_next_end {z TI TO i1 i2 l1 l2 : Addr} {k1 k2 : Nat} {xs ys : Array Value} {a b : Value} {Q : Fin → Shared → Prop} (hh : A.handled = none) (D : ZipApart z TI TO i1 i2 l1 l2) (Z : Zs s.heap z TI TO i1 i2 l1 l2 .none a b k1 k2 xs ys)
    (hx : xs[k1]? = none) (hy : ys[k2]? = none)
    (hE : ∀ h' e, (∀ c o, c ≠ z → c ≠ TO → c ≠ i1 → c ≠ i2 → s.heap.get? c = some o → h'.get? c = some o) → (∃ o, h'.get? e = some o ∧ o.cls = .type "StopIteration") → E (.ref e) { s with heap := h' }) :
    wpAny (model prog w) A (Builtin.«zip.__next__» ⟨[.ref z], []⟩) Q E s := by
  obtain ⟨hz, hTI, hTO, h1, h2, g1, g2⟩ := Z
  show wpAny _ _ (field (.ref z) 2 >>= _) _ _ _
  refine wpAny_bind (wpAny_field hz rfl (x := .bool true) rfl ?_)
  show wpAny _ _ (field (.ref z) 3 >>= _) _ _ _
  refine wpAny_bind (wpAny_field hz rfl (x := .ref TI) rfl (wpAny_bind (wpAny_seqItems hTI rfl ?_)))
  show wpAny _ _ (Builtin.SmallTypes.ownedTupleIsFree (.ref z) >>= _) _ _ _
  unfold Builtin.SmallTypes.ownedTupleIsFree
  refine wpAny_bind (wpAny_bind (wpAny_field hz rfl (x := .none) rfl (wpAny_pure ?_)))
  simp only [if_true]
  refine wpAny_bind (wpAny_rule (wpAny_bind (wpAny_field hz rfl (x := .ref TO) rfl (wpAny_bind (wpAny_setField_rec hz (by simp) fun ha za sa => wpAny_bind ?_)))))
  have za : IsZs ha z TI TO .ellipsis := za
  simp only [List.zipIdx_cons, List.zipIdx_nil, List.forIn_cons, List.forIn_nil]
  refine wpAny_bind (wpAny_bind (wpAny_onRaise ?_))
  show wpAny _ _ (Builtin.SmallTypes.nextOrEnd (.ref i1)) _ _ _
  refine ends_end hh (h1.extBut sa.extBut D.i1z) (g1.extBut sa.extBut D.l1z) hx fun hb sb => ?_
  have zb : IsZs hb z TI TO .ellipsis := sb _ _ D.i1z.symm za
  refine wpAny_bind (wpAny_setField_rec zb (by simp) fun hc zc sc => ?_)
  refine wpAny_bind ?_
  wp_delta
  simp only [Nat.lt_irrefl, gt_iff_lt, if_false, List.drop_succ_cons, List.drop_zero, List.zipIdx_cons, List.zipIdx_nil, List.forIn_cons, List.forIn_nil]
  have h2c : hc.IsListIter i2 l2 k2 := (((h2.extBut sa.extBut D.i2z).extBut sb D.i12.symm)).extBut sc.extBut D.i2z
  have g2c : hc.IsList l2 ys := ((g2.extBut sa.extBut D.l2z).extBut sb D.l2i1).extBut sc.extBut D.l2z
  refine wpAny_bind (wpAny_bind (wpAny_bind (ends_end hh h2c g2c hy fun hd sd => ?_)))
  simp only [Option.isSome_none, Bool.false_eq_true, if_false]
  refine wpAny_pure (wpAny_pure (wpAny_bind (wpAny_rule ?_)))
  unfold Builtin.SmallTypes.stopIteration
  simp only [newExc, newTuple]
  refine wpAny_bind (wpAny_bind (wpAny_newObj_type ?_ (by size_fits)))
  refine wpAny_bind (m := firstArgMember _ _) (wpAny_of_eq (a := Value.none) (by first | rfl | (simp only [firstArgMember]; rfl)) ?_)
  refine wpAny_newObj_type ?_ (by size_fits)
  refine wpAny_raiseNew_none hh (hE _ _ (fun c o n1 n2 n3 n4 e => ?_) ⟨_, Heap.get?_push_size _ rfl, rfl⟩)
  exact Heap.get?_push_of_some _ (Heap.get?_push_of_some _ (sd _ _ n4 (sc.extBut _ _ n1 (sb _ _ n3 (sa.extBut _ _ n1 e)))))
end
end Bj

namespace Bj
open PySem PySem.Spec
open PyProof.Rows L2
section
variable {prog : Program} {w : World} {A : Around} {E : Value → Shared → Prop} {s : Shared}
theorem zs_pyNext_item {z TI TO i1 i2 l1 l2 : Addr} {k1 k2 : Nat} {xs ys : Array Value} {x y a b : Value} {Q : Option Value → Shared → Prop} (D : ZipApart z TI TO i1 i2 l1 l2) (Z : Zs s.heap z TI TO i1 i2 l1 l2 .none a b k1 k2 xs ys)
    (hx : xs[k1]? = some x) (hy : ys[k2]? = some y)
    (hQ : ∀ h', IsZs h' z TI TO (rawInt s.heap.objs.size) → IsPair h' TO x y → h'.IsListIter i1 l1 (k1 + 1) → h'.IsListIter i2 l2 (k2 + 1) → IsPair h' s.heap.objs.size x y →
      (∀ c o, c ≠ z → c ≠ TO → c ≠ i1 → c ≠ i2 → s.heap.get? c = some o → h'.get? c = some o) → Q (some (.ref s.heap.objs.size)) { s with heap := h' }) : wpAny (model prog w) A (pyNext (.ref z)) Q E s := by
  have hT : s.TypeIs (.ref z) "zip" := ⟨_, Z.zip, rfl⟩
  unfold pyNext
  exact wpAny_bind (wpAny_attempt (wpAny_callSpecial?_slot (name := Str.ofString "__next__") hT F.slot_zip_next (wpAny_call_entry F.slot_zip_next hT F.entry_zip_next
    (zs_next_item D Z hx hy fun h' a1 a2 a3 a4 a5 a6 => wpAny_pure (hQ h' a1 a2 a3 a4 a5 a6)) (F.args_zip_next_1 _))))
theorem zs_pyNext_end {z TI TO i1 i2 l1 l2 : Addr} {k1 k2 : Nat} {xs ys : Array Value} {a b : Value} {Q : Option Value → Shared → Prop} (hh : A.handled = none) (D : ZipApart z TI TO i1 i2 l1 l2) (Z : Zs s.heap z TI TO i1 i2 l1 l2 .none a b k1 k2 xs ys)
    (hx : xs[k1]? = none) (hy : ys[k2]? = none)
    (hQ : ∀ h', (∀ c o, c ≠ z → c ≠ TO → c ≠ i1 → c ≠ i2 → s.heap.get? c = some o → h'.get? c = some o) → Q none { s with heap := h' }) : wpAny (model prog w) A (pyNext (.ref z)) Q E s := by
  have hT : s.TypeIs (.ref z) "zip" := ⟨_, Z.zip, rfl⟩
  unfold pyNext
  refine wpAny_bind (wpAny_attempt (wpAny_callSpecial?_slot (name := Str.ofString "__next__") hT F.slot_zip_next (wpAny_call_entry F.slot_zip_next hT F.entry_zip_next
    (zs_next_end hh D Z hx hy fun h' e hk ⟨o, ho, hc⟩ => ?_) (F.args_zip_next_1 _))))
  refine wpAny_bind (wpAny_isInstance (T := "StopIteration") (b := true) ⟨o, ho, hc⟩ isSubtype_stop ?_)
  exact wpAny_pure (hQ _ hk)
theorem zs_letGo {elts : List Expr} {x1} {pos : Pos} {z TI TO T : Addr} {Q : Unit → Shared → Prop} (hz : IsZs s.heap z TI TO (rawInt T)) (hQ : ∀ h', IsZs h' z TI TO .none → Heap.SameBut z s.heap h' → Q () { s with heap := h' }) :
    wpAny (model prog w) A (letOwnedTupleGo (.Tuple elts x1 pos) (.ref z) (.ref T)) Q E s := by
  unfold letOwnedTupleGo
  refine wpAny_bind (wpAny_load hz ?_)
  show wpAny _ _ (if (["enumerate", "zip", "dict_itemiterator", "dict_reverseitemiterator", "odict_iterator", "itertools.zip_longest", "itertools.pairwise"].contains "zip" && (#[rawInt T, .bool false, .bool true, .ref TI, .ref TO] : Array Value)[0]? == some (rawInt T)) = true then _ else _) Q E s
  rw [if_pos (by simp)]
  refine wpAny_bind (wpAny_rule ?_)
  show wpAny _ _ (setField (.ref z) 0 .none) Q E s
  exact wpAny_setField_rec hz (by simp) fun h' hz' hs' => hQ h' hz' hs'
theorem zs_pyIter {z TI TO : Addr} {f0 : Value} {Q : Value → Shared → Prop} (hz : IsZs s.heap z TI TO f0) (h : Q (.ref z) s) : wpAny (model prog w) A (pyIter (.ref z)) Q E s := by
  have hT : s.TypeIs (.ref z) "zip" := ⟨_, hz, rfl⟩
  refine wpAny_pyIter_slot hT F.slot_zip_iter (wpAny_call_entry F.slot_zip_iter hT F.entry_zip_iter ?_ (F.args_zip_iter_1 _))
  show wpAny _ _ (ret (.ref z)) _ _ s
  exact wpAny_pure ⟨_, rfl, "zip", _, hT, F.slot_zip_next.lookup, h⟩
/-- a call of a built-in class with keywords, by its arguments' values -/
theorem callWith_typeKw {pos : Pos} {T : String} {e : Expr} {rest : List Expr} {kws : List Keyword} {env : Env} {Q : Value → Shared → Prop}
    (h : wpAny (model prog w) A (spliced (backTo pos (starEach (e :: rest) env))) (fun vs s₁ => wpAny (model prog w) A (evalAll ((backToKw pos (keywordEach kws env)).map (·.2)))
      (fun kvs s₂ => wpAny (model prog w) A (call (.type T) vs (((backToKw pos (keywordEach kws env)).filterMap (·.1)).zip kvs)) Q E s₂) E s₁) E s)
    (he : backTo pos (starEach (e :: rest) env) = (false, eval e env) :: backTo pos (starEach rest env)) (hpl : (backTo pos (starEach (e :: rest) env)).any (·.1) = false)
    (hall : (backToKw pos (keywordEach kws env)).all (·.1.isSome) = true) (hno : (backToKw pos (keywordEach kws env)).any (·.1.isNone) = false) :
    wpAny (model prog w) A (callWith pos (.type T) [] (backTo pos (starEach (e :: rest) env)) (backToKw pos (keywordEach kws env))) Q E s := by
  refine PySem.W.callWith_of (P := fun _ => True) (by rw [hpl, hno] <;> rfl) (fun _ _ => ⟨.machine, .inr (.inl rfl), .now⟩) ?_
  rw [he] at h ⊢
  refine evalArgs_kwB hall (wpAny_mono h (fun vs s1 h1 => wpAny_mono h1 (fun ks s2 h2 => ⟨trivial, h2⟩) fun _ _ z => z) fun _ _ z => z)
end
/-- two lists of one length, turn by turn, the items in new pairs -/
def Its (K : PySem.W.Frag) (a b : Addr) : It :=
  ⟨fun i H => ∃ (xs ys : List V) (x y : V), SqL K H a xs ∧ SqL K H b ys ∧ xs[i]? = some x ∧ ys[i]? = some y,
    fun i H v H' => ∃ T x y, v = .ref T ∧ H T = none ∧ H' = upd H T (.tup [x, y]) ∧ (∀ xs, SqL K H a xs → xs[i]? = some x) ∧ ∀ ys, SqL K H b ys → ys[i]? = some y,
    fun i H => ∃ xs ys : List V, SqL K H a xs ∧ SqL K H b ys ∧ xs.length ≤ i ∧ ys.length ≤ i⟩
theorem five {p : Addr → Prop} {z TI TO i1 i2 c : Addr} (h : c ∈ [z, TI, TO, i1, i2]) (h1 : p z) (h2 : p TI) (h3 : p TO) (h4 : p i1) (h5 : p i2) : p c := by
  simp only [List.mem_cons, List.not_mem_nil, or_false] at h
  rcases h with rfl | rfl | rfl | rfl | rfl <;> assumption
theorem turn_zs {P : Program} {w : World} {K : PySem.W.Frag} {elts : List Expr} {kk : Nat} {tpos : Pos} {a b z TI TO i1 i2 : Addr} (D : ZipApart z TI TO i1 i2 a b) :
    Turn P w K (.Tuple elts kk tpos) (Its K a b) [z, TI, TO, i1, i2] z (fun i h => IsZs h z TI TO .none ∧ IsPair h TI (.ref i1) (.ref i2) ∧ (∃ x y, IsPair h TO x y) ∧ h.IsListIter i1 a i ∧ h.IsListIter i2 b i) where
  mem := List.mem_cons_self
  obj := fun i h ⟨hz, hTI, ⟨x, y, hTO⟩, ⟨o1, e1, _, d1⟩, ⟨o2, e2, _, d2⟩⟩ c hc => five (p := fun c => ∃ o, h.get? c = some o ∧ ∀ v, o.data ≠ .cell v) hc ⟨_, hz, fun v q => nomatch q⟩ ⟨_, hTI, fun v q => nomatch q⟩ ⟨_, hTO, fun v q => nomatch q⟩
    ⟨o1, e1, fun v q => by rw [d1] at q; cases q⟩ ⟨o2, e2, fun v q => by rw [d2] at q; cases q⟩
  keep := fun i h h' ⟨hz, hTI, ⟨x, y, hTO⟩, h1, h2⟩ k => ⟨k z (by simp) _ hz, k TI (by simp) _ hTI, ⟨x, y, k TO (by simp) _ hTO⟩, h1.at fun o q => k i1 (by simp) o q, h2.at fun o q => k i2 (by simp) o q⟩
  item := by
    rintro X rfl rfl rfl hc i pins s σ H E I hf ⟨hz, hTI, ⟨x0, y0, hTO⟩, h1, h2⟩ ⟨xs, ys, x, y, hqx, hqy, hx, hy⟩
    obtain ⟨its, rv, p, _⟩ := I.list hqx
    obtain ⟨its2, rv2, p2, _⟩ := I.list hqy
    obtain ⟨u, hu, ru⟩ := rv.get hx
    obtain ⟨u2, hu2, ru2⟩ := rv2.get hy
    have hzl : z < s.heap.objs.size := Heap.lt_size hz
    refine zs_pyNext_item D ⟨hz, hTI, hTO, h1, h2, p.isList, p2.isList⟩ (x := u) (y := u2) (by simpa using hu) (by simpa using hu2) fun h' z' TO' j1 j2 hT hk => ?_
    refine ⟨_, rfl, zs_letGo (s := { s with heap := h' }) z' fun h'' z'' sb => ?_⟩
    have hT2 : h''.get? s.heap.objs.size = some { cls := .type "tuple", data := .seq #[u, u2] } := (sb.2 _ (Nat.ne_of_gt hzl)).trans hT
    have new : ObjOk X.prog X.w (upd H s.heap.objs.size (.tup [x, y])) h'' s.heap.objs.size (.tup [x, y]) := ⟨by show 2 ≤ sizeLine; decide, [u, u2], .cons ru (.cons ru2 .nil), ⟨_, hT2, rfl, _, rfl⟩⟩
    have I1 : Inv X pins σ (upd H s.heap.objs.size (.tup [x, y])) { s with heap := h'' } := I.turnedNew (t' := s.toks) (ch := [z, TI, TO, i1, i2]) (fun c o hb q => by
      simp only [List.mem_cons, List.not_mem_nil, or_false, not_or] at hb
      exact (sb.2 c hb.1).trans (hk c o hb.1 hb.2.2.1 hb.2.2.2.1 hb.2.2.2.2 q)) hf (Nat.le_refl _) new
    refine ⟨.ref s.heap.objs.size, _, I1, rfl, ⟨_, x, y, rfl, I.hok.fresh (Nat.le_refl _), rfl, fun l hl => by rw [I.list_inj hl hqx]; exact hx, fun l hl => by rw [I.list_inj hl hqy]; exact hy⟩,
      ⟨z'', (sb.2 _ D.TIz).trans (hk _ _ D.TIz D.TITO D.TIi1 D.TIi2 hTI), ⟨u, u2, (sb.2 _ D.TOz).trans TO'⟩, j1.at fun o q => (sb.2 _ D.i1z).trans q, j2.at fun o q => (sb.2 _ D.i2z).trans q⟩, fun c hcm => ?_⟩
    have hlt : c < s.heap.objs.size := by
      obtain ⟨_, e1, _⟩ := h1
      obtain ⟨_, e2, _⟩ := h2
      exact five (p := fun c => c < s.heap.objs.size) hcm hzl (Heap.lt_size hTI) (Heap.lt_size hTO) (Heap.lt_size e1) (Heap.lt_size e2)
    rw [upd_ne (Nat.ne_of_lt hlt)]
    exact (hf c hcm).1
  done := by
    rintro X rfl rfl rfl hc i pins s σ H E I hf ⟨hz, hTI, ⟨x0, y0, hTO⟩, h1, h2⟩ ⟨xs, ys, hqx, hqy, e1, e2⟩
    obtain ⟨its, rv, p, _⟩ := I.list hqx
    obtain ⟨its2, rv2, p2, _⟩ := I.list hqy
    have l1 := rv.length
    have l2 := rv2.length
    exact zs_pyNext_end (I.ok.hd hc) D ⟨hz, hTI, hTO, h1, h2, p.isList, p2.isList⟩ (by simp; omega) (by simp; omega) fun h' hk => ⟨rfl, I.turnedL (t' := s.toks) (ch := [z, TI, TO, i1, i2]) (fun c o hb q => by
      simp only [List.mem_cons, List.not_mem_nil, or_false, not_or] at hb
      exact hk c o hb.1 hb.2.2.1 hb.2.2.2.1 hb.2.2.2.2 q) hf⟩
  self := fun A i s Q E st h => zs_pyIter st.1 h
def iZipS (K : PySem.W.Frag) (ta : TA) : TI := fun σ H R => ta σ H fun vs H1 => ∃ a b xs ys, vs = [.ref a, .ref b] ∧ SqL K H1 a xs ∧ SqL K H1 b ys ∧ R (Its K a b) H1
theorem pi_zipS {X : Cx} {e e2 : Expr} {ta : TA} {p pos tpos kp cp : Pos} {j : Nat} {elts : List Expr} {kk : Nat} (hg : Gl X "zip") (hm : X.mg "zip" = none) (ha : PA X [e, e2] ta)
    (he : backTo pos (starEach [e, e2] X.env) = (false, eval e X.env) :: backTo pos (starEach [e2] X.env) := by rfl) (hpl : (backTo pos (starEach [e, e2] X.env)).any (·.1) = false := by rfl) :
    PI X (.Tuple elts kk tpos) (.Call (.Name "zip" p) [e, e2] [⟨some "strict", .Constant (.bool true) j cp, kp⟩] pos) (iZipS X.K ta) := by
  refine ⟨fun pins s σ H R I h => ?_⟩
  refine wpAny_Call_Name_kw (ld_blt I hg hm PyProof.Rows.boot_zip ?_)
  refine callWith_typeKw (thn (ha.run pos pins s σ H _ I h) fun us s1 ⟨vs, H1, I1, r1, q1⟩ => ?_) he hpl rfl rfl
  refine kws_cons (Constant_bool (kws_nil ?_))
  obtain ⟨a, b, xs, ys, ex, hqx, hqy, q⟩ := q1
  subst ex
  cases r1 with
  | cons r rr =>
    cases rr with
    | cons r' rr =>
      cases rr
      cases r
      cases r'
      obtain ⟨its, rv, p1, _⟩ := I1.list hqx
      obtain ⟨its2, rv2, p2, _⟩ := I1.list hqy
      have la : a < s1.heap.objs.size := p1.lt
      have lb : b < s1.heap.objs.size := p2.lt
      show wpAny _ _ (call (.type "zip") [.ref a, .ref b] [(Str.ofString "strict", .bool true)]) _ _ _
      refine zs_call p1.isList p2.isList fun h' hz hTI hTO h1 h2 hk => zs_pyIter hz ?_
      have I2 : Inv X pins σ H1 { s1 with heap := h' } := I1.kept (t' := s1.toks) hk
      refine ⟨s1.heap.objs.size + 4, [s1.heap.objs.size + 4, s1.heap.objs.size + 2, s1.heap.objs.size + 3, s1.heap.objs.size, s1.heap.objs.size + 1], _, _, H1, rfl, I2, turn_zs (PySem.W.ktu_apart s1.heap.objs.size a b la lb), ⟨hz, hTI, ⟨_, _, hTO⟩, h1, h2⟩, fun c hcm => ?_, q⟩
      have hle : s1.heap.objs.size ≤ c := five (p := fun c => s1.heap.objs.size ≤ c) hcm (Nat.le_add_right _ _) (Nat.le_add_right _ _) (Nat.le_add_right _ _) (Nat.le_refl _) (Nat.le_add_right _ _)
      exact I1.fpOk hle (I1.hok.fresh hle)
end Bj

/-! ### the text by places; what is asked of it -/
namespace Bj
open PySem PySem.Spec
open PyProof.Rows L2
def top (i : Nat) : Stmt := PySem.Challenge.pw_beanjars_k87_whole_counts_reduced.main.body.getD i (.Pass ⟨0, 0, 0, 0⟩)
abbrev s_is_integer : Stmt := top 13
abbrev s_is_colour : Stmt := top 14
abbrev s_has_shape : Stmt := top 15
abbrev s_places : Stmt := top 16
abbrev s_first_wrong_place : Stmt := top 17
abbrev s_are_counts : Stmt := top 20
abbrev s_validate_beans : Stmt := top 22
abbrev s_after : Stmt := top 23
abbrev s_is_disputed : Stmt := top 25
abbrev s_first_dispute : Stmt := top 26
abbrev s_passes : Stmt := top 27
abbrev s_test_steps : Stmt := top 29
abbrev s_put_steps : Stmt := top 30
abbrev s_group_names : Stmt := top 32
abbrev s_groups : Stmt := top 33
abbrev s_quotient : Stmt := top 34
abbrev s_group_number : Stmt := top 35
abbrev s_validate_passes : Stmt := top 37
abbrev s_product : Stmt := top 38
abbrev s_times : Stmt := top 39
abbrev s_last_bean : Stmt := top 40
abbrev s_last_group : Stmt := top 41
abbrev s_powers : Stmt := top 42
abbrev s_law_pool : Stmt := top 44
abbrev s_law_draw : Stmt := top 45
abbrev s_law_choose : Stmt := top 46
abbrev s_law_rows : Stmt := top 47
abbrev s_law_kind : Stmt := top 48
abbrev s_law_reduced : Stmt := top 49
abbrev s_law_drawn : Stmt := top 50
abbrev s_law : Stmt := top 51
abbrev s_Table_init : Stmt := inClass (top 18) 0
abbrev s_Table_size : Stmt := inClass (top 18) 1
abbrev s_Table_validate_colour : Stmt := inClass (top 18) 3
abbrev s_Table_getitem : Stmt := inClass (top 18) 4
abbrev s_Jar_init : Stmt := inClass (top 21) 0
abbrev s_Jar_of_beans : Stmt := inClass (top 21) 1
abbrev s_Jar_size : Stmt := inClass (top 21) 2
abbrev s_Jar_total : Stmt := inClass (top 21) 3
abbrev s_Jar_colours : Stmt := inClass (top 21) 5
abbrev s_Jar_getitem : Stmt := inClass (top 21) 6
abbrev s_Jar_contains : Stmt := inClass (top 21) 8
abbrev s_Jar_bool : Stmt := inClass (top 21) 9
abbrev s_Jar_validate_size : Stmt := inClass (top 21) 10
abbrev s_Jar_add : Stmt := inClass (top 21) 11
abbrev s_Jar_sub : Stmt := inClass (top 21) 12
abbrev s_Jar_can_draw : Stmt := inClass (top 21) 15
abbrev s_Jar_draws : Stmt := inClass (top 21) 16
abbrev s_Forest_init : Stmt := inClass (top 31) 0
abbrev s_Forest_join : Stmt := inClass (top 31) 1
abbrev s_Forest_names : Stmt := inClass (top 31) 2
/-- where things stand behind the top -/
structure Ad where
  (c_Table c_Jar c_Forest : Addr)
  (f_is_integer f_is_colour f_has_shape f_places f_first_wrong_place f_are_counts f_validate_beans f_after f_is_disputed f_first_dispute f_passes f_test_steps f_put_steps f_group_names f_groups f_quotient f_group_number f_validate_passes f_product f_times f_last_bean f_last_group f_powers f_law_pool f_law_draw f_law_choose f_law_rows f_law_kind f_law_reduced f_law_drawn f_law : Addr)
  (f_Table_init f_Table_size f_Table_validate_colour f_Table_getitem : Addr)
  (p_Table_size : Addr)
  (f_Jar_init f_Jar_of_beans f_Jar_size f_Jar_total f_Jar_colours f_Jar_getitem f_Jar_contains f_Jar_bool f_Jar_validate_size f_Jar_add f_Jar_sub f_Jar_can_draw f_Jar_draws : Addr)
  (p_Jar_of_beans p_Jar_size p_Jar_total : Addr)
  (f_Forest_init f_Forest_join f_Forest_names : Addr)
structure DefAt (K : PySem.W.Frag) (x qual : Str) (st : Stmt) (f : Addr) : Prop where
  ex : ∃ fd, Fun K x qual st f fd
structure ClsAt (K : PySem.W.Frag) (C : Addr) : Prop where
  cl : Cls K C
  sf : PySem.W.selfFirst K C = true
structure Txt (K : PySem.W.Frag) (mg : Str → Option Value) (a : Ad) : Prop where
  m_is_integer : mg "is_integer" = some (.ref a.f_is_integer)
  d_is_integer : DefAt K "is_integer" "is_integer" s_is_integer a.f_is_integer
  m_is_colour : mg "is_colour" = some (.ref a.f_is_colour)
  d_is_colour : DefAt K "is_colour" "is_colour" s_is_colour a.f_is_colour
  m_has_shape : mg "has_shape" = some (.ref a.f_has_shape)
  d_has_shape : DefAt K "has_shape" "has_shape" s_has_shape a.f_has_shape
  m_places : mg "places" = some (.ref a.f_places)
  d_places : DefAt K "places" "places" s_places a.f_places
  m_first_wrong_place : mg "first_wrong_place" = some (.ref a.f_first_wrong_place)
  d_first_wrong_place : DefAt K "first_wrong_place" "first_wrong_place" s_first_wrong_place a.f_first_wrong_place
  m_are_counts : mg "are_counts" = some (.ref a.f_are_counts)
  d_are_counts : DefAt K "are_counts" "are_counts" s_are_counts a.f_are_counts
  m_validate_beans : mg "validate_beans" = some (.ref a.f_validate_beans)
  d_validate_beans : DefAt K "validate_beans" "validate_beans" s_validate_beans a.f_validate_beans
  m_after : mg "after" = some (.ref a.f_after)
  d_after : DefAt K "after" "after" s_after a.f_after
  m_is_disputed : mg "is_disputed" = some (.ref a.f_is_disputed)
  d_is_disputed : DefAt K "is_disputed" "is_disputed" s_is_disputed a.f_is_disputed
  m_first_dispute : mg "first_dispute" = some (.ref a.f_first_dispute)
  d_first_dispute : DefAt K "first_dispute" "first_dispute" s_first_dispute a.f_first_dispute
  m_passes : mg "passes" = some (.ref a.f_passes)
  d_passes : DefAt K "passes" "passes" s_passes a.f_passes
  m_test_steps : mg "test_steps" = some (.ref a.f_test_steps)
  d_test_steps : DefAt K "test_steps" "test_steps" s_test_steps a.f_test_steps
  m_put_steps : mg "put_steps" = some (.ref a.f_put_steps)
  d_put_steps : DefAt K "put_steps" "put_steps" s_put_steps a.f_put_steps
  m_group_names : mg "group_names" = some (.ref a.f_group_names)
  d_group_names : DefAt K "group_names" "group_names" s_group_names a.f_group_names
  m_groups : mg "groups" = some (.ref a.f_groups)
  d_groups : DefAt K "groups" "groups" s_groups a.f_groups
  m_quotient : mg "quotient" = some (.ref a.f_quotient)
  d_quotient : DefAt K "quotient" "quotient" s_quotient a.f_quotient
  m_group_number : mg "group_number" = some (.ref a.f_group_number)
  d_group_number : DefAt K "group_number" "group_number" s_group_number a.f_group_number
  m_validate_passes : mg "validate_passes" = some (.ref a.f_validate_passes)
  d_validate_passes : DefAt K "validate_passes" "validate_passes" s_validate_passes a.f_validate_passes
  m_product : mg "product" = some (.ref a.f_product)
  d_product : DefAt K "product" "product" s_product a.f_product
  m_times : mg "times" = some (.ref a.f_times)
  d_times : DefAt K "times" "times" s_times a.f_times
  m_last_bean : mg "last_bean" = some (.ref a.f_last_bean)
  d_last_bean : DefAt K "last_bean" "last_bean" s_last_bean a.f_last_bean
  m_last_group : mg "last_group" = some (.ref a.f_last_group)
  d_last_group : DefAt K "last_group" "last_group" s_last_group a.f_last_group
  m_powers : mg "powers" = some (.ref a.f_powers)
  d_powers : DefAt K "powers" "powers" s_powers a.f_powers
  m_law_pool : mg "_law_pool" = some (.ref a.f_law_pool)
  d_law_pool : DefAt K "_law_pool" "_law_pool" s_law_pool a.f_law_pool
  m_law_draw : mg "_law_draw" = some (.ref a.f_law_draw)
  d_law_draw : DefAt K "_law_draw" "_law_draw" s_law_draw a.f_law_draw
  m_law_choose : mg "_law_choose" = some (.ref a.f_law_choose)
  d_law_choose : DefAt K "_law_choose" "_law_choose" s_law_choose a.f_law_choose
  m_law_rows : mg "_law_rows" = some (.ref a.f_law_rows)
  d_law_rows : DefAt K "_law_rows" "_law_rows" s_law_rows a.f_law_rows
  m_law_kind : mg "_law_kind" = some (.ref a.f_law_kind)
  d_law_kind : DefAt K "_law_kind" "_law_kind" s_law_kind a.f_law_kind
  m_law_reduced : mg "_law_reduced" = some (.ref a.f_law_reduced)
  d_law_reduced : DefAt K "_law_reduced" "_law_reduced" s_law_reduced a.f_law_reduced
  m_law_drawn : mg "_law_drawn" = some (.ref a.f_law_drawn)
  d_law_drawn : DefAt K "_law_drawn" "_law_drawn" s_law_drawn a.f_law_drawn
  m_law : mg "law" = some (.ref a.f_law)
  d_law : DefAt K "law" "law" s_law a.f_law
  m_Table : mg "Table" = some (.ref a.c_Table)
  k_Table : ClsAt K a.c_Table
  n_own_rows : NoAttr K a.c_Table "own_rows"
  d_Table_init : DefAt K "__init__" "Table.__init__" s_Table_init a.f_Table_init
  i_Table : Mk K a.c_Table a.f_Table_init
  d_Table_size : DefAt K "size" "Table.size" s_Table_size a.f_Table_size
  p_Table_size : PropOf K a.c_Table "size" a.p_Table_size a.f_Table_size
  d_Table_validate_colour : DefAt K "validate_colour" "Table.validate_colour" s_Table_validate_colour a.f_Table_validate_colour
  h_Table_validate_colour : Meth K a.c_Table "validate_colour" a.f_Table_validate_colour
  d_Table_getitem : DefAt K "__getitem__" "Table.__getitem__" s_Table_getitem a.f_Table_getitem
  u_Table_getitem : Dun K a.c_Table "__getitem__" a.f_Table_getitem
  e_Table : PySem.W.fnIn K a.f_Table_getitem = true
  m_Jar : mg "Jar" = some (.ref a.c_Jar)
  k_Jar : ClsAt K a.c_Jar
  n_own_counts : NoAttr K a.c_Jar "own_counts"
  d_Jar_init : DefAt K "__init__" "Jar.__init__" s_Jar_init a.f_Jar_init
  i_Jar : Mk K a.c_Jar a.f_Jar_init
  d_Jar_of_beans : DefAt K "of_beans" "Jar.of_beans" s_Jar_of_beans a.f_Jar_of_beans
  r_Jar : ClX.CRead K a.c_Jar (.type "type")
  q_Jar_of_beans : ClX.CMet K a.c_Jar (.type "type") "of_beans" a.p_Jar_of_beans a.f_Jar_of_beans
  d_Jar_size : DefAt K "size" "Jar.size" s_Jar_size a.f_Jar_size
  p_Jar_size : PropOf K a.c_Jar "size" a.p_Jar_size a.f_Jar_size
  d_Jar_total : DefAt K "total" "Jar.total" s_Jar_total a.f_Jar_total
  p_Jar_total : PropOf K a.c_Jar "total" a.p_Jar_total a.f_Jar_total
  d_Jar_colours : DefAt K "colours" "Jar.colours" s_Jar_colours a.f_Jar_colours
  h_Jar_colours : Meth K a.c_Jar "colours" a.f_Jar_colours
  d_Jar_getitem : DefAt K "__getitem__" "Jar.__getitem__" s_Jar_getitem a.f_Jar_getitem
  u_Jar_getitem : Dun K a.c_Jar "__getitem__" a.f_Jar_getitem
  e_Jar : PySem.W.fnIn K a.f_Jar_getitem = true
  d_Jar_contains : DefAt K "__contains__" "Jar.__contains__" s_Jar_contains a.f_Jar_contains
  u_Jar_contains : Dun K a.c_Jar "__contains__" a.f_Jar_contains
  d_Jar_bool : DefAt K "__bool__" "Jar.__bool__" s_Jar_bool a.f_Jar_bool
  u_Jar_bool : Dun K a.c_Jar "__bool__" a.f_Jar_bool
  d_Jar_validate_size : DefAt K "validate_size" "Jar.validate_size" s_Jar_validate_size a.f_Jar_validate_size
  h_Jar_validate_size : Meth K a.c_Jar "validate_size" a.f_Jar_validate_size
  d_Jar_add : DefAt K "__add__" "Jar.__add__" s_Jar_add a.f_Jar_add
  u_Jar_add : Dun K a.c_Jar "__add__" a.f_Jar_add
  d_Jar_sub : DefAt K "__sub__" "Jar.__sub__" s_Jar_sub a.f_Jar_sub
  u_Jar_sub : Dun K a.c_Jar "__sub__" a.f_Jar_sub
  d_Jar_can_draw : DefAt K "can_draw" "Jar.can_draw" s_Jar_can_draw a.f_Jar_can_draw
  h_Jar_can_draw : Meth K a.c_Jar "can_draw" a.f_Jar_can_draw
  d_Jar_draws : DefAt K "draws" "Jar.draws" s_Jar_draws a.f_Jar_draws
  h_Jar_draws : Meth K a.c_Jar "draws" a.f_Jar_draws
  m_Forest : mg "Forest" = some (.ref a.c_Forest)
  k_Forest : ClsAt K a.c_Forest
  n_own_table : NoAttr K a.c_Forest "own_table"
  n_own_steps : NoAttr K a.c_Forest "own_steps"
  n_own_names : NoAttr K a.c_Forest "own_names"
  d_Forest_init : DefAt K "__init__" "Forest.__init__" s_Forest_init a.f_Forest_init
  i_Forest : Mk K a.c_Forest a.f_Forest_init
  d_Forest_join : DefAt K "join" "Forest.join" s_Forest_join a.f_Forest_join
  h_Forest_join : Meth K a.c_Forest "join" a.f_Forest_join
  d_Forest_names : DefAt K "names" "Forest.names" s_Forest_names a.f_Forest_names
  h_Forest_names : Meth K a.c_Forest "names" a.f_Forest_names
  m_max : ∃ t, mg "MAX_COLOURS" = some (.int 8 t)
  b_isinstance : mg "isinstance" = none
  b_int : mg "int" = none
  b_bool : mg "bool" = none
  b_list : mg "list" = none
  b_tuple : mg "tuple" = none
  b_len : mg "len" = none
  b_all : mg "all" = none
  b_range : mg "range" = none
  b_sum : mg "sum" = none
  b_enumerate : mg "enumerate" = none
  b_zip : mg "zip" = none
  b_min : mg "min" = none
  b_max : mg "max" = none
  b_sorted : mg "sorted" = none
  b_set : mg "set" = none
end Bj

/-! ### a def and its promise in one; rules for calls by it -/
namespace Bj
open PySem PySem.Spec
open PyProof.Rows L2 Evl
structure Df (P : Program) (w : World) (K : PySem.W.Frag) (mg : Str → Option Value) (base : Heap) (k : Nat) (f : Addr) (ps : List Str) (sp : Sp) : Prop where
  ex : ∃ fd, FnOk P w K mg base CX0 k f fd ps sp ∧ Binds K fd ps []
  kp : PySem.W.keepIn K (.ref f) = true
/-- the body's part of a def's proof -/
abbrev Body (P : Program) (w : World) (K : PySem.W.Frag) (mg : Str → Option Value) (base : Heap) (N : List Str) (qual : Str) (st : Stmt) (f : Addr) (k : Nat) (sp : Sp) : Prop :=
  ∀ (cdv : Value) (A : Around) (outer : List Env) (s : Shared) (H : Hp) (vs : List V) (Q : VK) (E : XK), Room k (A.deeper (envOfC qual (defScope st) s.heap.objs.size f cdv)) → sp vs H Q E →
    ∃ t, PSs (cxOf CX0 P w K mg base N qual (defScope st) f cdv A outer s H E).nox (defBody st) t ∧ t { nx := fun _ H' => Q .non H', rt := Q } (start N vs) H
theorem df_mk {P : Program} {w : World} {K : PySem.W.Frag} {mg : Str → Option Value} {base : Heap} {x qual : Str} {st : Stmt} {f : Addr} {N ps : List Str} {k : Nat} {sp : Sp} (D : DefAt K x qual st f) (S : FnScope N ps (defScope st))
    (hb : ∀ (kV doc pm : Value) (an : Option Addr) (cdv ct : Value) (us : List Value), us.length = ps.length → bindArgs (PySem.W.fnOf x qual (defArgs st) (defBody st) (defScope st) .none kV doc pm an cdv ct) ⟨us, []⟩ = pure (ps.zip us))
    (len : ∀ vs H Q E, sp vs H Q E → vs.length = ps.length) (body : Body P w K mg base N qual st f k sp) : Df P w K mg base (k + 1) f ps sp := by
  obtain ⟨fd, F⟩ := D.ex
  exact ⟨⟨fd, F.ok S len body, F.binds hb⟩, F.kp⟩
theorem Df.mono {P : Program} {w : World} {K : PySem.W.Frag} {mg : Str → Option Value} {base : Heap} {j k : Nat} {f : Addr} {ps : List Str} {sp : Sp} (D : Df P w K mg base j f ps sp) (h : j ≤ k) : Df P w K mg base k f ps sp := by
  obtain ⟨⟨fd, F, B⟩, kp⟩ := D
  exact ⟨⟨fd, F.mono h, B⟩, kp⟩
section
variable {X : Cx} {k : Nat} {f C : Addr} {ps : List Str} {sp : Sp} {x m : Str} {p pos apos : Pos} {e o i : Expr} {es : List Expr} {ta tb : TE} {t : TA}
/-- f(..) -/
theorem pe_cl (D : Df X.prog X.w X.K X.mg X.base k f ps sp) (hr : Room k X.A) (hm : X.mg x = some (.ref f)) (ha : PA X (e :: es) t) (hg : Gl X x := by rfl) (hdb : (x == ("__debug__" : Str)) = false := by decide)
    (he : starEach (e :: es) X.env = (false, eval e X.env) :: starEach es X.env := by rfl) (hpl : (backTo pos (starEach es X.env)).any (·.1) = false := by rfl) : PE X (.Call (.Name x p) (e :: es) [] pos) (tCall sp [] E0 t) := by
  obtain ⟨⟨fd, F, B⟩, kp⟩ := D
  exact pe_call F hr hg hm kp B .nil pass0 ha hdb he hpl
/-- o.m(..) -/
theorem pe_mt {pl : Sem Bool} (ho : PE X o ta) (c : ClsAt X.K C) (hm : Meth X.K C m f) (D : Df X.prog X.w X.K X.mg X.base k f ps sp) (hr : Room k X.A) (ha : PA X (e :: es) t)
    (hst : starEach (e :: es) X.env = (false, eval e X.env) :: starEach es X.env := by rfl) (hpl : (backTo pos (starEach es X.env)).any (·.1) = false := by rfl)
    (ht : eval (.Call (.Attribute o m apos) (e :: es) [] pos) X.env = (do
      let ov ← eval o X.env
      standAt apos.atName
      let (f, first) ← holding [ov] (getMethod ov m pl)
      callWith pos f first (backTo pos (starEach (e :: es) X.env)) (backToKw pos (keywordEach [] X.env))) := by rfl) : PE X (.Call (.Attribute o m apos) (e :: es) [] pos) (tMeth C m sp [] E0 ta t) := by
  obtain ⟨⟨fd, F, B⟩, kp⟩ := D
  exact pe_meth ho c.cl hm F hr B .nil pass0 ha hst hpl ht
theorem pe_mt0 {pl : Sem Bool} (ho : PE X o ta) (c : ClsAt X.K C) (hm : Meth X.K C m f) (D : Df X.prog X.w X.K X.mg X.base k f ps sp) (hr : Room k X.A)
    (ht : eval (.Call (.Attribute o m apos) [] [] pos) X.env = (do
      let ov ← eval o X.env
      standAt apos.atName
      let (f, first) ← holding [ov] (getMethod ov m pl)
      callWith pos f first (backTo pos (starEach [] X.env)) (backToKw pos (keywordEach [] X.env))) := by rfl) : PE X (.Call (.Attribute o m apos) [] [] pos) (tMeth C m sp [] E0 ta tNil) := by
  obtain ⟨⟨fd, F, B⟩, kp⟩ := D
  exact pe_meth0 ho c.cl hm F hr B .nil pass0 ht
/-- o.f, a property -/
theorem pe_pr {pp : Addr} (ho : PE X o ta) (c : ClsAt X.K C) (hp : PropOf X.K C m pp f) (D : Df X.prog X.w X.K X.mg X.base k f ps sp) (hr : Room (k + 1) X.A) (hab : attributeBase o m X.env (eval o X.env) = eval o X.env := by rfl) :
    PE X (.Attribute o m pos) (tProp C sp [] E0 ta) := by
  obtain ⟨⟨fd, F, B⟩, kp⟩ := D
  exact pe_prop ho c.cl hp F hr B .nil pass0 hab
/-- C(..) -/
theorem pe_mk (M : Mk X.K C f) (D : Df X.prog X.w X.K X.mg X.base k f ps sp) (hr : Room (k + 1) X.A) (hm : X.mg x = some (.ref C)) (ha : PA X (e :: es) t) (hg : Gl X x := by rfl) (hdb : (x == ("__debug__" : Str)) = false := by decide)
    (he : starEach (e :: es) X.env = (false, eval e X.env) :: starEach es X.env := by rfl) (hpl : (backTo pos (starEach es X.env)).any (·.1) = false := by rfl) : PE X (.Call (.Name x p) (e :: es) [] pos) (tMake C sp [] E0 t) := by
  obtain ⟨⟨fd, F, B⟩, kp⟩ := D
  exact pe_make M F hr hg hm B .nil pass0 ha hdb he hpl
theorem pe_mkL {j : Nat} (M : Mk X.K C f) (D : Df X.prog X.w X.K X.mg X.base k f ps sp) (hr : Room (k + 1) X.A) (hN : X.N[j]? = some x) (hv : Vis X.env.scope x) (ha : PA X (e :: es) t) (hdb : (x == ("__debug__" : Str)) = false := by decide) (hcd : (x == ("__classdict__" : Str)) = false := by decide)
    (he : starEach (e :: es) X.env = (false, eval e X.env) :: starEach es X.env := by rfl) (hpl : (backTo pos (starEach es X.env)).any (·.1) = false := by rfl) : PE X (.Call (.Name x p) (e :: es) [] pos) (tMakeL j C sp t) := by
  obtain ⟨⟨fd, F, B⟩, kp⟩ := D
  exact pe_makeL M F hr hN hv B ha hdb hcd he hpl
/-- o[i] by __getitem__ -/
theorem pe_gt (U : Dun X.K C "__getitem__" f) (hi : PySem.W.fnIn X.K f = true) (D : Df X.prog X.w X.K X.mg X.base k f ps sp) (hr : Room (k + 1) X.A) (ha : PE X o ta) (hc : PE X i tb)
    (hsl : ∀ v u : Value, subscripted i true v u = runValue (.builtin "lifetime.subscript" ⟨[v, u], []⟩) := by intro _ _; rfl) : PE X (.Subscript o i pos) (tGetOwn C sp ta tb) := by
  obtain ⟨⟨fd, F, B⟩, kp⟩ := D
  exact pe_getOwn U hi F hr B ha hc hsl
theorem op_in_ (U : Dun X.K C "__contains__" f) (D : Df X.prog X.w X.K X.mg X.base k f ps sp) (hr : Room k X.A) : OpR X (compareOp .In) (rInOwn C sp) := by
  obtain ⟨⟨fd, F, B⟩, kp⟩ := D
  exact op_inOwn U F hr B
theorem op_notIn_ (U : Dun X.K C "__contains__" f) (D : Df X.prog X.w X.K X.mg X.base k f ps sp) (hr : Room k X.A) : OpR X (compareOp .NotIn) (rNotInOwn C sp) := by
  obtain ⟨⟨fd, F, B⟩, kp⟩ := D
  exact op_notInOwn U F hr B
theorem pt_bool_ (U : Dun X.K C "__bool__" f) (D : Df X.prog X.w X.K X.mg X.base k f ps sp) (hr : Room k X.A) (ha : PE X e ta)
    (he : ∀ whole, isTrue e X.env whole = (do let v ← whole; standAt e.pos; holding [v] (truthy v)) := by intro _; rfl) : PT X e (tBoolOwn C sp ta) := by
  obtain ⟨⟨fd, F, B⟩, kp⟩ := D
  exact pt_boolOwn U F hr B ha he
theorem op_bin_ {op : Operator} (U : Dun X.K C (PySem.dunder op.info.2) f) (c : ClsAt X.K C) (D : Df X.prog X.w X.K X.mg X.base k f ps sp) (hr : Room k X.A) : OpR X (binaryOp op) (rBinOwn C sp) := by
  obtain ⟨⟨fd, F, B⟩, kp⟩ := D
  exact op_binOwn U c.sf F hr B
/-- C.m(..), m a classmethod -/
theorem pe_cm {pp : Addr} {mc : Value} {pl : Sem Bool} (ho : PE X o ta) (r : ClX.CRead X.K C mc) (c : ClX.CMet X.K C mc m pp f) (D : Df X.prog X.w X.K X.mg X.base k f ps sp) (hr : Room k X.A) (ha : PA X (e :: es) t)
    (hst : starEach (e :: es) X.env = (false, eval e X.env) :: starEach es X.env := by rfl) (hpl : (backTo pos (starEach es X.env)).any (·.1) = false := by rfl)
    (ht : eval (.Call (.Attribute o m apos) (e :: es) [] pos) X.env = (do
      let ov ← eval o X.env
      standAt apos.atName
      let (f, first) ← holding [ov] (getMethod ov m pl)
      callWith pos f first (backTo pos (starEach (e :: es) X.env)) (backToKw pos (keywordEach [] X.env))) := by rfl) : PE X (.Call (.Attribute o m apos) (e :: es) [] pos) (ClX.tCMeth C sp E0 ta t) := by
  obtain ⟨⟨fd, F, B⟩, kp⟩ := D
  exact ClX.pe_cmeth ho r c ((F.raw B .nil).imp fun vs H Q E h => by
    show sp (vs ++ []) H Q E
    rw [List.append_nil]
    exact h) hr pass0 ha hst hpl ht
end

/-! ### numbers, lists of them, what stands where -/
abbrev nV (n : Nat) : V := .int (n : Int)
abbrev nVs (ns : List Nat) : List V := ns.map nV
/-- item by item: what S says of a value -/
def All2 {β : Type} (S : β → V → Hp → Prop) (H : Hp) (bs : List β) (ys : List V) : Prop := ys.length = bs.length ∧ ∀ (i : Nat) (b : β), bs[i]? = some b → ∃ y, ys[i]? = some y ∧ S b y H
def ListAt {β : Type} (S : β → V → Hp → Prop) (H : Hp) (p : Addr) (bs : List β) : Prop := ∃ ys, H p = some (.lst ys) ∧ All2 S H bs ys
/-- a pair, a triple, a list of colours, a step -/
def PairV (x : Nat × Nat) (v : V) (H : Hp) : Prop := ∃ q, v = .ref q ∧ H q = some (.tup [nV x.1, nV x.2])
def TripV (x : Nat × Nat × Nat) (v : V) (H : Hp) : Prop := ∃ q, v = .ref q ∧ H q = some (.tup [nV x.1, nV x.2.1, nV x.2.2])
def IntsV (g : List Nat) (v : V) (H : Hp) : Prop := ∃ q, v = .ref q ∧ H q = some (.lst (nVs g))
def StepV (x : Nat × Nat) (v : V) (H : Hp) : Prop := ∃ q w, v = .ref q ∧ H q = some (.tup [nV x.1, nV x.2, w])
/-- rows of a table, as a list of lists -/
def RowsAt (H : Hp) (p : Addr) (k : Nat) (t : Nat → Nat → Nat) : Prop := ListAt IntsV H p ((List.range k).map fun i => (List.range k).map fun j => t i j)
structure TabAt (a : Ad) (H : Hp) (p : Addr) (k : Nat) (t : Nat → Nat → Nat) : Prop where
  good : Good k t
  at_ : ∃ dx l, H p = some (.ins a.c_Table dx [("own_rows", .ref l)]) ∧ RowsAt H l k t
structure JarAt (a : Ad) (H : Hp) (p : Addr) (cs : List Nat) : Prop where
  pos : 1 ≤ cs.length
  le : cs.length ≤ 8
  at_ : ∃ dx l, H p = some (.ins a.c_Jar dx [("own_counts", .ref l)]) ∧ H l = some (.lst (nVs cs))
section
variable {H H' : Hp} {β : Type} {S : β → V → Hp → Prop}
/-- S stays where the heap grows -/
abbrev Grows (S : β → V → Hp → Prop) : Prop := ∀ b y H H', Ex H H' → S b y H → S b y H'
theorem grows_pair : Grows PairV := fun _ _ _ _ e ⟨q, h1, h2⟩ => ⟨q, h1, e _ _ h2⟩
theorem grows_trip : Grows TripV := fun _ _ _ _ e ⟨q, h1, h2⟩ => ⟨q, h1, e _ _ h2⟩
theorem grows_ints : Grows IntsV := fun _ _ _ _ e ⟨q, h1, h2⟩ => ⟨q, h1, e _ _ h2⟩
theorem grows_step : Grows StepV := fun _ _ _ _ e ⟨q, w, h1, h2⟩ => ⟨q, w, h1, e _ _ h2⟩
theorem All2.mono (hS : Grows S) (e : Ex H H') {bs : List β} {ys : List V} (h : All2 S H bs ys) : All2 S H' bs ys := ⟨h.1, fun i b hb => let ⟨y, h1, h2⟩ := h.2 i b hb; ⟨y, h1, hS b y H H' e h2⟩⟩
theorem ListAt.mono (hS : Grows S) (e : Ex H H') {p : Addr} {bs : List β} (h : ListAt S H p bs) : ListAt S H' p bs := let ⟨ys, h1, h2⟩ := h; ⟨ys, e _ _ h1, h2.mono hS e⟩
theorem RowsAt.mono (e : Ex H H') {p : Addr} {k : Nat} {t : Nat → Nat → Nat} (h : RowsAt H p k t) : RowsAt H' p k t := ListAt.mono grows_ints e h
theorem TabAt.mono {a : Ad} (e : Ex H H') {p : Addr} {k : Nat} {t : Nat → Nat → Nat} (h : TabAt a H p k t) : TabAt a H' p k t := ⟨h.good, let ⟨dx, l, h1, h2⟩ := h.at_; ⟨dx, l, e _ _ h1, h2.mono e⟩⟩
theorem JarAt.mono {a : Ad} (e : Ex H H') {p : Addr} {cs : List Nat} (h : JarAt a H p cs) : JarAt a H' p cs := ⟨h.pos, h.le, let ⟨dx, l, h1, h2⟩ := h.at_; ⟨dx, l, e _ _ h1, e _ _ h2⟩⟩
theorem All2.nil : All2 S H [] [] := ⟨rfl, fun i b h => by simp at h⟩
theorem All2.snoc {bs : List β} {ys : List V} {b : β} {y : V} (h : All2 S H bs ys) (hb : S b y H) : All2 S H (bs ++ [b]) (ys ++ [y]) := by
  obtain ⟨h1, h2⟩ := h
  refine ⟨by rw [List.length_append, List.length_append, h1]; rfl, fun i c hc => ?_⟩
  rcases Nat.lt_or_ge i bs.length with hi | hi
  · rw [List.getElem?_append_left hi] at hc
    obtain ⟨z, hz, hs⟩ := h2 i c hc
    exact ⟨z, by rw [List.getElem?_append_left (by omega)]; exact hz, hs⟩
  · rw [List.getElem?_append_right hi] at hc
    have hi0 : i - bs.length = 0 := by
      have := (List.getElem?_eq_some_iff.mp hc).1
      simp at this
      omega
    rw [hi0] at hc
    obtain rfl : b = c := by simpa using hc
    exact ⟨y, by rw [List.getElem?_append_right (by omega), h1, hi0]; rfl, hb⟩
theorem All2.append {bs cs : List β} {ys zs : List V} (h : All2 S H bs ys) (h' : All2 S H cs zs) : All2 S H (bs ++ cs) (ys ++ zs) := by
  obtain ⟨h1, h2⟩ := h
  obtain ⟨h3, h4⟩ := h'
  refine ⟨by rw [List.length_append, List.length_append, h1, h3], fun i c hc => ?_⟩
  rcases Nat.lt_or_ge i bs.length with hi | hi
  · rw [List.getElem?_append_left hi] at hc
    obtain ⟨z, hz, hs⟩ := h2 i c hc
    exact ⟨z, by rw [List.getElem?_append_left (by omega)]; exact hz, hs⟩
  · rw [List.getElem?_append_right hi] at hc
    obtain ⟨z, hz, hs⟩ := h4 _ c hc
    exact ⟨z, by rw [List.getElem?_append_right (by omega), h1]; exact hz, hs⟩
theorem All2.get {bs : List β} {ys : List V} {i : Nat} {y : V} (h : All2 S H bs ys) (hy : ys[i]? = some y) : ∃ b, bs[i]? = some b ∧ S b y H := by
  have hi : i < bs.length := by rw [← h.1]; exact (List.getElem?_eq_some_iff.mp hy).1
  obtain ⟨z, hz, hs⟩ := h.2 i _ (List.getElem?_eq_getElem hi)
  rw [hy] at hz
  cases hz
  exact ⟨_, List.getElem?_eq_getElem hi, hs⟩
/-- values told by their numbers alone -/
theorem All2.flat {γ : Type} {f : γ → V} {bs : List γ} {ys : List V} (h : All2 (fun b y _ => y = f b) H bs ys) : ys = bs.map f := by
  refine List.ext_getElem? fun i => ?_
  rw [List.getElem?_map]
  cases e : bs[i]? with
  | none => exact List.getElem?_eq_none (by rw [h.1]; exact List.getElem?_eq_none_iff.mp e)
  | some b =>
    obtain ⟨y, hy, rfl⟩ := h.2 i b e
    exact hy
theorem rows_at {p : Addr} {k : Nat} {t : Nat → Nat → Nat} (h : RowsAt H p k t) : ∃ ys, H p = some (.lst ys) ∧ ys.length = k ∧ ∀ i, i < k → ∃ q, ys[i]? = some (.ref q) ∧ H q = some (.lst (nVs ((List.range k).map fun j => t i j))) := by
  obtain ⟨ys, h1, h2, h3⟩ := h
  rw [List.length_map, List.length_range] at h2
  refine ⟨ys, h1, h2, fun i hi => ?_⟩
  obtain ⟨y, hy, q, rfl, hq⟩ := h3 i ((List.range k).map fun j => t i j) (by rw [List.getElem?_map, List.getElem?_range hi]; rfl)
  exact ⟨q, hy, hq⟩
theorem rows_mk {p : Addr} {k : Nat} {t : Nat → Nat → Nat} {ys : List V} (h1 : H p = some (.lst ys)) (h2 : ys.length = k) (h3 : ∀ i, i < k → ∃ q, ys[i]? = some (.ref q) ∧ H q = some (.lst (nVs ((List.range k).map fun j => t i j)))) : RowsAt H p k t := by
  refine ⟨ys, h1, by rw [List.length_map, List.length_range]; exact h2, fun i b hb => ?_⟩
  have hi : i < k := by
    have := (List.getElem?_eq_some_iff.mp hb).1
    rw [List.length_map, List.length_range] at this
    exact this
  rw [List.getElem?_map, List.getElem?_range hi] at hb
  obtain rfl : (List.range k).map (fun j => t i j) = b := Option.some.inj hb
  obtain ⟨q, e1, e2⟩ := h3 i hi
  exact ⟨_, e1, q, rfl, e2⟩
end

/-! ### more evaluations -/
section
variable {K : PySem.W.Frag} {σ : L2.St} {H H' : Hp} {ta tb tc te : TE} {t u : TT} {x y z v : V} {r r' : R2} {sp : Sp} {C p dx : Addr} {fs : List (Str × V)} {m : Str} {tA : TA} {vs : List V} {D : Ends} {tz : TS}
/-- evaluates to something of which P says: the heap ahead, the value, the heap behind -/
def EvP (te : TE) (σ : L2.St) (H : Hp) (P : Hp → V → Hp → Prop) : Prop := ∀ H1, Ex H H1 → ∀ Q : VK, (∀ v H2, Ex H1 H2 → P H1 v H2 → Q v H2) → te σ H1 Q
def SpP (sp : Sp) (vs : List V) (H : Hp) (P : Hp → V → Hp → Prop) : Prop := ∀ H1, Ex H H1 → ∀ Q : VK, (∀ v H2, Ex H1 H2 → P H1 v H2 → Q v H2) → ∀ E : XK, sp vs H1 Q E
theorem EvP.mono {P : Hp → V → Hp → Prop} (e : Ex H H') (h : EvP te σ H P) : EvP te σ H' P := fun H1 a Q q => h H1 (e.trans a) Q q
theorem evp_of (h : Ev te σ H v) : EvP te σ H (fun _ v' _ => v' = v) := fun H1 e Q q => h H1 e Q fun H2 e2 => q v H2 e2 rfl
theorem EvP.imp {P P' : Hp → V → Hp → Prop} (h : EvP te σ H P) (hi : ∀ H1 v H2, Ex H H1 → Ex H1 H2 → P H1 v H2 → P' H1 v H2) : EvP te σ H P' := fun H1 e Q q => h H1 e Q fun v H2 e2 hp => q v H2 e2 (hi H1 v H2 e e2 hp)
theorem ev_cl (h : EvA tA σ H vs) (hs : SpV sp vs H z) : Ev (tCall sp [] E0 tA) σ H z := ev_call (E := E0) (dvs := []) h (by rw [List.append_nil]; exact hs)
theorem evp_cl {P : Hp → V → Hp → Prop} (h : EvA tA σ H vs) (hs : SpP sp vs H P) : EvP (tCall sp [] E0 tA) σ H (fun H1 v H2 => ∃ H3, Ex H1 H3 ∧ P H3 v H2) := fun H1 e Q q => h H1 e _ fun H2 e2 => by
  show sp (vs ++ []) H2 Q E0
  rw [List.append_nil]
  exact hs H2 (e.trans e2) Q (fun v H3 e3 hp => q v H3 (e2.trans e3) ⟨H2, e2, hp⟩) E0
theorem ev_mt (h : Ev ta σ H (.ref p)) (hp : H p = some (.ins C dx fs)) (hl : fs.lookup m = none) (ha : EvA tA σ H vs) (hs : SpV sp (.ref p :: vs) H z) : Ev (tMeth C m sp [] E0 ta tA) σ H z := fun H1 e Q q =>
  h H1 e _ fun H2 e2 => ⟨p, dx, fs, rfl, e2 _ _ (e _ _ hp), hl, ha H2 (e.trans e2) _ fun H3 e3 => by
    show sp (.ref p :: (vs ++ [])) H3 Q E0
    rw [List.append_nil]
    exact hs H3 ((e.trans e2).trans e3) Q (fun H4 e4 => q H4 ((e2.trans e3).trans e4)) E0⟩
theorem evp_mt {P : Hp → V → Hp → Prop} (h : Ev ta σ H (.ref p)) (hp : H p = some (.ins C dx fs)) (hl : fs.lookup m = none) (ha : EvA tA σ H vs) (hs : SpP sp (.ref p :: vs) H P) : EvP (tMeth C m sp [] E0 ta tA) σ H (fun H1 v H2 => ∃ H3, Ex H1 H3 ∧ P H3 v H2) := fun H1 e Q q =>
  h H1 e _ fun H2 e2 => ⟨p, dx, fs, rfl, e2 _ _ (e _ _ hp), hl, ha H2 (e.trans e2) _ fun H3 e3 => by
    show sp (.ref p :: (vs ++ [])) H3 Q E0
    rw [List.append_nil]
    exact hs H3 ((e.trans e2).trans e3) Q (fun v H4 e4 hp => q v H4 ((e2.trans e3).trans e4) ⟨H3, e2.trans e3, hp⟩) E0⟩
theorem ev_pr (h : Ev ta σ H (.ref p)) (hp : H p = some (.ins C dx fs)) (hs : SpV sp [.ref p] H z) : Ev (tProp C sp [] E0 ta) σ H z := fun H1 e Q q =>
  h H1 e _ fun H2 e2 => ⟨p, dx, fs, rfl, e2 _ _ (e _ _ hp), hs H2 (e.trans e2) Q (fun H3 e3 => q H3 (e2.trans e3)) E0⟩
theorem ev_fld {w : V} (h : Ev ta σ H (.ref p)) (hp : H p = some (.ins C dx fs)) (c : ClsAt K C) (n : NoAttr K C m) (hl : fs.lookup m = some w) : Ev (tFld K ta m) σ H w := fun H1 e Q q =>
  h H1 e _ fun H2 e2 => ⟨p, C, dx, fs, w, rfl, e2 _ _ (e _ _ hp), c.cl, n, hl, q H2 e2⟩
theorem ev_get {xs : List V} (h : Ev ta σ H (.ref p)) (hp : H p = some (.ins C dx fs)) (hi : EvU tb σ H xs) (hs : ∀ q H1, Ex H H1 → H1 q = some (.tup xs) → SpV sp [.ref p, .ref q] H1 z) : Ev (tGetOwn C sp ta tb) σ H z := fun H1 e Q q =>
  h H1 e _ fun H2 e2 => hi H2 (e.trans e2) _ fun w H3 hw e3 h3 => ⟨p, dx, fs, rfl, e3 _ _ (e2 _ _ (e _ _ hp)), hs w H3 ((e.trans e2).trans e3) h3 H3 (Ex.refl H3) Q (fun H4 e4 => q H4 ((e2.trans e3).trans e4)) E0⟩
theorem ev_getV (h : Ev ta σ H (.ref p)) (hp : H p = some (.ins C dx fs)) (hi : Ev tb σ H y) (hs : SpV sp [.ref p, y] H z) : Ev (tGetOwn C sp ta tb) σ H z := fun H1 e Q q =>
  h H1 e _ fun H2 e2 => hi H2 (e.trans e2) _ fun H3 e3 => ⟨p, dx, fs, rfl, e3 _ _ (e2 _ _ (e _ _ hp)), hs H3 ((e.trans e2).trans e3) Q (fun H4 e4 => q H4 ((e2.trans e3).trans e4)) E0⟩
theorem ev_one {op : BoolOp} (h : Ev te σ H v) : Ev te σ H v := h
theorem ev_chain {a b : Bool} (h1 : Ev ta σ H x) (h2 : Ev tb σ H y) (hr : RV r x y H (.bl a)) (h3 : a = true → Ev tc σ H z) (hr' : a = true → RV r' y z H (.bl b)) : Ev (tChain r r' ta tb tc) σ H (.bl (a && b)) := fun H1 e Q q =>
  h1 H1 e _ fun H2 e2 => h2 H2 (e.trans e2) _ fun H3 e3 => hr H3 ((e.trans e2).trans e3) _ fun H4 e4 => ⟨a, rfl, by
    cases a with
    | false => exact q H4 ((e2.trans e3).trans e4)
    | true => exact h3 rfl H4 (((e.trans e2).trans e3).trans e4) _ fun H5 e5 => hr' rfl H5 ((((e.trans e2).trans e3).trans e4).trans e5) Q fun H6 e6 => q H6 ((((e2.trans e3).trans e4).trans e5).trans e6)⟩
/-- the truth of a value by its kind -/
theorem et_tru {b : Bool} (h : Ev te σ H v) (ht : ∀ H1, Ex H H1 → TruV K v H1 b) : EvT (fun σ H Q => te σ H fun x H' => ∃ k, TruV K x H' k ∧ Q k H') σ H b := fun H1 e Q q => h H1 e _ fun H2 e2 => ⟨b, ht H2 (e.trans e2), q H2 e2⟩
theorem rv_isN (h : y = .non) : RV (fun x y H Q => y = .non ∧ Q (.bl (decide (x = .non))) H) x y H (.bl (decide (x = .non))) := fun H1 _ _ q => ⟨h, q H1 (Ex.refl H1)⟩
theorem rv_notN (h : y = .non) : RV (fun x y H Q => y = .non ∧ Q (.bl (!decide (x = .non))) H) x y H (.bl (!decide (x = .non))) := fun H1 _ _ q => ⟨h, q H1 (Ex.refl H1)⟩
/-! statements -/
theorem s_asgP {i : Nat} {P : Hp → V → Hp → Prop} (h : EvP te σ H P) (k : ∀ v H1, Ex H H1 → P H v H1 → D.nx (σ.set i (some v)) H1) : tAsg te (gName i) D σ H := h H (Ex.refl H) _ fun v H1 e hp => k v H1 e hp
theorem q_asgP {i : Nat} {P : Hp → V → Hp → Prop} (h : EvP te σ H P) (k : ∀ v H1, Ex H H1 → P H v H1 → tz D (σ.set i (some v)) H1) : tSeq (tAsg te (gName i)) tz D σ H := s_asgP (D := { D with nx := tz D }) h k
theorem s_retP {P : Hp → V → Hp → Prop} (h : EvP te σ H P) (k : ∀ v H1, Ex H H1 → P H v H1 → D.rt v H1) : tRet te D σ H := h H (Ex.refl H) _ k
end
end Bj

/-! ### what comprehensions give -/
namespace Bj
open PySem PySem.Spec
open PyProof.Rows L2 Evl
/-- all but D stays -/
abbrev Off (D : Addr) (H H' : Hp) : Prop := ∀ a o, a ≠ D → H a = some o → H' a = some o
/-- S doesn't look at D -/
abbrev Keeps {β : Type} (D : Addr) (S : β → V → Hp → Prop) : Prop := ∀ b y H H', Off D H H' → S b y H → S b y H'
theorem Off.ex {D : Addr} {H0 H H' : Hp} (hD : H0 D = none) (e : Ex H0 H) (o : Off D H H') : Ex H0 H' := fun a u h => o a u (ne_of_none h hD) (e a u h)
theorem Off.trans {D : Addr} {H0 H H' : Hp} (o : Off D H0 H) (o' : Off D H H') : Off D H0 H' := fun a u n h => o' a u n (o a u n h)
theorem off_upd {D : Addr} {H : Hp} {o : HO} : Off D H (upd H D o) := fun a u n h => by rw [upd_ne n]; exact h
theorem off_of {D : Addr} {H H' : Hp} (e : Ex H H') : Off D H H' := fun a u _ h => e a u h
theorem All2.keep {β : Type} {D : Addr} {S : β → V → Hp → Prop} {H H' : Hp} (hK : Keeps D S) (o : Off D H H') {bs : List β} {ys : List V} (h : All2 S H bs ys) : All2 S H' bs ys := ⟨h.1, fun i b hb => let ⟨y, h1, h2⟩ := h.2 i b hb; ⟨y, h1, hK b y H H' o h2⟩⟩
section
variable {β : Type} {S : β → V → Hp → Prop} {D : Addr} {K : PySem.W.Frag} {σ : L2.St} {H0 H H' : Hp} {tb : TBd} {te : TE} {tt : TT} {g : TG} {wi : TI} {vs : List Nat}
/-- a clause's body gives the items bs -/
def EvB (S : β → V → Hp → Prop) (D : Addr) (tb : TBd) (σ : L2.St) (H0 : Hp) (bs : List β) : Prop :=
  ∀ (H1 : Hp) (Nx : Hp → Prop) (ys : List V), Ex H0 H1 → H0 D = none → H1 D = some (.lst ys) → ys.length + bs.length < 100000 →
    (∀ H2 zs, Off D H1 H2 → H2 D = some (.lst (ys ++ zs)) → All2 S H2 bs zs → Nx H2) → tb σ H1 Nx
theorem EvB.mono {bs : List β} (e : Ex H H') (h : EvB S D tb σ H bs) : EvB S D tb σ H' bs := fun H1 Nx ys e1 hD hd hl k => h H1 Nx ys (e.trans e1) (fresh_back e hD) hd hl k
theorem eb_emit {b : β} (hK : Keeps D S) (he : EvP te σ H0 (fun H1 v H2 => (∃ l, H1 D = some (.lst l)) → S b v H2)) : EvB S D (bEmit D te) σ H0 [b] := fun H1 Nx ys e hD hd hl k =>
  he H1 e _ fun v H2 e2 hp => ⟨ys, e2 _ _ hd, sz_lt (by have : ([b] : List β).length = 1 := rfl; omega), k _ [v] ((off_of e2).trans off_upd) upd_same (All2.nil.snoc (hK _ _ _ _ off_upd (hp ⟨ys, hd⟩)))⟩
/-- what the turns ahead of i give -/
def outs (b : Nat → Bool) (bs : Nat → List β) (i : Nat) : List β := (List.range i).flatMap fun j => if b j then bs j else []
theorem outs_succ (b : Nat → Bool) (bs : Nat → List β) (i : Nat) : outs b bs (i + 1) = outs b bs i ++ (if b i then bs i else []) := by
  unfold outs
  rw [List.range_succ, List.flatMap_append]
  simp
theorem outs_le (b : Nat → Bool) (bs : Nat → List β) {i n : Nat} (h : i ≤ n) : (outs b bs i).length ≤ (outs b bs n).length := by
  induction n with
  | zero =>
    have : i = 0 := by omega
    subst this
    exact Nat.le_refl _
  | succ n ih =>
    rcases Nat.lt_or_ge i (n + 1) with h' | h'
    · rw [outs_succ, List.length_append]
      have := ih (by omega)
      omega
    · have : i = n + 1 := by omega
      subst this
      exact Nat.le_refl _
/-- an iterator of n turns, its target's slots σs -/
structure Goes (J : It) (n : Nat) (g : TG) (σ0 : L2.St) (σs : Nat → L2.St) (H0 : Hp) : Prop where
  go : ∀ i H', i < n → Ex H0 H' → J.go i H'
  stop : ∀ H', Ex H0 H' → J.stop n H'
  yld : ∀ i x H' H'', i < n → Ex H0 H' → J.yld i H' x H'' → Ex H' H'' ∧ ∀ F : L2.St → Hp → Prop, F (σs i) H'' → g x σ0 H'' F
theorem Goes.mono {J : It} {n : Nat} {σ0 : L2.St} {σs : Nat → L2.St} (e : Ex H H') (h : Goes J n g σ0 σs H) : Goes J n g σ0 σs H' := ⟨fun i H1 hi e1 => h.go i H1 hi (e.trans e1), fun H1 e1 => h.stop H1 (e.trans e1), fun i x H1 H2 hi e1 y => h.yld i x H1 H2 hi (e.trans e1) y⟩
theorem loop_any {J : It} {n : Nat} {σs : Nat → L2.St} {b : Nat → Bool} {bs : Nat → List β} {Nx : Hp → Prop} {H1 : Hp} {ys : List V} (hK : Keeps D S) (G : Goes J n g (wipe σ vs) σs H0) (hw : ∀ i, i < n → wipe (σs i) vs = wipe σ vs)
    (ht : ∀ i, i < n → EvT tt (σs i) H0 (b i)) (hb : ∀ i, i < n → b i = true → EvB S D tb (σs i) H0 (bs i)) (e : Ex H0 H1) (hD : H0 D = none) (hd : H1 D = some (.lst ys)) (hl : ys.length + (outs b bs n).length < 100000)
    (k : ∀ H2 zs, Off D H1 H2 → H2 D = some (.lst (ys ++ zs)) → All2 S H2 (outs b bs n) zs → Nx H2) :
    ∃ W : Nat → Nat → Hp → Prop, (∃ m, W 0 m H1) ∧ ∀ j m H, W j m H → (J.stop j H ∧ Nx H) ∨ (J.go j H ∧ ∃ N1 : Hp → Prop, (∀ H', N1 H' → ∃ m', m' < m ∧ W (j + 1) m' H') ∧ ∀ x H', J.yld j H x H' → g x (wipe σ vs) H' fun σ2 H2 => wipe σ2 vs = wipe σ vs ∧ tt σ2 H2 fun c H3 =>
      if c = true then tb σ2 H3 N1 else N1 H3) := by
  let Pv : Nat → Hp → Prop := fun i H' => Off D H1 H' ∧ ∃ zs, H' D = some (.lst (ys ++ zs)) ∧ All2 S H' (outs b bs i) zs
  refine ⟨fun i m H' => m = n - i ∧ i ≤ n ∧ Pv i H', ⟨n, by omega, Nat.zero_le _, fun a u _ h => h, [], by rw [List.append_nil]; exact hd, All2.nil⟩, ?_⟩
  rintro i m H' ⟨rfl, hi, o, zs, hz, ha⟩
  have e' : Ex H0 H' := Off.ex hD e o
  by_cases hlt : i < n
  · refine .inr ⟨G.go i H' hlt e', Pv (i + 1), fun H2 p => ⟨n - (i + 1), by omega, rfl, hlt, p⟩, fun x H'' y => ?_⟩
    obtain ⟨ey, fy⟩ := G.yld i x H' H'' hlt e' y
    refine fy _ ⟨hw i hlt, ht i hlt H'' (e'.trans ey) _ fun H3 e3 => ?_⟩
    have hz3 : H3 D = some (.lst (ys ++ zs)) := e3 _ _ (ey _ _ hz)
    have o3 : Off D H1 H3 := o.trans (off_of (ey.trans e3))
    have a3 : All2 S H3 (outs b bs i) zs := ha.keep hK (off_of (ey.trans e3))
    cases hc : b i with
    | false =>
      show Pv (i + 1) H3
      refine ⟨o3, zs, hz3, ?_⟩
      rw [outs_succ, hc]
      simpa using a3
    | true =>
      show tb (σs i) H3 (Pv (i + 1))
      have hlen := outs_le b bs (show i + 1 ≤ n from hlt)
      rw [outs_succ, hc, List.length_append] at hlen
      refine hb i hlt hc H3 _ (ys ++ zs) ((e'.trans ey).trans e3) hD hz3 (by rw [List.length_append, ha.1]; simp only [if_true] at hlen; omega) fun H4 ws o4 h4 a4 => ?_
      refine ⟨o3.trans o4, zs ++ ws, by rw [← List.append_assoc]; exact h4, ?_⟩
      rw [outs_succ, hc]
      exact (a3.keep hK o4).append a4
  · have : i = n := by omega
    subst this
    exact .inl ⟨G.stop H' e', k H' zs o hz ha⟩
/-- an inner clause -/
theorem eb_any {J : It} {n : Nat} {σs : Nat → L2.St} {b : Nat → Bool} {bs : Nat → List β} (hK : Keeps D S) (hwi : ∀ H1 (R : It → Hp → Prop), Ex H0 H1 → (∀ H2, Ex H1 H2 → R J H2) → wi σ H1 R) (G : Goes J n g (wipe σ vs) σs H0) (hw : ∀ i, i < n → wipe (σs i) vs = wipe σ vs)
    (ht : ∀ i, i < n → EvT tt (σs i) H0 (b i)) (hb : ∀ i, i < n → b i = true → EvB S D tb (σs i) H0 (bs i)) : EvB S D (bNext wi g tt tb vs) σ H0 (outs b bs n) := fun H1 Nx ys e hD hd hl k =>
  hwi H1 _ e fun H2 e2 => loop_any hK G hw ht hb (e.trans e2) hD (e2 _ _ hd) hl fun H3 zs o3 h3 a3 => k H3 zs ((off_of e2).trans o3) h3 a3
/-- the whole comprehension -/
def NewOf (S : Addr → β → V → Hp → Prop) (bs : List β) : Hp → V → Hp → Prop := fun H1 v H2 => ∃ D zs, v = .ref D ∧ H1 D = none ∧ H2 D = some (.lst zs) ∧ All2 (S D) H2 bs zs
theorem lc_any {S : Addr → β → V → Hp → Prop} {tb : Addr → TBd} {J : It} {n : Nat} {σs : Nat → L2.St} {b : Nat → Bool} {bs : Nat → List β} (hK : ∀ D, Keeps D (S D)) (hwi : ∀ H1 (R : It → Hp → Prop), Ex H0 H1 → (∀ H2, Ex H1 H2 → R J H2) → wi σ H1 R) (G : Goes J n g (wipe σ vs) σs H0)
    (hw : ∀ i, i < n → wipe (σs i) vs = wipe σ vs) (ht : ∀ i, i < n → EvT tt (σs i) H0 (b i)) (hb : ∀ D i, i < n → b i = true → EvB (S D) D (tb D) (σs i) H0 (bs i)) (hl : (outs b bs n).length < 100000) :
    EvP (tLcB wi g tt tb vs) σ H0 (NewOf S (outs b bs n)) := fun H1 e Q q => hwi H1 _ e fun H2 e2 D hD =>
  loop_any (hK D) (G.mono (e.trans e2)) hw (fun i hi => (ht i hi).mono (e.trans e2)) (fun i hi hc => (hb D i hi hc).mono (e.trans e2)) (Ex.new hD) hD upd_same (by simpa using hl) fun H3 zs o3 h3 a3 =>
    q (.ref D) H3 (e2.trans (Off.ex hD (Ex.new hD) o3)) ⟨D, zs, rfl, fresh_back e2 hD, by simpa using h3, a3⟩

/-! the iterators -/
theorem goes_list {a : Addr} {xs : List V} {j : Nat} {σ0 : L2.St} (hx : SqL K H0 a xs) : Goes (Itl K a) xs.length (gName j) σ0 (fun i => σ0.set j (xs[i]?)) H0 where
  go := fun i H' hi e => ⟨xs, xs[i], ex_l e hx, by simp [hi]⟩
  stop := fun H' e => ⟨xs, ex_l e hx, Nat.le_refl _⟩
  yld := fun i x H' H'' hi e y => by
    obtain ⟨rfl, y⟩ := y
    refine ⟨Ex.refl _, fun F hF => ?_⟩
    have := y xs (ex_l e hx)
    rw [this] at hF
    exact hF
theorem wi_list {tl : TE} {a : Addr} {xs : List V} (h : Ev tl σ H0 (.ref a)) (hx : SqL K H0 a xs) : ∀ H1 (R : It → Hp → Prop), Ex H0 H1 → (∀ H2, Ex H1 H2 → R (Itl K a) H2) → iList K tl σ H1 R := fun H1 R e q =>
  h H1 e _ fun H2 e2 => ⟨a, rfl, ⟨xs, ex_l (e.trans e2) hx⟩, q H2 e2⟩
theorem goes_range {n : Nat} {j : Nat} {σ0 : L2.St} : Goes (Itr 0 n) n (gName j) σ0 (fun i => σ0.set j (some (nV i))) H0 where
  go := fun i H' hi e => hi
  stop := fun H' e => Nat.le_refl _
  yld := fun i x H' H'' hi e y => by
    obtain ⟨rfl, rfl⟩ := y
    refine ⟨Ex.refl _, fun F hF => ?_⟩
    show F (σ0.set j (some (.int (0 + (i : Int))))) _
    rw [Int.zero_add]
    exact hF
theorem wi_range {ta : TA} {n : Nat} (h : EvA ta σ H0 [nV n]) (hn : n < 100000) : ∀ H1 (R : It → Hp → Prop), Ex H0 H1 → (∀ H2, Ex H1 H2 → R (Itr 0 n) H2) → iRng1 ta σ H1 R := fun H1 R e q =>
  h H1 e _ fun H2 e2 => ⟨(n : Int), rfl, by omega, by omega, by simpa using q H2 e2⟩
end
end Bj

/-! ### more evaluations: isinstance, comprehensions, promises -/
namespace Bj
open PySem PySem.Spec
open PyProof.Rows L2 Evl
/-- a promise: a value told by the arguments; nothing else changes -/
def spV (P : List V → Hp → V → Prop) : Sp := fun vs H Q _ => ∃ z, P vs H z ∧ RetV z H Q
/-- a promise: a value of which R says -/
def spP (A : List V → Hp → (V → Hp → Prop) → Prop) : Sp := fun vs H Q _ => ∃ R : V → Hp → Prop, A vs H R ∧ ∀ v H', Ex H H' → R v H' → Q v H'
section
variable {K : PySem.W.Frag} {σ : L2.St} {H H' : Hp} {ta tb tc te : TE} {t u : TT} {x y z v : V} {vs : List V} {n m : String} {b c : Bool} {ty : Value} {D : Ends} {tz : TS}
theorem spv_use {P : List V → Hp → V → Prop} (h : ∀ H1, Ex H H1 → P vs H1 z) : SpV (spV P) vs H z := fun H1 e Q q E => ⟨z, h H1 e, fun H2 e2 => q H2 e2⟩
theorem spp_use {A : List V → Hp → (V → Hp → Prop) → Prop} {R : Hp → V → Hp → Prop} (h : ∀ H1, Ex H H1 → A vs H1 (R H1)) : SpP (spP A) vs H R := fun H1 e Q q E => ⟨R H1, h H1 e, fun v H' e' r => q v H' e' r⟩
theorem ev_isI (h : Ev te σ H x) (hy : ∀ H1, Ex H H1 → TyX K H1 x ty) (e : PySem.W.kitOne K ty (.type n) = some b) : Ev (tCB (rIsi K) (tCons te (tCons (tC (.ty n)) tNil))) σ H (.bl b) := fun H1 e1 Q q =>
  h H1 e1 _ fun H2 e2 => ⟨x, .ty n, ty, .type n, b, rfl, .ty n, hy H2 (e1.trans e2), e, q H2 e2⟩
theorem ev_isT (h : Ev te σ H x) (hy : ∀ H1, Ex H H1 → TyX K H1 x ty) (e : PySem.W.kitAny K ty [.type n, .type m] = some b) : Ev (tCB (rIsiT K) (tCons te (tCons (tTup (tCons (tC (.ty n)) (tCons (tC (.ty m)) tNil))) tNil))) σ H (.bl b) := fun H1 e1 Q q =>
  h H1 e1 _ fun H2 e2 => ⟨sz_of (by show 2 ≤ 100000; decide), fun p np => ⟨x, p, _, ty, [.type n, .type m], b, rfl, upd_same, .cons (.ty n) (.cons (.ty m) .nil), hy _ ((e1.trans e2).trans (Ex.new np)), e, q _ (e2.trans (Ex.new np))⟩⟩
theorem ty_int {i : Int} : ∀ H1, Ex H H1 → TyX K H1 (.int i) (.type "int") := fun _ _ => .base (.int i)
theorem ty_lst {p : Addr} {xs : List V} (h : H p = some (.lst xs)) : ∀ H1, Ex H H1 → TyX K H1 (.ref p) (.type "list") := fun _ e => .base (.lst (e _ _ h))
theorem ty_tup {p : Addr} {xs : List V} (h : H p = some (.tup xs)) : ∀ H1, Ex H H1 → TyX K H1 (.ref p) (.type "tuple") := fun _ e => .base (.tup (e _ _ h))
theorem ev_isLstL {p : Addr} {xs : List V} (h : Ev te σ H (.ref p)) (hp : H p = some (.lst xs)) : Ev (tCB (rIsiT K) (tCons te (tCons (tTup (tCons (tC (.ty "list")) (tCons (tC (.ty "tuple")) tNil))) tNil))) σ H (.bl true) :=
  ev_isT h (ty_lst hp) (kitAny_cons (b := true) (kit_ty (by decide +kernel)) (fun h => nomatch h) (fun _ => rfl))
theorem ev_isLstT {p : Addr} {xs : List V} (h : Ev te σ H (.ref p)) (hp : H p = some (.tup xs)) : Ev (tCB (rIsiT K) (tCons te (tCons (tTup (tCons (tC (.ty "list")) (tCons (tC (.ty "tuple")) tNil))) tNil))) σ H (.bl true) :=
  ev_isT h (ty_tup hp) (kitAny_cons (b := false) (kit_ty (by decide +kernel)) (fun _ => kitAny_cons (b := true) (kit_ty (by decide +kernel)) (fun h => nomatch h) (fun _ => rfl)) (fun h => nomatch h))
theorem ev_isInt {i : Int} (h : Ev te σ H (.int i)) : Ev (tCB (rIsi K) (tCons te (tCons (tC (.ty "int")) tNil))) σ H (.bl true) := ev_isI h ty_int (kit_ty (by decide +kernel))
theorem ev_isBool {i : Int} (h : Ev te σ H (.int i)) : Ev (tCB (rIsi K) (tCons te (tCons (tC (.ty "bool")) tNil))) σ H (.bl false) := ev_isI h ty_int (kit_ty (by decide +kernel))
theorem ev_isTup {p : Addr} {xs : List V} (h : Ev te σ H (.ref p)) (hp : H p = some (.tup xs)) : Ev (tCB (rIsi K) (tCons te (tCons (tC (.ty "tuple")) tNil))) σ H (.bl true) := ev_isI h (ty_tup hp) (kit_ty (by decide +kernel))
theorem pt_v {b : Bool} (h : Ev te σ H (.bl b)) : EvT (tB te) σ H b := et_B h
theorem ev_lenC {p : Addr} {xs : List V} (ha : Ev ta σ H (.ref p)) (h : SqL K H p xs ∨ SqT K H p xs) : Ev (tCB (fun vs H Q => ∃ p ys, vs = [.ref p] ∧ (SqL K H p ys ∨ SqT K H p ys) ∧ Q (.int ys.length) H) (tCons ta tNil)) σ H (.int (xs.length : Int)) := fun H1 e Q q =>
  ha H1 e _ fun H2 e2 => ⟨p, xs, rfl, h.imp (ex_l (e.trans e2)) (ex_t (e.trans e2)), q H2 e2⟩
/-- a chain of two comparisons of ints -/
theorem ev_le2 {i j k : Int} {f g : Int → Int → Bool} (h1 : Ev ta σ H (.int i)) (h2 : Ev tb σ H (.int j)) (h3 : Ev tc σ H (.int k)) : Ev (tChain (rI0 fun i j => .bl (f i j)) (rI0 fun i j => .bl (g i j)) ta tb tc) σ H (.bl (f i j && g j k)) :=
  ev_chain h1 h2 rv_I0 (fun _ => h3) (fun _ => rv_I0)
theorem ev_all {bs : List Bool} {P : Hp → V → Hp → Prop} (h : EvP te σ H P) (hP : ∀ H1 v H2, P H1 v H2 → ∃ a, v = .ref a ∧ H2 a = some (.lst (bs.map V.bl))) : Ev (tCB (rAll K) (tCons te tNil)) σ H (.bl (bs.all id)) := fun H1 e Q q =>
  h H1 e _ fun v H2 e2 hp => by
    obtain ⟨a, rfl, ha⟩ := hP H1 v H2 hp
    exact ⟨a, bs, rfl, sq_of ha, q H2 e2⟩
end
/-! shorter words for what comes often -/
section
variable {X : Cx} {a : Ad} {e e1 e2 : Expr} {es : List Expr} {te t1 t2 : TE} {x : Str} {pos p1 p2 p3 p4 : Pos}
theorem pe_ty {n : String} (hg : Gl X x) (hm : X.mg x = none) (hv : bootBuiltins x = some (.type n)) (hn : x ≠ "__name__" := by decide) (hd : (x == ("__debug__" : Str)) = false := by decide) : PE X (.Name x pos) (tC (.ty n)) := pe_bltn (v := .ty n) hg hm hv rfl hn hd
theorem pe_isLT {c : Nat} {K : PySem.W.Frag} {mg : Str → Option Value} (T : Txt K mg a) (he : PE X e te) (hK : X.K = K := by rfl) (hM : X.mg = mg := by rfl) (h1 : Gl X "isinstance" := by rfl) (h2 : Gl X "list" := by rfl) (h3 : Gl X "tuple" := by rfl)
    (hst : starEach (e :: [.Tuple [.Name "list" p2, .Name "tuple" p3] c p4]) X.env = (false, eval e X.env) :: starEach [.Tuple [.Name "list" p2, .Name "tuple" p3] c p4] X.env := by rfl) (hpl : (backTo pos (starEach [.Tuple [.Name "list" p2, .Name "tuple" p3] c p4] X.env)).any (·.1) = false := by rfl) :
    PE X (.Call (.Name "isinstance" p1) [e, .Tuple [.Name "list" p2, .Name "tuple" p3] c p4] [] pos) (tCB (rIsiT K) (tCons te (tCons (tTup (tCons (tC (.ty "list")) (tCons (tC (.ty "tuple")) tNil))) tNil))) := by
  subst hK hM
  exact pe_callB call_isiT h1 T.b_isinstance boot_isinstance (pa_cons he (pa_cons (pe_tup (pa_cons (pe_ty h2 T.b_list PyProof.Rows.boot_list) (pa_cons (pe_ty h3 T.b_tuple PyProof.Rows.boot_tuple) pa_nil))) pa_nil) hst) (by decide) (by decide) hst hpl
end
section
variable {X : Cx} {a : Ad} {e e1 e2 tg : Expr} {es : List Expr} {te t1 t2 : TE} {x : Str} {pos p1 p2 p3 p4 : Pos} {mg : Str → Option Value}
theorem pe_len {K : PySem.W.Frag} (T : Txt K mg a) (he : PE X e te) (hK : X.K = K := by rfl) (hM : X.mg = mg := by rfl) (h1 : Gl X "len" := by rfl)
    (hst : starEach [e] X.env = (false, eval e X.env) :: starEach [] X.env := by rfl) : PE X (.Call (.Name "len" p1) [e] [] pos) (tCB (rLenS K) (tCons te tNil)) := by
  subst hK hM
  exact pe_callB call_len_seq h1 T.b_len PySem.boot_len (pa_cons he pa_nil hst) (by decide) (by decide) hst rfl
theorem pe_ixl (K : PySem.W.Frag) (h1 : PE X e1 t1) (h2 : PE X e2 t2) (hK : X.K = K := by rfl) (hs : PlainIx e2 := by intro _ _; rfl) : PE X (.Subscript e1 e2 pos) (tOp (rIxL K) t1 t2) := by
  subst hK
  exact pe_ix ix_list h1 h2 hs
theorem pe_ixt (K : PySem.W.Frag) (h1 : PE X e1 t1) (h2 : PE X e2 t2) (hK : X.K = K := by rfl) (hs : PlainIx e2 := by intro _ _; rfl) : PE X (.Subscript e1 e2 pos) (tOp (rIxT K) t1 t2) := by
  subst hK
  exact pe_ix ix_tup h1 h2 hs
theorem op_inK (K : PySem.W.Frag) (hK : X.K = K := by rfl) : OpR X (compareOp .In) (rIn K false) := by
  subst hK
  exact op_in_seq
theorem pi_lst (K : PySem.W.Frag) (he : PE X e te) (hK : X.K = K := by rfl) : PI X tg e (iList K te) := by
  subst hK
  exact pi_list he
theorem pi_rng {K : PySem.W.Frag} (T : Txt K mg a) (he : PE X e te) (hM : X.mg = mg := by rfl) (h1 : Gl X "range" := by rfl) (hst : starEach [e] X.env = (false, eval e X.env) :: starEach [] X.env := by rfl) : PI X tg (.Call (.Name "range" p1) [e] [] pos) (iRng1 (tCons te tNil)) := by
  subst hM
  exact pi_range1 h1 T.b_range (pa_cons he pa_nil hst) hst
theorem pe_max2 {K : PySem.W.Frag} (T : Txt K mg a) (h1 : PE X e1 t1) (h2 : PE X e2 t2) (hc : X.calm = true := by rfl) (hM : X.mg = mg := by rfl) (h1g : Gl X "max" := by rfl) (hst : starEach [e1, e2] X.env = (false, eval e1 X.env) :: starEach [e2] X.env := by rfl) (hst2 : starEach [e2] X.env = (false, eval e2 X.env) :: starEach [] X.env := by rfl)
    (hpl : (backTo pos (starEach [e2] X.env)).any (·.1) = false := by rfl) : PE X (.Call (.Name "max" p1) [e1, e2] [] pos) (tCB rMax2 (tCons t1 (tCons t2 tNil))) := by
  subst hM
  exact pe_callB (call_max2 hc) h1g T.b_max PyProof.Rows.boot_max (pa_cons h1 (pa_cons h2 pa_nil hst2) hst) (by decide) (by decide) hst hpl
def rMin2 : List V → Hp → VK → Prop := fun xs H Q => ∃ i j, xs = [.int i, .int j] ∧ Q (.int (if j < i then j else i)) H
theorem pe_min2 {K : PySem.W.Frag} (T : Txt K mg a) (h1 : PE X e1 t1) (h2 : PE X e2 t2) (hc : X.calm = true := by rfl) (hM : X.mg = mg := by rfl) (h1g : Gl X "min" := by rfl) (hst : starEach [e1, e2] X.env = (false, eval e1 X.env) :: starEach [e2] X.env := by rfl) (hst2 : starEach [e2] X.env = (false, eval e2 X.env) :: starEach [] X.env := by rfl)
    (hpl : (backTo pos (starEach [e2] X.env)).any (·.1) = false := by rfl) : PE X (.Call (.Name "min" p1) [e1, e2] [] pos) (tCB rMin2 (tCons t1 (tCons t2 tNil))) := by
  subst hM
  exact pe_callB (call_min2 hc) h1g T.b_min PyProof.Rows.boot_min (pa_cons h1 (pa_cons h2 pa_nil hst2) hst) (by decide) (by decide) hst hpl
theorem ev_min2 {σ : L2.St} {H : Hp} {i j : Int} (ha : Ev t1 σ H (.int i)) (hb : Ev t2 σ H (.int j)) : Ev (tCB rMin2 (tCons t1 (tCons t2 tNil))) σ H (.int (if j < i then j else i)) := fun H1 e Q q =>
  ha H1 e _ fun H2 e2 => hb H2 (e.trans e2) _ fun H3 e3 => ⟨i, j, rfl, q H3 (e2.trans e3)⟩
theorem ev_lenS {K : PySem.W.Frag} {σ : L2.St} {H : Hp} {p : Addr} {xs : List V} (ha : Ev te σ H (.ref p)) (h : SqL K H p xs ∨ SqT K H p xs) : Ev (tCB (rLenS K) (tCons te tNil)) σ H (.int (xs.length : Int)) := fun H1 e Q q =>
  ha H1 e _ fun H2 e2 => ⟨p, xs, rfl, h.imp (ex_l (e.trans e2)) (ex_t (e.trans e2)), q H2 e2⟩
theorem ev_ixl {K : PySem.W.Frag} {σ : L2.St} {H : Hp} {p : Addr} {xs : List V} {i : Nat} {v : V} (ha : Ev t1 σ H (.ref p)) (hb : Ev t2 σ H (nV i)) (h : H p = some (.lst xs)) (hv : xs[i]? = some v) : Ev (tOp (rIxL K) t1 t2) σ H v := ev_op ha hb (rv_ixL (sq_of h) (atI_nat hv))
theorem ev_ixt {K : PySem.W.Frag} {σ : L2.St} {H : Hp} {p : Addr} {xs : List V} {i : Nat} {v : V} (ha : Ev t1 σ H (.ref p)) (hb : Ev t2 σ H (nV i)) (h : H p = some (.tup xs)) (hv : xs[i]? = some v) : Ev (tOp (rIxT K) t1 t2) σ H v := ev_op ha hb (rv_ixT (st_of h) (atI_nat hv))
end
section
variable {X : Cx} {a : Ad} {e e1 e2 tg : Expr} {es : List Expr} {te t1 t2 : TE} {x y : Str} {pos p1 p2 p3 p4 : Pos} {mg : Str → Option Value} {σ : L2.St} {H : Hp}
theorem pe_lof {K : PySem.W.Frag} (T : Txt K mg a) (he : PE X e te) (hK : X.K = K := by rfl) (hM : X.mg = mg := by rfl) (h1 : Gl X "list" := by rfl)
    (hst : starEach [e] X.env = (false, eval e X.env) :: starEach [] X.env := by rfl) : PE X (.Call (.Name "list" p1) [e] [] pos) (tCB (rListS K) (tCons te tNil)) := by
  subst hK hM
  exact pe_callTy call_list_of h1 T.b_list PyProof.Rows.boot_list (pa_cons he pa_nil hst) (by decide) (by decide) hst rfl
theorem pe_lrng {K : PySem.W.Frag} (T : Txt K mg a) (he : PE X e te) (hc : X.calm = true := by rfl) (hM : X.mg = mg := by rfl) (h1 : Gl X "list" := by rfl) (h2 : Gl X "range" := by rfl)
    (hst : starEach [e] X.env = (false, eval e X.env) :: starEach [] X.env := by rfl) (hst2 : starEach [.Call (.Name "range" p2) [e] [] p3] X.env = (false, eval (.Call (.Name "range" p2) [e] [] p3) X.env) :: starEach [] X.env := by rfl) : PE X (.Call (.Name "list" p1) [.Call (.Name "range" p2) [e] [] p3] [] pos) (tLstRg (tRg1 te)) := by
  subst hM
  exact pe_listRg hc h1 T.b_list (prg_1 h2 T.b_range he hst) hst2
theorem el_lrng {n : Nat} (h : Ev te σ H (nV n)) (hn : n ≤ 100000) : EvL (tLstRg (tRg1 te)) σ H (nVs (List.range n)) := fun H1 e Q q =>
  h H1 e _ fun H2 e2 => ⟨(n : Int), rfl, RgOk.of_le (by omega) (by omega) (by omega) (by omega), fun p np => q p _ (fresh_back e2 np) (e2.trans (Ex.new np)) (by
    rw [upd_same]
    unfold rgV nVs
    have : ((n : Int) - 0).toNat = n := by omega
    rw [this]
    congr 2
    refine List.map_congr_left fun i _ => ?_
    show V.int (0 + (i : Int)) = V.int (i : Int)
    rw [Int.zero_add])⟩
theorem pg_tupK (K : PySem.W.Frag) {es : List Expr} {k : Nat} {t : TGs} {n : Nat} (hc : X.calm = true) (h : PGs X es t) (hK : X.K = K := by rfl)
    (hn : (assignEach es X.env).length = n := by rfl) (hst : (assignEach es X.env).findIdx? (·.1) = none := by rfl) : PG X (.Tuple es k pos) (gTup K n t) := by
  subst hK
  exact pg_tup hc h hn hst
theorem q_forP {K : PySem.W.Frag} {tl : TE} {g : TG} {tb tz : TS} {D : Ends} {P : Hp → V → Hp → Prop} (h : EvP tl σ H P) (k : ∀ v H1, Ex H H1 → P H v H1 → tSeq (tFor (iList K (tC v)) g tb) tz D σ H1) : tSeq (tFor (iList K tl) g tb) tz D σ H := h H (Ex.refl H) _ k
theorem s_forP {K : PySem.W.Frag} {tl : TE} {g : TG} {tb : TS} {D : Ends} {P : Hp → V → Hp → Prop} (h : EvP tl σ H P) (k : ∀ v H1, Ex H H1 → P H v H1 → tFor (iList K (tC v)) g tb D σ H1) : tFor (iList K tl) g tb D σ H := h H (Ex.refl H) _ k
end
theorem ev_notN {σ : L2.St} {H : Hp} {te : TE} {x : V} (h : Ev te σ H x) : Ev (tNotN te) σ H (.bl (!decide (x = .non))) := fun H1 e Q q => h H1 e _ fun H2 e2 => q H2 e2
theorem ev_isN {σ : L2.St} {H : Hp} {te : TE} {x : V} (h : Ev te σ H x) : Ev (tIsN te) σ H (.bl (decide (x = .non))) := fun H1 e Q q => h H1 e _ fun H2 e2 => q H2 e2
/-! comprehensions -/
theorem outs_map {β : Type} {c : Nat → β} {n : Nat} : outs (fun _ => true) (fun i => [c i]) n = (List.range n).map c := by
  unfold outs
  simp only [if_true]
  induction List.range n with
  | nil => rfl
  | cons x l ih => rw [List.flatMap_cons, ih]; rfl
theorem outs_filter {β : Type} {b : Nat → Bool} {c : Nat → β} {n : Nat} : outs b (fun i => [c i]) n = ((List.range n).filter b).map c := by
  unfold outs
  induction List.range n with
  | nil => rfl
  | cons x l ih =>
    rw [List.flatMap_cons, ih]
    cases h : b x with
    | true => rw [List.filter_cons_of_pos h]; rfl
    | false => rw [List.filter_cons_of_neg (by rw [h]; exact Bool.false_ne_true)]; rfl
theorem outs_flat {β : Type} {bs : Nat → List β} {n : Nat} : outs (fun _ => true) bs n = (List.range n).flatMap bs := by
  unfold outs
  simp only [if_true]
section
variable {β : Type} {K : PySem.W.Frag} {σ : L2.St} {H0 H H' : Hp} {tb : Addr → TBd} {te : TE} {tt : TT} {g : TG} {wi : TI} {vs : List Nat}
/-- items told by f alone -/
abbrev SFlat (f : β → V) : Addr → β → V → Hp → Prop := fun _ b y _ => y = f b
theorem keeps_flat {f : β → V} : ∀ D, Keeps D (SFlat f D) := fun _ _ _ _ _ _ h => h
/-- new tuples, no one the list itself -/
abbrev STup (f : β → List V) : Addr → β → V → Hp → Prop := fun D b y H => ∃ q, y = .ref q ∧ q ≠ D ∧ H q = some (.tup (f b))
theorem keeps_tup {f : β → List V} : ∀ D, Keeps D (STup f D) := fun _ _ _ _ _ o ⟨q, h1, h2, h3⟩ => ⟨q, h1, h2, o q _ h2 h3⟩
abbrev SLst (f : β → List V) : Addr → β → V → Hp → Prop := fun D b y H => ∃ q, y = .ref q ∧ q ≠ D ∧ H q = some (.lst (f b))
theorem keeps_lst {f : β → List V} : ∀ D, Keeps D (SLst f D) := fun _ _ _ _ _ o ⟨q, h1, h2, h3⟩ => ⟨q, h1, h2, o q _ h2 h3⟩
theorem eb_flat {f : β → V} {D : Addr} {b : β} (h : Ev te σ H0 (f b)) : EvB (SFlat f D) D (bEmit D te) σ H0 [b] := eb_emit (keeps_flat D) ((evp_of h).imp fun _ _ _ _ _ hp _ => hp)
theorem eb_tup {f : β → List V} {D : Addr} {b : β} (h : EvU te σ H0 (f b)) : EvB (STup f D) D (bEmit D te) σ H0 [b] := eb_emit (keeps_tup D) fun H1 e Q q => h H1 e _ fun p H2 np e2 h2 => q _ H2 e2 fun ⟨l, hl⟩ => ⟨p, rfl, fun ed => by rw [ed, hl] at np; exact (nomatch np), h2⟩
theorem eb_lstP {f : β → List V} {D : Addr} {b : β} {P : Hp → V → Hp → Prop} (h : EvP te σ H0 P) (hP : ∀ H1 v H2, P H1 v H2 → ∃ p, v = .ref p ∧ H1 p = none ∧ H2 p = some (.lst (f b))) : EvB (SLst f D) D (bEmit D te) σ H0 [b] := eb_emit (keeps_lst D) fun H1 e Q q => h H1 e _ fun v H2 e2 hp => q _ H2 e2 fun ⟨l, hl⟩ => by
  obtain ⟨p, rfl, np, h2⟩ := hP H1 v H2 hp
  exact ⟨p, rfl, fun ed => by rw [ed, hl] at np; exact (nomatch np), h2⟩
theorem eb_lst {f : β → List V} {D : Addr} {b : β} (h : EvL te σ H0 (f b)) : EvB (SLst f D) D (bEmit D te) σ H0 [b] := eb_lstP (P := fun H1 v H2 => ∃ p, v = .ref p ∧ H1 p = none ∧ H2 p = some (.lst (f b))) (fun H1 e Q q => h H1 e _ fun p H2 np e2 h2 => q _ H2 e2 ⟨p, rfl, np, h2⟩) (fun _ _ _ h => h)
theorem newof_flat {f : β → V} {bs : List β} {H1 H2 : Hp} {v : V} (h : NewOf (SFlat f) bs H1 v H2) : ∃ p, v = .ref p ∧ H1 p = none ∧ H2 p = some (.lst (bs.map f)) := by
  obtain ⟨D, zs, rfl, hD, hz, ha⟩ := h
  exact ⟨D, rfl, hD, by rw [hz, ha.flat (f := f)]⟩
theorem el_newof {f : β → V} {bs : List β} {ta : TE} (h : EvP ta σ H (NewOf (SFlat f) bs)) : EvL ta σ H (bs.map f) := fun H1 e Q q => h H1 e _ fun v H2 e2 hp => by
  obtain ⟨p, rfl, np, h2⟩ := newof_flat hp
  exact q p H2 np e2 h2
theorem newof_tup {f : β → List V} {bs : List β} {H1 H2 : Hp} {v : V} (h : NewOf (STup f) bs H1 v H2) : ∃ p, v = .ref p ∧ H1 p = none ∧ ListAt (fun b y H => ∃ q, y = .ref q ∧ H q = some (.tup (f b))) H2 p bs := by
  obtain ⟨D, zs, rfl, hD, hz, ha⟩ := h
  exact ⟨D, rfl, hD, zs, hz, ha.1, fun i b hb => let ⟨y, h1, q, h2, _, h3⟩ := ha.2 i b hb; ⟨y, h1, q, h2, h3⟩⟩
theorem newof_lst {f : β → List V} {bs : List β} {H1 H2 : Hp} {v : V} (h : NewOf (SLst f) bs H1 v H2) : ∃ p, v = .ref p ∧ H1 p = none ∧ ListAt (fun b y H => ∃ q, y = .ref q ∧ H q = some (.lst (f b))) H2 p bs := by
  obtain ⟨D, zs, rfl, hD, hz, ha⟩ := h
  exact ⟨D, rfl, hD, zs, hz, ha.1, fun i b hb => let ⟨y, h1, q, h2, _, h3⟩ := ha.2 i b hb; ⟨y, h1, q, h2, h3⟩⟩
theorem et_yes : EvT tYes σ H true := fun H1 _ _ q => q H1 (Ex.refl H1)
end
end Bj

/-! ### tables -/
namespace Bj
open PySem PySem.Spec
open PyProof.Rows L2 Evl
section
variable {P : Program} {w : World} {K : PySem.W.Frag} {mg : Str → Option Value} {base : Heap} {a : Ad}
def sp_is_integer : Sp := spV fun vs _ z => ∃ i : Int, vs = [.int i] ∧ z = .bl true
theorem ok_is_integer (T : Txt K mg a) : Df P w K mg base 1 a.f_is_integer ["value"] sp_is_integer :=
  df_mk T.d_is_integer (N := ["value"]) ⟨rfl, rfl, rfl, by decide +kernel, rfl, by decide +kernel, by decide +kernel⟩ (fun _ _ _ _ _ _ us hl => match us, hl with | [_], _ => rfl)
    (by rintro vs H Q E ⟨z, ⟨i, rfl, _⟩, _⟩; rfl) (by
    rintro cdv A outer s H vs Q E hr ⟨z, ⟨i, rfl, rfl⟩, hq⟩
    refine ⟨_, pss_one (ps_ret (pe_and (pe_callB call_isi (by rfl) T.b_isinstance boot_isinstance (pa_cons (pv 0) (pa_cons (pe_ty (by rfl) T.b_int PyProof.Rows.boot_int) pa_nil)))
      (pe_one (pe_not (pe_callB call_isi (by rfl) T.b_isinstance boot_isinstance (pa_cons (pv 0) (pa_cons (pe_ty (by rfl) T.b_bool PyProof.Rows.boot_bool) pa_nil))))))), ?_⟩
    exact s_ret (ev_andV (ev_isInt (ev_var rfl)) (fun _ => ev_notV (ev_isBool (ev_var rfl)))) hq)
theorem use_is_integer {H : Hp} {i : Int} : SpV sp_is_integer [.int i] H (.bl true) := spv_use fun _ _ => ⟨i, rfl, rfl⟩
def sp_is_colour : Sp := spV fun vs _ z => ∃ k x : Nat, vs = [nV k, nV x] ∧ z = .bl (decide (x < k))
theorem ok_is_colour (T : Txt K mg a) : Df P w K mg base 2 a.f_is_colour ["size", "value"] sp_is_colour :=
  df_mk T.d_is_colour (N := ["size", "value"]) ⟨rfl, rfl, rfl, by decide +kernel, rfl, by decide +kernel, by decide +kernel⟩ (fun _ _ _ _ _ _ us hl => match us, hl with | [_, _], _ => rfl)
    (by rintro vs H Q E ⟨z, ⟨k, x, rfl, _⟩, _⟩; rfl) (by
    rintro cdv A outer s H vs Q E hr ⟨z, ⟨k, x, rfl, rfl⟩, hq⟩
    refine ⟨_, pss_one (ps_ret (pe_and (pe_cl (ok_is_integer T) hr T.m_is_integer (pa_cons (pv 1) pa_nil)) (pe_one (pe_chain op_le op_lt pe_int (pv 1) (pv 0))))), ?_⟩
    refine s_ret (ev_is (ev_andV (ev_cl (ea_cons (ev_var rfl) ea_nil) use_is_integer) (fun _ => ev_le2 ev_c (ev_var rfl) (ev_var rfl))) ?_) hq
    congr 1
    simp [Int.natCast_nonneg])
theorem use_is_colour {H : Hp} {k x : Nat} : SpV sp_is_colour [nV k, nV x] H (.bl (decide (x < k))) := spv_use fun _ _ => ⟨k, x, rfl, rfl⟩
def sp_has_shape : Sp := spV fun vs H z => ∃ p k t, vs = [.ref p] ∧ RowsAt H p k t ∧ 1 ≤ k ∧ k ≤ 8 ∧ z = .bl true
theorem sc_has_shape : FnScope ["rows", "row"] ["rows"] (defScope s_has_shape) := ⟨rfl, rfl, rfl, by decide +kernel, rfl, by decide +kernel, by decide +kernel⟩
theorem ok_has_shape (T : Txt K mg a) : Df P w K mg base 1 a.f_has_shape ["rows"] sp_has_shape := by
  obtain ⟨tm, hmax⟩ := T.m_max
  exact df_mk T.d_has_shape sc_has_shape (fun _ _ _ _ _ _ us hl => match us, hl with | [_], _ => rfl)
    (by rintro vs H Q E ⟨z, ⟨p, k, t, rfl, _⟩, _⟩; rfl) (by
    rintro cdv A outer s H vs Q E hr ⟨z, ⟨p, k, t, rfl, hR, h1, h8, rfl⟩, hq⟩
    obtain ⟨ys, hp, hlen, hrow⟩ := rows_at hR
    refine ⟨_, pss_cons (ps_if (PW.pt (pw_or (pt_not (pt_val (pe_isLT T (pv 0))))
        (pw_or1 (pt_not (pt_chain op_le op_le pe_int (pe_len T (pv 0)) (pe_glob (v := .int 8) (by rfl) hmax ⟨_, rfl⟩)))))) pss_never pss_nil)
      (pss_one (ps_ret (pe_callB (cr_all rfl) (by rfl) T.b_all PyProof.Rows.boot_all (pa_cons (pe_c1 (own := [("row", 1)]) (g := gName 1) (tt := tYes) rfl sc_has_shape.nd (pi_list (pv 0))
        (blkOk_by (N := ["rows", "row"]) (sc := defScope s_has_shape) (by decide +kernel)) (fun _ _ _ _ _ => pg_name (i := 1) sc_has_shape.nd rfl (Or.inl rfl)) (fun _ _ _ _ _ => pts_nil)
        (fun _ _ _ _ _ => pe_and (pe_isLT T (pv 1))
          (pe_one (pe_cmpR op_eq (pe_len T (pv 1)) (pe_len T (pv 0)) (nomark _))))) pa_nil)))), ?_⟩
    refine q_when (b := false) (et_is (et_or (et_not (et_B (ev_isLstL (ev_var rfl) hp))) (fun _ => et_not (et_test (ev_le2 ev_c (ev_lenS (ev_var rfl) (.inl (sq_of hp))) ev_c)))) ?_) (fun h => nomatch h) fun _ H1 e1 => ?_
    · rw [hlen]
      simp
      omega
    · have hp1 := e1 _ _ hp
      refine s_ret (ev_is (ev_all (bs := (List.range ys.length).map fun _ => true) (lc_any (S := SFlat V.bl) (b := fun _ => true) (bs := fun _ => [true]) keeps_flat (wi_list (ev_var rfl) (sq_of hp1)) (goes_list (sq_of hp1)) (fun i hi => rfl) (fun i hi => et_yes) (fun D i hi _ => eb_flat ?_) ?_) (fun H1 v H2 h => ?_)) ?_) fun H2 e2 => hq H2 (e1.trans e2)
      · obtain ⟨q, h1, h2⟩ := hrow i (by omega)
        have h2' := e1 _ _ h2
        refine ev_is (ev_andV (ev_isLstL (ev_var (i := 1) (v := .ref q) ?_) h2') fun _ => ev_op (ev_lenS (ev_var (i := 1) (v := .ref q) ?_) (.inl (sq_of h2'))) (ev_lenS (ev_var rfl) (.inl (sq_of hp1))) (rv_eq rfl)) ?_
        · show some (ys[i]?) = _
          rw [h1]
        · show some (ys[i]?) = _
          rw [h1]
        · simp [hlen]
      · rw [outs_map]
        simp
        omega
      · obtain ⟨q, h1, _, h3⟩ := newof_flat h
        exact ⟨q, h1, by rw [h3, outs_map]⟩
      · simp)
end
end Bj

namespace Bj
open PySem PySem.Spec
open PyProof.Rows L2 Evl
section
variable {P : Program} {w : World} {K : PySem.W.Frag} {mg : Str → Option Value} {base : Heap} {a : Ad}
def pairs (k : Nat) : List (Nat × Nat) := outs (fun _ => true) (fun i => outs (fun _ => true) (fun j => [(i, j)]) k) k
theorem pairs_eq (k : Nat) : pairs k = (List.range k).flatMap fun i => (List.range k).map fun j => (i, j) := by
  unfold pairs
  rw [outs_flat]
  simp only [outs_map]
theorem mem_pairs {k : Nat} {x : Nat × Nat} : x ∈ pairs k ↔ x.1 < k ∧ x.2 < k := by
  rw [pairs_eq]
  simp only [List.mem_flatMap, List.mem_range, List.mem_map]
  exact ⟨fun ⟨i, hi, j, hj, e⟩ => by subst e; exact ⟨hi, hj⟩, fun ⟨h1, h2⟩ => ⟨x.1, h1, x.2, h2, rfl⟩⟩
theorem pairs_len {k : Nat} (h : k ≤ 8) : (pairs k).length ≤ 64 := by
  match k, h with
  | 0, _ | 1, _ | 2, _ | 3, _ | 4, _ | 5, _ | 6, _ | 7, _ | 8, _ => decide
/-- a new list -/
def NewL {β : Type} (S : β → V → Hp → Prop) (bs : List β) (H : Hp) : V → Hp → Prop := fun v H' => ∃ p, v = .ref p ∧ H p = none ∧ ListAt S H' p bs
theorem NewL.back {β : Type} {S : β → V → Hp → Prop} {bs : List β} {H H1 H' : Hp} {v : V} (e : Ex H H1) (h : NewL S bs H1 v H') : NewL S bs H v H' := let ⟨p, h1, h2, h3⟩ := h; ⟨p, h1, fresh_back e h2, h3⟩
def sp_places : Sp := spP fun vs H R => ∃ k : Nat, vs = [nV k] ∧ k ≤ 8 ∧ R = NewL PairV (pairs k) H
theorem sc_places : FnScope ["size", "a", "b"] ["size"] (defScope s_places) := ⟨rfl, rfl, rfl, by decide +kernel, rfl, by decide +kernel, by decide +kernel⟩
theorem ok_places (T : Txt K mg a) : Df P w K mg base 1 a.f_places ["size"] sp_places :=
  df_mk T.d_places sc_places (fun _ _ _ _ _ _ us hl => match us, hl with | [_], _ => rfl)
    (by rintro vs H Q E ⟨z, ⟨k, rfl, _⟩, _⟩; rfl) (by
    rintro cdv A outer s H vs Q E hr ⟨R, ⟨k, rfl, h8, rfl⟩, hq⟩
    refine ⟨_, pss_one (ps_ret (pe_c2 (own := [("a", 1), ("b", 2)]) (vs1 := [2]) (g := gName 1) (g1 := gName 2) (tt := tYes) (tt1 := tYes) rfl sc_places.nd (pi_rng T (pv 0))
      (blkOk_by (N := ["size", "a", "b"]) (sc := defScope s_places) (by decide +kernel)) (by decide) (fun _ _ _ _ _ => pg_name (i := 1) sc_places.nd rfl (Or.inl rfl)) (fun _ _ _ _ _ => pts_nil)
      (fun _ _ _ _ _ => pi_rng T (pv 0)) (fun _ _ _ _ _ => pg_name (i := 2) sc_places.nd rfl (Or.inl rfl)) (fun _ _ _ _ _ => pts_nil) (fun _ _ _ _ _ => pe_tup (pa_cons (pv 1) (pa_cons (pv 2) pa_nil))))), ?_⟩
    have hl := pairs_len h8
    refine s_retP (P := NewOf (STup fun x : Nat × Nat => [nV x.1, nV x.2]) (pairs k)) (lc_any (b := fun _ => true) keeps_tup (wi_range (ea_cons (ev_var rfl) ea_nil) (by omega)) goes_range (fun i hi => rfl) (fun i hi => et_yes)
      (fun D i hi _ => eb_any (b := fun _ => true) (keeps_tup D) (wi_range (ea_cons (ev_var rfl) ea_nil) (by omega)) goes_range (fun j hj => rfl) (fun j hj => et_yes)
        (fun j hj _ => eb_tup (eu_tup (ea_cons (ev_var rfl) (ea_cons (ev_var rfl) ea_nil)) (by show 2 ≤ 100000; decide)))) (by show (pairs k).length < 100000; omega)) fun v H1 e1 h1 => hq v H1 e1 ?_
    exact newof_tup h1)
theorem use_places {H : Hp} {k : Nat} (h : k ≤ 8) : SpP sp_places [nV k] H (NewL PairV (pairs k)) := spp_use fun H1 _ => ⟨k, rfl, h, rfl⟩
def sp_first_wrong_place : Sp := spV fun vs H z => ∃ p k t, vs = [.ref p] ∧ RowsAt H p k t ∧ Good k t ∧ z = .non
theorem sc_first_wrong_place : FnScope ["rows", "a", "b"] ["rows"] (defScope s_first_wrong_place) := ⟨rfl, rfl, rfl, by decide +kernel, rfl, by decide +kernel, by decide +kernel⟩
theorem row_get {H : Hp} {p : Addr} {k : Nat} {t : Nat → Nat → Nat} {σ : L2.St} {ta tb tc : TE} {i j : Nat} (hR : RowsAt H p k t) (h1 : Ev ta σ H (.ref p)) (h2 : Ev tb σ H (nV i)) (h3 : Ev tc σ H (nV j)) (hi : i < k) (hj : j < k) :
    Ev (tOp (rIxL K) (tOp (rIxL K) ta tb) tc) σ H (nV (t i j)) := by
  obtain ⟨ys, hp, hlen, hrow⟩ := rows_at hR
  obtain ⟨q, e1, e2⟩ := hrow i hi
  exact ev_ixl (ev_ixl h1 h2 hp e1) h3 e2 (by unfold nVs; rw [List.getElem?_map, List.getElem?_map, List.getElem?_range hj]; rfl)
theorem ok_first_wrong_place (T : Txt K mg a) : Df P w K mg base 3 a.f_first_wrong_place ["rows"] sp_first_wrong_place :=
  df_mk T.d_first_wrong_place sc_first_wrong_place (fun _ _ _ _ _ _ us hl => match us, hl with | [_], _ => rfl)
    (by rintro vs H Q E ⟨z, ⟨p, k, t, rfl, _⟩, _⟩; rfl) (by
    rintro cdv A outer s H vs Q E hr ⟨z, ⟨p, k, t, rfl, hR, G, rfl⟩, hq⟩
    have nd := sc_first_wrong_place.nd
    refine ⟨_, pss_cons (ps_for PassesOwn.never rfl (pi_lst K (pe_cl (ok_places T) (hr.mono (by decide)) T.m_places (pa_cons (pe_len T (pv 0)) pa_nil)))
        (pg_tupK K rfl (pgs_cons (pg_name (i := 1) nd rfl (Or.inl rfl)) (pgs_cons (pg_name (i := 2) nd rfl (Or.inl rfl)) pgs_nil)))
        (pss_one (ps_if (PW.pt (pw_or (pt_not (pt_val (pe_cl (ok_is_colour T) hr T.m_is_colour (pa_cons (pe_len T (pv 0)) (pa_cons (pe_ixl K (pe_ixl K (pv 0) (pv 1)) (pv 2)) pa_nil)))))
          (pw_or1 (PW.pt (pw_and (pt_cmpR op_lt (pv 2) (pv 1) (nomark _)) (pw_and1 (pt_cmpR op_ne (pe_ixl K (pe_ixl K (pv 0) (pv 2)) (pv 1)) (pe_ixl K (pe_ixl K (pv 0) (pv 1)) (pv 2)) (nomark _)))))))) pss_never pss_nil)))
      (pss_one (ps_ret pe_non)), ?_⟩
    obtain ⟨ys, hp, hlen, _⟩ := rows_at hR
    have hk8 := G.le
    refine q_forP (evp_cl (ea_cons (ev_lenS (ev_var rfl) (.inl (sq_of hp))) ea_nil) (use_places (by omega))) fun v H1 e1 h1 => ?_
    obtain ⟨H0, e0, l, rfl, nl, zs, hz, ha⟩ := h1
    have ex : Ex H H1 := e1
    refine q_forL ev_c (sq_of hz) (fun i σ' H' => Ex H1 H' ∧ ∃ x y, σ' = [some (.ref p), x, y]) (fun H2 e2 => ⟨e2, none, none, rfl⟩) (fun i σ' H' hi h => ex_l h.1 (sq_of hz)) ?_ ?_
    · rintro i x σ' H' hx ⟨e', c1, c2, rfl⟩
      obtain ⟨⟨b1, b2⟩, hb, q, rfl, hq'⟩ := ha.get hx
      have hm := mem_pairs.mp (List.mem_of_getElem? hb)
      have hm1 : b1 < k := by rw [← hlen]; exact hm.1
      have hm2 : b2 < k := by rw [← hlen]; exact hm.2
      have hR' : RowsAt H' p k t := hR.mono (ex.trans e')
      have hp' := (ex.trans e') _ _ hp
      refine ⟨q, _, rfl, st_of (e' _ _ hq'), rfl, _, _, rfl, _, _, rfl, rfl, ?_⟩
      refine s_when (b := false) (et_is (et_or (et_not (et_B (ev_cl (ea_cons (ev_lenS (ev_var rfl) (.inl (sq_of hp'))) (ea_cons (row_get hR' (ev_var rfl) (ev_var rfl) (ev_var rfl) hm1 hm2) ea_nil)) use_is_colour)))
        (fun _ => et_and (et_test (ev_op (ev_var rfl) (ev_var rfl) rv_I0)) (fun _ => et_test (ev_op (row_get hR' (ev_var rfl) (ev_var rfl) (ev_var rfl) hm2 hm1) (row_get hR' (ev_var rfl) (ev_var rfl) (ev_var rfl) hm1 hm2) (rv_ne rfl))))) ?_) (fun h => nomatch h) fun _ H2 e2 => ⟨e'.trans e2, _, _, rfl⟩
      have hlt : t b1 b2 < ys.length := by rw [hlen]; exact G.lt _ _ hm1 hm2
      have hsym := G.sym _ _ hm1 hm2
      rw [decide_eq_true hlt, hsym]
      simp
    · rintro σ' H' ⟨e', c1, c2, rfl⟩
      exact s_ret ev_c fun H2 e2 => hq H2 (ex.trans (e'.trans e2)))
theorem use_first_wrong_place {H : Hp} {p : Addr} {k : Nat} {t : Nat → Nat → Nat} (hR : RowsAt H p k t) (G : Good k t) : SpV sp_first_wrong_place [.ref p] H .non := spv_use fun H1 e => ⟨p, k, t, rfl, hR.mono e, G, rfl⟩
theorem use_has_shape {H : Hp} {p : Addr} {k : Nat} {t : Nat → Nat → Nat} (hR : RowsAt H p k t) (G : Good k t) : SpV sp_has_shape [.ref p] H (.bl true) := spv_use fun H1 e => ⟨p, k, t, rfl, hR.mono e, G.pos, G.le, rfl⟩
end
end Bj

namespace Bj
open PySem PySem.Spec
open PyProof.Rows L2 Evl
section
variable {P : Program} {w : World} {K : PySem.W.Frag} {mg : Str → Option Value} {base : Heap} {a : Ad}
theorem lst_of {β : Type} {S : β → V → Hp → Prop} {H : Hp} {p : Addr} {bs : List β} (h : ListAt S H p bs) : ∃ ys, H p = some (.lst ys) ∧ ys.length = bs.length := let ⟨ys, h1, h2⟩ := h; ⟨ys, h1, h2.1⟩
theorem listAt_cp {S : List Nat → V → Hp → Prop} {H : Hp} {p : Addr} {k : Nat} {t : Nat → Nat → Nat} (h : ListAt (fun (b : List Nat) y H => ∃ q, y = .ref q ∧ H q = some (.lst (nVs b))) H p ((List.range k).map fun i => (List.range k).map fun j => t i j)) : RowsAt H p k t := h
def rowsOf (k : Nat) (t : Nat → Nat → Nat) : List (List Nat) := (List.range k).map fun i => (List.range k).map fun j => t i j
/-- a list that wasn't there at H0 -/
def IntsF (H0 : Hp) (g : List Nat) (v : V) (H : Hp) : Prop := ∃ q, v = .ref q ∧ H0 q = none ∧ H q = some (.lst (nVs g))
/-- a list that isn't p0 -/
def IntsX (p0 : Addr) (g : List Nat) (v : V) (H : Hp) : Prop := ∃ q, v = .ref q ∧ q ≠ p0 ∧ H q = some (.lst (nVs g))
theorem grows_intsF {H0 : Hp} : Grows (IntsF H0) := fun _ _ _ _ e ⟨q, h1, h2, h3⟩ => ⟨q, h1, h2, e _ _ h3⟩
theorem grows_intsX {p0 : Addr} : Grows (IntsX p0) := fun _ _ _ _ e ⟨q, h1, h2, h3⟩ => ⟨q, h1, h2, e _ _ h3⟩
theorem All2.imp {β : Type} {S S' : β → V → Hp → Prop} {H H' : Hp} {bs : List β} {ys : List V} (h : All2 S H bs ys) (hi : ∀ b y, S b y H → S' b y H') : All2 S' H' bs ys := ⟨h.1, fun i b hb => let ⟨y, h1, h2⟩ := h.2 i b hb; ⟨y, h1, hi b y h2⟩⟩
theorem ListAt.imp {β : Type} {S S' : β → V → Hp → Prop} {H : Hp} {p : Addr} {bs : List β} (h : ListAt S H p bs) (hi : ∀ b y, S b y H → S' b y H) : ListAt S' H p bs := let ⟨ys, h1, h2⟩ := h; ⟨ys, h1, h2.imp hi⟩
theorem intsF_v {H0 H : Hp} {p : Addr} {bs : List (List Nat)} (h : ListAt (IntsF H0) H p bs) : ListAt IntsV H p bs := h.imp fun _ _ ⟨q, h1, _, h3⟩ => ⟨q, h1, h3⟩
theorem intsX_v {p0 : Addr} {H : Hp} {p : Addr} {bs : List (List Nat)} (h : ListAt (IntsX p0) H p bs) : ListAt IntsV H p bs := h.imp fun _ _ ⟨q, h1, _, h3⟩ => ⟨q, h1, h3⟩
theorem intsF_back {H0 H1 H : Hp} {p : Addr} {bs : List (List Nat)} (e : Ex H0 H1) (h : ListAt (IntsF H1) H p bs) : ListAt (IntsF H0) H p bs := h.imp fun _ _ ⟨q, h1, h2, h3⟩ => ⟨q, h1, fresh_back e h2, h3⟩
theorem intsF_x {H0 H : Hp} {p p0 : Addr} {o : HO} {bs : List (List Nat)} (h0 : H0 p0 = some o) (h : ListAt (IntsF H0) H p bs) : ListAt (IntsX p0) H p bs := h.imp fun _ _ ⟨q, h1, h2, h3⟩ => ⟨q, h1, (ne_of_none h0 h2).symm, h3⟩
theorem intsX_off {p0 p : Addr} {H H' : Hp} {bs : List (List Nat)} (h : ListAt (IntsX p0) H p bs) (ne : p ≠ p0) (of : Off p0 H H') : ListAt (IntsX p0) H' p bs := let ⟨ys, h1, h2⟩ := h; ⟨ys, of _ _ ne h1, h2.imp fun _ _ ⟨q, h1, h2, h3⟩ => ⟨q, h1, h2, of _ _ h2 h3⟩⟩
structure TabF (a : Ad) (H0 H : Hp) (p : Addr) (k : Nat) (t : Nat → Nat → Nat) : Prop where
  good : Good k t
  at_ : ∃ dx l, H p = some (.ins a.c_Table dx [("own_rows", .ref l)]) ∧ H0 l = none ∧ ListAt (IntsF H0) H l (rowsOf k t)
structure TabX (a : Ad) (H : Hp) (p0 p : Addr) (k : Nat) (t : Nat → Nat → Nat) : Prop where
  good : Good k t
  at_ : ∃ dx l, H p = some (.ins a.c_Table dx [("own_rows", .ref l)]) ∧ l ≠ p0 ∧ ListAt (IntsX p0) H l (rowsOf k t)
theorem TabF.t {a : Ad} {H0 H : Hp} {p : Addr} {k : Nat} {t : Nat → Nat → Nat} (h : TabF a H0 H p k t) : TabAt a H p k t := ⟨h.good, let ⟨dx, l, h1, _, h3⟩ := h.at_; ⟨dx, l, h1, intsF_v h3⟩⟩
theorem TabX.t {a : Ad} {H : Hp} {p0 p : Addr} {k : Nat} {t : Nat → Nat → Nat} (h : TabX a H p0 p k t) : TabAt a H p k t := ⟨h.good, let ⟨dx, l, h1, _, h3⟩ := h.at_; ⟨dx, l, h1, intsX_v h3⟩⟩
theorem TabF.back {a : Ad} {H0 H1 H : Hp} {p : Addr} {k : Nat} {t : Nat → Nat → Nat} (e : Ex H0 H1) (h : TabF a H1 H p k t) : TabF a H0 H p k t := ⟨h.good, let ⟨dx, l, h1, h2, h3⟩ := h.at_; ⟨dx, l, h1, fresh_back e h2, intsF_back e h3⟩⟩
theorem TabF.x {a : Ad} {H0 H : Hp} {p p0 : Addr} {k : Nat} {t : Nat → Nat → Nat} {o : HO} (h : TabF a H0 H p k t) (h0 : H0 p0 = some o) : TabX a H p0 p k t := ⟨h.good, let ⟨dx, l, h1, h2, h3⟩ := h.at_; ⟨dx, l, h1, (ne_of_none h0 h2).symm, intsF_x h0 h3⟩⟩
theorem TabX.off {a : Ad} {H H' : Hp} {p p0 : Addr} {k : Nat} {t : Nat → Nat → Nat} {xs : List V} (h : TabX a H p0 p k t) (h0 : H p0 = some (.lst xs)) (of : Off p0 H H') : TabX a H' p0 p k t := ⟨h.good, let ⟨dx, l, h1, h2, h3⟩ := h.at_; ⟨dx, l, of _ _ (fun e => by subst e; rw [h0] at h1; cases h1) h1, h2, intsX_off h3 h2 of⟩⟩
theorem TabX.mono {a : Ad} {H H' : Hp} {p p0 : Addr} {k : Nat} {t : Nat → Nat → Nat} (h : TabX a H p0 p k t) (e : Ex H H') : TabX a H' p0 p k t := ⟨h.good, let ⟨dx, l, h1, h2, h3⟩ := h.at_; ⟨dx, l, e _ _ h1, h2, h3.mono grows_intsX e⟩⟩
abbrev SIntsF (H0 : Hp) : Addr → List Nat → V → Hp → Prop := fun D b y H => ∃ q, y = .ref q ∧ q ≠ D ∧ H0 q = none ∧ H q = some (.lst (nVs b))
theorem keeps_intsF {H0 : Hp} : ∀ D, Keeps D (SIntsF H0 D) := fun _ _ _ _ _ o ⟨q, h1, h2, h0, h3⟩ => ⟨q, h1, h2, h0, o q _ h2 h3⟩
theorem newof_intsF {H0 : Hp} {bs : List (List Nat)} {H1 H2 : Hp} {v : V} (h : NewOf (SIntsF H0) bs H1 v H2) : NewL (IntsF H0) bs H1 v H2 := by
  obtain ⟨D, zs, rfl, hD, hz, ha⟩ := h
  exact ⟨D, rfl, hD, zs, hz, ha.1, fun i b hb => let ⟨y, h1, q, h2, _, h0, h3⟩ := ha.2 i b hb; ⟨y, h1, q, h2, h0, h3⟩⟩
theorem eb_intsF {te : TE} {σ : L2.St} {H00 H0 : Hp} {D : Addr} {b : List Nat} (e0 : Ex H00 H0) (h : EvL te σ H0 (nVs b)) : EvB (SIntsF H00 D) D (bEmit D te) σ H0 [b] := eb_emit (keeps_intsF D) fun H1 e Q q => h H1 e _ fun p H2 np e2 h2 => q _ H2 e2 fun ⟨l, hl⟩ => ⟨p, rfl, fun ed => (by rw [ed, hl] at np; exact nomatch np), fresh_back (e0.trans e) np, h2⟩
def sp_Table_init (a : Ad) : Sp := fun vs H Q _ => ∃ p l dx k t, vs = [.ref p, .ref l] ∧ H p = some (.ins a.c_Table dx []) ∧ RowsAt H l k t ∧ Good k t ∧
  ∀ H' l', Off p H H' → H' p = some (.ins a.c_Table dx [("own_rows", .ref l')]) → H l' = none → ListAt (IntsF H) H' l' (rowsOf k t) → Q .non H'
theorem sc_Table_init : FnScope ["self", "rows", "place", "row"] ["self", "rows"] (defScope s_Table_init) := ⟨rfl, rfl, rfl, by decide +kernel, rfl, by decide +kernel, by decide +kernel⟩
theorem rows_off {H H' : Hp} {p l : Addr} {k : Nat} {t : Nat → Nat → Nat} {o : HO} (hp : H p = some o) (ho : ∀ xs, o ≠ .lst xs) (hR : RowsAt H l k t) (of : Off p H H') : RowsAt H' l k t := by
  obtain ⟨ys, h1, h2, h3⟩ := rows_at hR
  refine rows_mk (of _ _ (fun e => by subst e; rw [hp] at h1; exact ho _ (Option.some.inj h1)) h1) h2 fun i hi => ?_
  obtain ⟨q, e1, e2⟩ := h3 i hi
  exact ⟨q, e1, of _ _ (fun e => by subst e; rw [hp] at e2; exact ho _ (Option.some.inj e2)) e2⟩
theorem ok_Table_init (T : Txt K mg a) : Df P w K mg base 4 a.f_Table_init ["self", "rows"] (sp_Table_init a) :=
  df_mk T.d_Table_init sc_Table_init (fun _ _ _ _ _ _ us hl => match us, hl with | [_, _], _ => rfl)
    (by rintro vs H Q E ⟨p, l, dx, k, t, rfl, _⟩; rfl) (by
    rintro cdv A outer s H vs Q E hr ⟨p, l, dx, k, t, rfl, hp, hR, G, hq⟩
    have nd := sc_Table_init.nd
    refine ⟨_, pss_cons (ps_if (pt_not (pt_val (pe_cl (ok_has_shape T) (hr.mono (by decide)) T.m_has_shape (pa_cons (pv 1) pa_nil)))) pss_never pss_nil)
      (pss_cons (ps_set (i := 2) nd rfl (Or.inl rfl) (pe_cl (ok_first_wrong_place T) hr T.m_first_wrong_place (pa_cons (pv 1) pa_nil)))
      (pss_cons (ps_if (pt_cmp (pc_notN (pv 2))) pss_never pss_nil)
      (pss_one (ps_fld (pv 0) (pe_c1 (own := [("row", 3)]) (g := gName 3) (tt := tYes) rfl nd (pi_lst K (pv 1))
        (blkOk_by (N := ["self", "rows", "place", "row"]) (sc := defScope s_Table_init) (by decide +kernel)) (fun _ _ _ _ _ => pg_name (i := 3) nd rfl (Or.inl rfl)) (fun _ _ _ _ _ => pts_nil)
        (fun _ _ _ _ _ => pe_lof T (pv 3))) rfl)))), ?_⟩
    refine q_when (b := false) (et_not (et_B (ev_cl (ea_cons (ev_var rfl) ea_nil) (use_has_shape hR G)))) (fun h => nomatch h) fun _ H1 e1 => ?_
    refine q_asg (v := .non) (ev_cl (ea_cons (ev_var rfl) ea_nil) (use_first_wrong_place (hR.mono e1) G)) fun H2 e2 => ?_
    refine q_when (b := false) (et_is (et_B (ev_notN (x := .non) (ev_var rfl))) (by decide)) (fun h => nomatch h) fun _ H3 e3 => ?_
    have hR3 := hR.mono ((e1.trans e2).trans e3)
    obtain ⟨ys, hl, hlen, hrow⟩ := rows_at hR3
    have hp3 := ((e1.trans e2).trans e3) _ _ hp
    have hk := G.le
    show tLcB _ _ _ _ _ _ _ _
    refine lc_any (n := ys.length) (S := SIntsF H) (b := fun _ => true) (bs := fun i => [(List.range k).map fun j => t i j]) keeps_intsF (wi_list (ev_var rfl) (sq_of hl)) (goes_list (sq_of hl)) (fun i hi => rfl) (fun i hi => et_yes) (fun D i hi _ => eb_intsF ((e1.trans e2).trans e3) ?_) ?_ H3 (Ex.refl H3) _ fun v H4 e4 h4 => ?_
    · obtain ⟨q, h1, h2⟩ := hrow i (by omega)
      exact el_list (ev_var (i := 3) (v := .ref q) (by show some (ys[i]?) = _; rw [h1])) (sq_of h2)
    · rw [outs_map]
      simp
      omega
    · obtain ⟨l', rfl, nl, hL⟩ := newof_intsF h4
      rw [outs_map, hlen] at hL
      refine ⟨_, rfl, p, a.c_Table, dx, [], rfl, e4 _ _ hp3, T.k_Table.cl, T.n_own_rows, by show 0 < 1000; decide, ?_⟩
      have of : Off p H (upd H4 p (.ins a.c_Table dx [("own_rows", .ref l')])) := (off_of (((e1.trans e2).trans e3).trans e4)).trans off_upd
      have nlH : H l' = none := fresh_back ((e1.trans e2).trans e3) nl
      refine hq _ l' of upd_same nlH ?_
      obtain ⟨zs, hz, ha⟩ := hL
      exact ⟨zs, by rw [upd_ne (ne_of_none hp nlH).symm]; exact hz, ha.imp fun _ _ ⟨q, h1, h2, h3⟩ => ⟨q, h1, h2, by rw [upd_ne (ne_of_none hp h2).symm]; exact h3⟩⟩)
def sp_Table_size (a : Ad) : Sp := spV fun vs H z => ∃ p k t, vs = [.ref p] ∧ TabAt a H p k t ∧ z = nV k
theorem sc_Table_size : FnScope ["self"] ["self"] (defScope s_Table_size) := ⟨rfl, rfl, rfl, by decide +kernel, rfl, by decide +kernel, by decide +kernel⟩
theorem ok_Table_size (T : Txt K mg a) : Df P w K mg base 1 a.f_Table_size ["self"] (sp_Table_size a) :=
  df_mk T.d_Table_size sc_Table_size (fun _ _ _ _ _ _ us hl => match us, hl with | [_], _ => rfl)
    (by rintro vs H Q E ⟨z, ⟨p, k, t, rfl, _⟩, _⟩; rfl) (by
    rintro cdv A outer s H vs Q E hr ⟨z, ⟨p, k, t, rfl, hT, rfl⟩, hq⟩
    refine ⟨_, pss_one (ps_ret (pe_len T (pe_fld (pv 0) rfl))), ?_⟩
    obtain ⟨dx, l, hp, hR⟩ := hT.at_
    obtain ⟨ys, hl, hlen, _⟩ := rows_at hR
    refine s_ret (ev_is (ev_lenS (ev_fld (ev_var rfl) hp T.k_Table T.n_own_rows rfl) (.inl (sq_of hl))) ?_) hq
    rw [hlen])
/-- table.size -/
theorem ev_size {σ : L2.St} {H : Hp} {te : TE} {p : Addr} {k : Nat} {t : Nat → Nat → Nat} (h : Ev te σ H (.ref p)) (hT : TabAt a H p k t) : Ev (tProp a.c_Table (sp_Table_size a) [] E0 te) σ H (nV k) := by
  obtain ⟨dx, l, hp, hR⟩ := hT.at_
  exact ev_pr h hp (spv_use fun H1 e => ⟨p, k, t, rfl, hT.mono e, rfl⟩)
def sp_Table_validate_colour (a : Ad) : Sp := spV fun vs H z => ∃ p k t x, vs = [.ref p, nV x] ∧ TabAt a H p k t ∧ x < k ∧ z = .non
theorem sc_Table_validate_colour : FnScope ["self", "value"] ["self", "value"] (defScope s_Table_validate_colour) := ⟨rfl, rfl, rfl, by decide +kernel, rfl, by decide +kernel, by decide +kernel⟩
theorem ok_Table_validate_colour (T : Txt K mg a) : Df P w K mg base 3 a.f_Table_validate_colour ["self", "value"] (sp_Table_validate_colour a) :=
  df_mk T.d_Table_validate_colour sc_Table_validate_colour (fun _ _ _ _ _ _ us hl => match us, hl with | [_, _], _ => rfl)
    (by rintro vs H Q E ⟨z, ⟨p, k, t, x, rfl, _⟩, _⟩; rfl) (by
    rintro cdv A outer s H vs Q E hr ⟨z, ⟨p, k, t, x, rfl, hT, hx, rfl⟩, hq⟩
    refine ⟨_, pss_one (ps_if (pt_not (pt_val (pe_cl (ok_is_colour T) hr T.m_is_colour (pa_cons (pe_pr (pv 0) T.k_Table T.p_Table_size (ok_Table_size T) (hr.mono (by decide))) (pa_cons (pv 1) pa_nil))))) pss_never pss_nil), ?_⟩
    refine s_when (b := false) (et_is (et_not (et_B (ev_cl (ea_cons (ev_size (ev_var rfl) hT) (ea_cons (ev_var rfl) ea_nil)) use_is_colour))) ?_) (fun h => nomatch h) fun _ H1 e1 => hq H1 e1
    simp [hx])
def sp_Table_getitem (a : Ad) : Sp := spV fun vs H z => ∃ p q k t x y, vs = [.ref p, .ref q] ∧ TabAt a H p k t ∧ H q = some (.tup [nV x, nV y]) ∧ x < k ∧ y < k ∧ z = nV (t x y)
theorem sc_Table_getitem : FnScope ["self", "pair", "value"] ["self", "pair"] (defScope s_Table_getitem) := ⟨rfl, rfl, rfl, by decide +kernel, rfl, by decide +kernel, by decide +kernel⟩
theorem ok_Table_getitem (T : Txt K mg a) : Df P w K mg base 4 a.f_Table_getitem ["self", "pair"] (sp_Table_getitem a) :=
  df_mk T.d_Table_getitem sc_Table_getitem (fun _ _ _ _ _ _ us hl => match us, hl with | [_, _], _ => rfl)
    (by rintro vs H Q E ⟨z, ⟨p, q, k, t, x, y, rfl, _⟩, _⟩; rfl) (by
    rintro cdv A outer s H vs Q E hr ⟨z, ⟨p, q, k, t, x, y, rfl, hT, hq', hx, hy, rfl⟩, hq⟩
    have nd := sc_Table_getitem.nd
    refine ⟨_, pss_cons (ps_if (PW.pt (pw_or (pt_not (pt_val (pe_callB call_isi (by rfl) T.b_isinstance boot_isinstance (pa_cons (pv 1) (pa_cons (pe_ty (by rfl) T.b_tuple PyProof.Rows.boot_tuple) pa_nil)))))
        (pw_or1 (pt_cmpR op_ne (pe_len T (pv 1)) pe_int (nomark _))))) pss_never pss_nil)
      (pss_cons (ps_for PassesOwn.never rfl (pi_tup (pv 1)) (pg_name (i := 2) nd rfl (Or.inl rfl)) (pss_one (ps_expr (pe_mt (pv 0) T.k_Table T.h_Table_validate_colour (ok_Table_validate_colour T) hr (pa_cons (pv 2) pa_nil)))))
      (pss_one (ps_ret (pe_ixl K (pe_ixl K (pe_fld (pv 0) rfl) (pe_ixt K (pv 1) pe_int)) (pe_ixt K (pv 1) pe_int))))), ?_⟩
    refine q_when (b := false) (et_or (et_not (et_B (ev_isTup (ev_var rfl) hq'))) (fun _ => et_test (ev_op (ev_lenS (ev_var rfl) (.inr (st_of hq'))) ev_c (rv_ne rfl)))) (fun h => nomatch h) fun _ H1 e1 => ?_
    have h1 := e1 _ _ hq'
    refine q_forT (ev_var rfl) (st_of h1) (fun i σ' H' => Ex H1 H' ∧ ∃ u, σ' = [some (.ref p), some (.ref q), u]) (fun H2 e2 => ⟨e2, none, rfl⟩) (fun i σ' H' hi h => ex_t h.1 (st_of h1)) ?_ ?_
    · rintro i v σ' H' hv ⟨e', u, rfl⟩
      have hT' := hT.mono (e1.trans e')
      obtain ⟨dx, l, hp, hR⟩ := hT'.at_
      have key : ∃ z, v = nV z ∧ z < k := by
        match i, hv with
        | 0, hv => exact ⟨x, (Option.some.inj hv).symm, hx⟩
        | 1, hv => exact ⟨y, (Option.some.inj hv).symm, hy⟩
      obtain ⟨z, rfl, hz⟩ := key
      exact s_drop (v := .non) (ev_mt (ev_var rfl) hp rfl (ea_cons (ev_var rfl) ea_nil) (spv_use fun H2 e2 => ⟨p, k, t, z, rfl, hT'.mono e2, hz, rfl⟩)) fun H2 e2 => ⟨e'.trans e2, _, rfl⟩
    · rintro σ' H' ⟨e', u, rfl⟩
      have hT' := hT.mono (e1.trans e')
      obtain ⟨dx, l, hp, hR⟩ := hT'.at_
      have hq2 := e' _ _ h1
      exact s_ret (row_get hR (ev_fld (ev_var rfl) hp T.k_Table T.n_own_rows rfl) (ev_ixt (i := 0) (ev_var rfl) ev_c hq2 rfl) (ev_ixt (i := 1) (ev_var rfl) ev_c hq2 rfl) hx hy) fun H2 e2 => hq H2 ((e1.trans e').trans e2))
/-- table[x, y] -/
theorem ev_tab {σ : L2.St} {H : Hp} {te t1 t2 : TE} {p : Addr} {k x y : Nat} {t : Nat → Nat → Nat} (h : Ev te σ H (.ref p)) (h1 : Ev t1 σ H (nV x)) (h2 : Ev t2 σ H (nV y)) (hT : TabAt a H p k t) (hx : x < k) (hy : y < k) :
    Ev (tGetOwn a.c_Table (sp_Table_getitem a) te (tTup (tCons t1 (tCons t2 tNil)))) σ H (nV (t x y)) := by
  obtain ⟨dx, l, hp, hR⟩ := hT.at_
  exact ev_get h hp (eu_tup (ea_cons h1 (ea_cons h2 ea_nil)) (by show 2 ≤ 100000; decide)) fun q H1 e hq => spv_use fun H2 e2 => ⟨p, q, k, t, x, y, rfl, hT.mono (e.trans e2), e2 _ _ hq, hx, hy, rfl⟩
/-- Table(..) -/
theorem evp_mkTab {σ : L2.St} {H : Hp} {te : TE} {k : Nat} {t : Nat → Nat → Nat} {R : Hp → V → Hp → Prop} (h : EvP te σ H R) (hP : ∀ H1 v H2, R H1 v H2 → ∃ l, v = .ref l ∧ RowsAt H2 l k t) (G : Good k t) :
    EvP (tMake a.c_Table (sp_Table_init a) [] E0 (tCons te tNil)) σ H (fun H1 v H2 => ∃ p, v = .ref p ∧ H1 p = none ∧ TabF a H1 H2 p k t) := fun H1 e Q q =>
  h H1 e _ fun v H2 e2 hv => by
    obtain ⟨l, rfl, hR⟩ := hP H1 v H2 hv
    intro x dx nx ndx ne
    have e3 : Ex H2 (upd (upd H2 dx (.own x)) x (.ins a.c_Table dx [])) := (Ex.new ndx).mut nx
    refine ⟨x, l, dx, k, t, rfl, upd_same, hR.mono e3, G, fun H' l' of hx' nl' hR' => ⟨rfl, q (.ref x) H' (e2.trans fun b o hb => of b o (ne_of_none hb nx) (e3 b o hb)) ⟨x, rfl, fresh_back e2 nx, G, dx, l', hx', fresh_back (e2.trans e3) nl', intsF_back (e2.trans e3) hR'⟩⟩⟩
end
end Bj

namespace Bj
open PySem PySem.Spec
open PyProof.Rows L2 Evl
/-- the counts of n by colour -/
def nF (k : Nat) (n : Nat → Nat) : List V := nVs ((List.range k).map n)
theorem nF_len {k : Nat} {n : Nat → Nat} : (nF k n).length = k := by simp [nF, nVs]
theorem nF_get {k i : Nat} {n : Nat → Nat} (h : i < k) : (nF k n)[i]? = some (nV (n i)) := by
  unfold nF nVs
  rw [List.getElem?_map, List.getElem?_map, List.getElem?_range h]
  rfl
theorem nF_ext {k : Nat} {n : Nat → Nat} {ys : List V} (hl : ys.length = k) (h : ∀ i, i < k → ys[i]? = some (nV (n i))) : ys = nF k n := by
  refine List.ext_getElem? fun i => ?_
  rcases Nat.lt_or_ge i k with hi | hi
  · rw [h i hi, nF_get hi]
  · rw [List.getElem?_eq_none (by omega), List.getElem?_eq_none (by rw [nF_len]; omega)]
theorem nF_congr {k : Nat} {n m : Nat → Nat} (h : ∀ i, i < k → n i = m i) : nF k n = nF k m := nF_ext nF_len fun i hi => by rw [nF_get hi, h i hi]
theorem nF_set {k i v : Nat} {n : Nat → Nat} (hi : i < k) : (nF k n).set i (nV v) = nF k (fun j => if j = i then v else n j) := nF_ext (by rw [List.length_set, nF_len]) fun j hj => by
  rw [List.getElem?_set]
  by_cases e : i = j
  · subst e
    simp [nF_len, hi]
  · rw [if_neg e, nF_get hj, if_neg (fun z => e z.symm)]
structure JarN (a : Ad) (H : Hp) (p : Addr) (k : Nat) (n : Nat → Nat) : Prop where
  pos : 1 ≤ k
  le : k ≤ 8
  at_ : ∃ dx l, H p = some (.ins a.c_Jar dx [("own_counts", .ref l)]) ∧ H l = some (.lst (nF k n))
theorem JarN.mono {a : Ad} {H H' : Hp} (e : Ex H H') {p : Addr} {k : Nat} {n : Nat → Nat} (h : JarN a H p k n) : JarN a H' p k n := ⟨h.pos, h.le, let ⟨dx, l, h1, h2⟩ := h.at_; ⟨dx, l, e _ _ h1, e _ _ h2⟩⟩
theorem JarN.congr {a : Ad} {H : Hp} {p : Addr} {k : Nat} {n m : Nat → Nat} (h : JarN a H p k n) (e : ∀ i, i < k → n i = m i) : JarN a H p k m := ⟨h.pos, h.le, let ⟨dx, l, h1, h2⟩ := h.at_; ⟨dx, l, h1, by rw [h2, nF_congr e]⟩⟩
structure JarF (a : Ad) (H0 H : Hp) (p : Addr) (k : Nat) (n : Nat → Nat) : Prop where
  pos : 1 ≤ k
  le : k ≤ 8
  at_ : ∃ dx l, H p = some (.ins a.c_Jar dx [("own_counts", .ref l)]) ∧ H0 l = none ∧ H l = some (.lst (nF k n))
structure JarX (a : Ad) (H : Hp) (p0 p : Addr) (k : Nat) (n : Nat → Nat) : Prop where
  pos : 1 ≤ k
  le : k ≤ 8
  at_ : ∃ dx l, H p = some (.ins a.c_Jar dx [("own_counts", .ref l)]) ∧ l ≠ p0 ∧ H l = some (.lst (nF k n))
theorem JarF.n {a : Ad} {H0 H : Hp} {p : Addr} {k : Nat} {n : Nat → Nat} (h : JarF a H0 H p k n) : JarN a H p k n := ⟨h.pos, h.le, let ⟨dx, l, h1, _, h3⟩ := h.at_; ⟨dx, l, h1, h3⟩⟩
theorem JarX.n {a : Ad} {H : Hp} {p0 p : Addr} {k : Nat} {n : Nat → Nat} (h : JarX a H p0 p k n) : JarN a H p k n := ⟨h.pos, h.le, let ⟨dx, l, h1, _, h3⟩ := h.at_; ⟨dx, l, h1, h3⟩⟩
theorem JarF.back {a : Ad} {H0 H1 H : Hp} {p : Addr} {k : Nat} {n : Nat → Nat} (e : Ex H0 H1) (h : JarF a H1 H p k n) : JarF a H0 H p k n := ⟨h.pos, h.le, let ⟨dx, l, h1, h2, h3⟩ := h.at_; ⟨dx, l, h1, fresh_back e h2, h3⟩⟩
theorem JarF.x {a : Ad} {H0 H : Hp} {p p0 : Addr} {k : Nat} {n : Nat → Nat} {o : HO} (h : JarF a H0 H p k n) (h0 : H0 p0 = some o) : JarX a H p0 p k n := ⟨h.pos, h.le, let ⟨dx, l, h1, h2, h3⟩ := h.at_; ⟨dx, l, h1, (ne_of_none h0 h2).symm, h3⟩⟩
theorem JarX.off {a : Ad} {H H' : Hp} {p p0 : Addr} {k : Nat} {n : Nat → Nat} {xs : List V} (h : JarX a H p0 p k n) (h0 : H p0 = some (.lst xs)) (of : Off p0 H H') : JarX a H' p0 p k n := ⟨h.pos, h.le, let ⟨dx, l, h1, h2, h3⟩ := h.at_; ⟨dx, l, of _ _ (fun e => by subst e; rw [h0] at h1; cases h1) h1, h2, of _ _ h2 h3⟩⟩
theorem JarX.mono {a : Ad} {H H' : Hp} {p p0 : Addr} {k : Nat} {n : Nat → Nat} (h : JarX a H p0 p k n) (e : Ex H H') : JarX a H' p0 p k n := ⟨h.pos, h.le, let ⟨dx, l, h1, h2, h3⟩ := h.at_; ⟨dx, l, e _ _ h1, h2, e _ _ h3⟩⟩
def NewJ (a : Ad) (k : Nat) (n : Nat → Nat) (H : Hp) : V → Hp → Prop := fun v H' => ∃ p, v = .ref p ∧ H p = none ∧ JarF a H H' p k n
theorem NewJ.back {a : Ad} {k : Nat} {n : Nat → Nat} {H H1 H' : Hp} {v : V} (e : Ex H H1) (h : NewJ a k n H1 v H') : NewJ a k n H v H' := let ⟨p, h1, h2, h3⟩ := h; ⟨p, h1, fresh_back e h2, h3.back e⟩
/-- either of two iterators -/
theorem pi_or {X : Cx} {tg l : Expr} {w1 w2 : TI} (h1 : PI X tg l w1) (h2 : PI X tg l w2) : PI X tg l (fun σ H R => w1 σ H R ∨ w2 σ H R) := ⟨fun pins s σ H R I h => by
  rcases h with h | h
  · exact h1.run pins s σ H R I h
  · exact h2.run pins s σ H R I h⟩
section
variable {K : PySem.W.Frag} {σ : L2.St} {H0 H H' : Hp} {ta tb te : TE} {tA : TA}
theorem el_rep {k : Nat} {v : V} (h1 : Ev te σ H v) (h : Ev ta σ H (nV k)) (hk : k ≤ 1000) : EvL (tOp rRep (tLst (tCons te tNil)) ta) σ H (List.replicate k v) := fun H1 e Q q =>
  h1 H1 e _ fun H2 e2 => ⟨sz_of (by show 1 ≤ 100000; decide), fun l nl => h _ ((e.trans e2).trans (Ex.new nl)) _ fun H3 e3 => ⟨l, k, [v], rfl, rfl, e3 _ _ upd_same, by omega, by omega, sz_of (by simp; omega), fun p np => q p _ (fresh_back ((e2.trans (Ex.new nl)).trans e3) np) (((e2.trans (Ex.new nl)).trans e3).trans (Ex.new np)) (by
    rw [upd_same]
    simp)⟩⟩
theorem goes_enum {a : Addr} {xs : List V} {i1 i2 : Nat} {σ0 : L2.St} (hx : SqL K H0 a xs) : Goes (Ite K a) xs.length (gTup K 2 (gCons (gName i1) (gCons (gName i2) gNil))) σ0 (fun i => (σ0.set i1 (some (nV i))).set i2 (xs[i]?)) H0 where
  go := fun i H' hi e => ⟨xs, xs[i], ex_l e hx, by simp [hi]⟩
  stop := fun H' e => ⟨xs, ex_l e hx, Nat.le_refl _⟩
  yld := fun i x H' H'' hi e y => by
    obtain ⟨T, z, rfl, nT, rfl, y⟩ := y
    refine ⟨Ex.new nT, fun F hF => ⟨T, [.int (i : Nat), z], rfl, st_of upd_same, rfl, _, _, rfl, _, _, rfl, rfl, ?_⟩⟩
    have := y xs (ex_l e hx)
    rw [this] at hF
    exact hF
theorem wi_enum {a : Addr} {xs : List V} (h : EvA tA σ H0 [.ref a]) (hx : SqL K H0 a xs) : ∀ H1 (R : It → Hp → Prop), Ex H0 H1 → (∀ H2, Ex H1 H2 → R (Ite K a) H2) → iEnum K tA σ H1 R := fun H1 R e q =>
  h H1 e _ fun H2 e2 => ⟨a, xs, rfl, ex_l (e.trans e2) hx, q H2 e2⟩
theorem goes_zip {a b : Addr} {xs ys : List V} {i1 i2 : Nat} {σ0 : L2.St} (hx : SqL K H0 a xs) (hy : SqL K H0 b ys) (hl : ys.length = xs.length) : Goes (Its K a b) xs.length (gTup K 2 (gCons (gName i1) (gCons (gName i2) gNil))) σ0 (fun i => (σ0.set i1 (xs[i]?)).set i2 (ys[i]?)) H0 where
  go := fun i H' hi e => ⟨xs, ys, xs[i], ys[i], ex_l e hx, ex_l e hy, by simp [hi], by simp [hl, hi]⟩
  stop := fun H' e => ⟨xs, ys, ex_l e hx, ex_l e hy, Nat.le_refl _, by omega⟩
  yld := fun i x H' H'' hi e y => by
    obtain ⟨T, z1, z2, rfl, nT, rfl, y1, y2⟩ := y
    refine ⟨Ex.new nT, fun F hF => ⟨T, [z1, z2], rfl, st_of upd_same, rfl, _, _, rfl, _, _, rfl, rfl, ?_⟩⟩
    have h1 := y1 xs (ex_l e hx)
    have h2 := y2 ys (ex_l e hy)
    rw [h1, h2] at hF
    exact hF
theorem wi_zip {a b : Addr} {xs ys : List V} (h : EvA tA σ H0 [.ref a, .ref b]) (hx : SqL K H0 a xs) (hy : SqL K H0 b ys) : ∀ H1 (R : It → Hp → Prop), Ex H0 H1 → (∀ H2, Ex H1 H2 → R (Its K a b) H2) → iZipS K tA σ H1 R := fun H1 R e q =>
  h H1 e _ fun H2 e2 => ⟨a, b, xs, ys, rfl, ex_l (e.trans e2) hx, ex_l (e.trans e2) hy, q H2 e2⟩
theorem ev_sum {p : Addr} {k : Nat} {n : Nat → Nat} (h : Ev ta σ H (.ref p)) (hp : H p = some (.lst (nF k n))) : Ev (tCB (rSum K) (tCons ta tNil)) σ H (nV ((List.range k).map n).sum) := fun H1 e Q q =>
  h H1 e _ fun H2 e2 => ⟨p, ((List.range k).map n).map (fun x : Nat => (x : Int)), rfl, sq_of (by rw [(e.trans e2) _ _ hp]; unfold nF nVs; simp [List.map_map, Function.comp_def]), by
    have : (((List.range k).map n).map (fun x : Nat => (x : Int))).sum = (((List.range k).map n).sum : Nat) := by
      generalize (List.range k).map n = l
      induction l with
      | nil => rfl
      | cons x l ih => simp [ih]
    rw [this]
    exact q H2 e2⟩
end
end Bj

namespace Bj
open PySem PySem.Spec
open PyProof.Rows L2 Evl
section
variable {P : Program} {w : World} {K : PySem.W.Frag} {mg : Str → Option Value} {base : Heap} {a : Ad}
def sp_are_counts : Sp := spV fun vs H z => ∃ l k n, vs = [.ref l] ∧ H l = some (.lst (nF k n)) ∧ 1 ≤ k ∧ k ≤ 8 ∧ z = .bl true
theorem sc_are_counts : FnScope ["value", "count"] ["value"] (defScope s_are_counts) := ⟨rfl, rfl, rfl, by decide +kernel, rfl, by decide +kernel, by decide +kernel⟩
theorem ok_are_counts (T : Txt K mg a) : Df P w K mg base 2 a.f_are_counts ["value"] sp_are_counts := by
  obtain ⟨tm, hmax⟩ := T.m_max
  exact df_mk T.d_are_counts sc_are_counts (fun _ _ _ _ _ _ us hl => match us, hl with | [_], _ => rfl)
    (by rintro vs H Q E ⟨z, ⟨l, k, n, rfl, _⟩, _⟩; rfl) (by
    rintro cdv A outer s H vs Q E hr ⟨z, ⟨l, k, n, rfl, hl, h1, h8, rfl⟩, hq⟩
    have nd := sc_are_counts.nd
    refine ⟨_, pss_cons (ps_if (PW.pt (pw_or (pt_not (pt_val (pe_isLT T (pv 0)))) (pw_or1 (pt_not (pt_chain op_le op_le pe_int (pe_len T (pv 0)) (pe_glob (v := .int 8) (by rfl) hmax ⟨_, rfl⟩)))))) pss_never pss_nil)
      (pss_one (ps_ret (pe_callB (cr_all rfl) (by rfl) T.b_all PyProof.Rows.boot_all (pa_cons (pe_c1 (own := [("count", 1)]) (g := gName 1) (tt := tYes) rfl nd (pi_lst K (pv 0))
        (blkOk_by (N := ["value", "count"]) (sc := defScope s_are_counts) (by decide +kernel)) (fun _ _ _ _ _ => pg_name (i := 1) nd rfl (Or.inl rfl)) (fun _ _ _ _ _ => pts_nil)
        (fun _ _ _ _ _ => pe_and (pe_cl (ok_is_integer T) hr T.m_is_integer (pa_cons (pv 1) pa_nil)) (pe_one (pe_cmpR op_ge (pv 1) pe_int (nomark _))))) pa_nil)))), ?_⟩
    refine q_when (b := false) (et_is (et_or (et_not (et_B (ev_isLstL (ev_var rfl) hl))) (fun _ => et_not (et_test (ev_le2 ev_c (ev_lenS (ev_var rfl) (.inl (sq_of hl))) ev_c)))) ?_) (fun h => nomatch h) fun _ H1 e1 => ?_
    · rw [nF_len]
      simp
      omega
    · have hp1 := e1 _ _ hl
      refine s_ret (ev_is (ev_all (bs := (List.range (nF k n).length).map fun _ => true) (lc_any (S := SFlat V.bl) (b := fun _ => true) (bs := fun _ => [true]) keeps_flat (wi_list (ev_var rfl) (sq_of hp1)) (goes_list (sq_of hp1)) (fun i hi => rfl) (fun i hi => et_yes) (fun D i hi _ => eb_flat ?_) ?_) (fun H1 v H2 h => ?_)) ?_) fun H2 e2 => hq H2 (e1.trans e2)
      · have hi' : i < k := by rw [nF_len] at hi; exact hi
        have hv : Ev (tVar 1) ((wipe (L2.start ["value", "count"] [.ref l]) [1]).set 1 ((nF k n)[i]?)) H1 (nV (n i)) := ev_var (by show some ((nF k n)[i]?) = _; rw [nF_get hi'])
        exact ev_is (ev_andV (ev_cl (ea_cons hv ea_nil) use_is_integer) (fun _ => ev_op hv ev_c rv_I0)) (by simp [Int.natCast_nonneg])
      · rw [outs_map]
        simp [nF_len]
        omega
      · obtain ⟨q, h1, _, h3⟩ := newof_flat h
        exact ⟨q, h1, by rw [h3, outs_map]⟩
      · simp)
theorem use_are_counts {H : Hp} {l : Addr} {k : Nat} {n : Nat → Nat} (hl : H l = some (.lst (nF k n))) (h1 : 1 ≤ k) (h8 : k ≤ 8) : SpV sp_are_counts [.ref l] H (.bl true) := spv_use fun H1 e => ⟨l, k, n, rfl, e _ _ hl, h1, h8, rfl⟩
def sp_Jar_init (a : Ad) : Sp := fun vs H Q _ => ∃ p l dx k n, vs = [.ref p, .ref l] ∧ H p = some (.ins a.c_Jar dx []) ∧ H l = some (.lst (nF k n)) ∧ 1 ≤ k ∧ k ≤ 8 ∧
  ∀ H' l', Off p H H' → H' p = some (.ins a.c_Jar dx [("own_counts", .ref l')]) → H l' = none → H' l' = some (.lst (nF k n)) → Q .non H'
theorem sc_Jar_init : FnScope ["self", "counts"] ["self", "counts"] (defScope s_Jar_init) := ⟨rfl, rfl, rfl, by decide +kernel, rfl, by decide +kernel, by decide +kernel⟩
theorem ok_Jar_init (T : Txt K mg a) : Df P w K mg base 3 a.f_Jar_init ["self", "counts"] (sp_Jar_init a) :=
  df_mk T.d_Jar_init sc_Jar_init (fun _ _ _ _ _ _ us hl => match us, hl with | [_, _], _ => rfl)
    (by rintro vs H Q E ⟨p, l, dx, k, n, rfl, _⟩; rfl) (by
    rintro cdv A outer s H vs Q E hr ⟨p, l, dx, k, n, rfl, hp, hl, h1, h8, hq⟩
    refine ⟨_, pss_cons (ps_if (pt_not (pt_val (pe_cl (ok_are_counts T) hr T.m_are_counts (pa_cons (pv 1) pa_nil)))) pss_never pss_nil)
      (pss_one (ps_fld (pv 0) (pe_lof T (pv 1)) rfl)), ?_⟩
    refine q_when (b := false) (et_not (et_B (ev_cl (ea_cons (ev_var rfl) ea_nil) (use_are_counts hl h1 h8)))) (fun h => nomatch h) fun _ H1 e1 => ?_
    refine el_list (ev_var rfl) (sq_of (e1 _ _ hl)) H1 (Ex.refl H1) _ fun l' H2 nl e2 h2 => ?_
    have hp2 := e2 _ _ (e1 _ _ hp)
    refine ⟨_, rfl, p, a.c_Jar, dx, [], rfl, hp2, T.k_Jar.cl, T.n_own_counts, by show 0 < 1000; decide, ?_⟩
    refine hq _ l' ((off_of (e1.trans e2)).trans off_upd) upd_same (fresh_back e1 nl) ?_
    rw [upd_ne (fun e => by subst e; rw [hp2] at h2; cases h2)]
    exact h2)
/-- Jar(..) -/
theorem evp_mkJar {σ : L2.St} {H : Hp} {te : TE} {k : Nat} {n : Nat → Nat} (h : EvL te σ H (nF k n)) (h1 : 1 ≤ k) (h8 : k ≤ 8) : EvP (tMake a.c_Jar (sp_Jar_init a) [] E0 (tCons te tNil)) σ H (NewJ a k n) := fun H1 e Q q =>
  h H1 e _ fun l H2 nl e2 hl => by
    intro x dx nx ndx ne
    have e3 : Ex H2 (upd (upd H2 dx (.own x)) x (.ins a.c_Jar dx [])) := (Ex.new ndx).mut nx
    exact ⟨x, l, dx, k, n, rfl, upd_same, e3 _ _ hl, h1, h8, fun H' l' of hx' nl' hl' => ⟨rfl, q (.ref x) H' (e2.trans fun b o hb => of b o (ne_of_none hb nx) (e3 b o hb)) ⟨x, rfl, fresh_back e2 nx, h1, h8, dx, l', hx', fresh_back (e2.trans e3) nl', hl'⟩⟩⟩
def sp_Jar_size (a : Ad) : Sp := spV fun vs H z => ∃ p k n, vs = [.ref p] ∧ JarN a H p k n ∧ z = nV k
theorem sc_Jar_size : FnScope ["self"] ["self"] (defScope s_Jar_size) := ⟨rfl, rfl, rfl, by decide +kernel, rfl, by decide +kernel, by decide +kernel⟩
theorem ok_Jar_size (T : Txt K mg a) : Df P w K mg base 1 a.f_Jar_size ["self"] (sp_Jar_size a) :=
  df_mk T.d_Jar_size sc_Jar_size (fun _ _ _ _ _ _ us hl => match us, hl with | [_], _ => rfl)
    (by rintro vs H Q E ⟨z, ⟨p, k, t, rfl, _⟩, _⟩; rfl) (by
    rintro cdv A outer s H vs Q E hr ⟨z, ⟨p, k, n, rfl, hJ, rfl⟩, hq⟩
    refine ⟨_, pss_one (ps_ret (pe_len T (pe_fld (pv 0) rfl))), ?_⟩
    obtain ⟨dx, l, hp, hl⟩ := hJ.at_
    refine s_ret (ev_is (ev_lenS (ev_fld (ev_var rfl) hp T.k_Jar T.n_own_counts rfl) (.inl (sq_of hl))) ?_) hq
    rw [nF_len])
theorem ev_jsize {σ : L2.St} {H : Hp} {te : TE} {p : Addr} {k : Nat} {n : Nat → Nat} (h : Ev te σ H (.ref p)) (hJ : JarN a H p k n) : Ev (tProp a.c_Jar (sp_Jar_size a) [] E0 te) σ H (nV k) := by
  obtain ⟨dx, l, hp, hl⟩ := hJ.at_
  exact ev_pr h hp (spv_use fun H1 e => ⟨p, k, n, rfl, hJ.mono e, rfl⟩)
def tot (k : Nat) (n : Nat → Nat) : Nat := ((List.range k).map n).sum
def sp_Jar_total (a : Ad) : Sp := spV fun vs H z => ∃ p k n, vs = [.ref p] ∧ JarN a H p k n ∧ z = nV (tot k n)
theorem sc_Jar_total : FnScope ["self"] ["self"] (defScope s_Jar_total) := ⟨rfl, rfl, rfl, by decide +kernel, rfl, by decide +kernel, by decide +kernel⟩
theorem ok_Jar_total (T : Txt K mg a) : Df P w K mg base 1 a.f_Jar_total ["self"] (sp_Jar_total a) :=
  df_mk T.d_Jar_total sc_Jar_total (fun _ _ _ _ _ _ us hl => match us, hl with | [_], _ => rfl)
    (by rintro vs H Q E ⟨z, ⟨p, k, t, rfl, _⟩, _⟩; rfl) (by
    rintro cdv A outer s H vs Q E hr ⟨z, ⟨p, k, n, rfl, hJ, rfl⟩, hq⟩
    refine ⟨_, pss_one (ps_ret (pe_callB (cr_sum rfl) (by rfl) T.b_sum PyProof.Rows.boot_sum (pa_cons (pe_fld (pv 0) rfl) pa_nil))), ?_⟩
    obtain ⟨dx, l, hp, hl⟩ := hJ.at_
    exact s_ret (ev_sum (ev_fld (ev_var rfl) hp T.k_Jar T.n_own_counts rfl) hl) hq)
theorem ev_jtotal {σ : L2.St} {H : Hp} {te : TE} {p : Addr} {k : Nat} {n : Nat → Nat} (h : Ev te σ H (.ref p)) (hJ : JarN a H p k n) : Ev (tProp a.c_Jar (sp_Jar_total a) [] E0 te) σ H (nV (tot k n)) := by
  obtain ⟨dx, l, hp, hl⟩ := hJ.at_
  exact ev_pr h hp (spv_use fun H1 e => ⟨p, k, n, rfl, hJ.mono e, rfl⟩)
/-- a new list of numbers -/
def NewI (bs : List Nat) (H : Hp) : V → Hp → Prop := fun v H' => ∃ q, v = .ref q ∧ H q = none ∧ H' q = some (.lst (nVs bs))
theorem NewI.back {bs : List Nat} {H H1 H' : Hp} {v : V} (e : Ex H H1) (h : NewI bs H1 v H') : NewI bs H v H' := let ⟨p, h1, h2, h3⟩ := h; ⟨p, h1, fresh_back e h2, h3⟩
def sp_Jar_colours (a : Ad) : Sp := spP fun vs H R => ∃ p k n, vs = [.ref p] ∧ JarN a H p k n ∧ R = NewI (colsOf n k) H
theorem sc_Jar_colours : FnScope ["self", "colour", "count"] ["self"] (defScope s_Jar_colours) := ⟨rfl, rfl, rfl, by decide +kernel, rfl, by decide +kernel, by decide +kernel⟩
theorem ok_Jar_colours (T : Txt K mg a) : Df P w K mg base 1 a.f_Jar_colours ["self"] (sp_Jar_colours a) :=
  df_mk T.d_Jar_colours sc_Jar_colours (fun _ _ _ _ _ _ us hl => match us, hl with | [_], _ => rfl)
    (by rintro vs H Q E ⟨z, ⟨p, k, t, rfl, _⟩, _⟩; rfl) (by
    rintro cdv A outer s H vs Q E hr ⟨R, ⟨p, k, n, rfl, hJ, rfl⟩, hq⟩
    have nd := sc_Jar_colours.nd
    refine ⟨_, pss_one (ps_ret (pe_c1 (own := [("colour", 1), ("count", 2)]) (g := gTup K 2 (gCons (gName 1) (gCons (gName 2) gNil))) rfl nd (pi_enum (by rfl) T.b_enumerate (pa_cons (pe_fld (pv 0) rfl) pa_nil))
        (blkOk_by (N := ["self", "colour", "count"]) (sc := defScope s_Jar_colours) (by decide +kernel)) (fun _ _ _ _ _ => pg_tupK K rfl (pgs_cons (pg_name (i := 1) nd rfl (Or.inl rfl)) (pgs_cons (pg_name (i := 2) nd rfl (Or.inl rfl)) pgs_nil)))
        (fun _ _ _ _ _ => pts_one (pt_cmpR op_gt (pv 2) pe_int (nomark _))) (fun _ _ _ _ _ => pv 1))), ?_⟩
    obtain ⟨dx, l, hp, hl⟩ := hJ.at_
    have h8 := hJ.le
    have hb : outs (fun i => decide (0 < n i)) (fun i => [i]) (nF k n).length = colsOf n k := by
      rw [outs_filter, nF_len]
      simp [colsOf]
    refine s_retP (lc_any (n := (nF k n).length) (S := SFlat nV) (b := fun i => decide (0 < n i)) (bs := fun i => [i]) keeps_flat (wi_enum (ea_cons (ev_fld (ev_var rfl) hp T.k_Jar T.n_own_counts rfl) ea_nil) (sq_of hl)) (goes_enum (sq_of hl)) (fun i hi => rfl)
      (fun i hi => ?_) (fun D i hi _ => eb_flat (ev_var rfl)) ?_) fun v H1 e1 h1 => hq v H1 e1 ?_
    · have hi' : i < k := by rw [nF_len] at hi; exact hi
      refine et_is (et_test (ev_op (x := nV (n i)) (ev_var ?_) ev_c rv_I0)) ?_
      · show some ((nF k n)[i]?) = _
        rw [nF_get hi']
      · simp
    · rw [hb]
      have : (colsOf n k).length ≤ k := by
        have := List.length_filter_le (fun c => decide (0 < n c)) (List.range k)
        rw [List.length_range] at this
        exact this
      omega
    · obtain ⟨q, h2, h3, h4⟩ := newof_flat h1
      rw [hb] at h4
      exact ⟨q, h2, h3, h4⟩)
theorem use_colours {H : Hp} {p : Addr} {k : Nat} {n : Nat → Nat} (hJ : JarN a H p k n) : SpP (sp_Jar_colours a) [.ref p] H (NewI (colsOf n k)) := spp_use fun H1 e => ⟨p, k, n, rfl, hJ.mono e, rfl⟩
theorem evp_colours {σ : L2.St} {H : Hp} {te : TE} {p : Addr} {k : Nat} {n : Nat → Nat} (h : Ev te σ H (.ref p)) (hJ : JarN a H p k n) : EvP (tMeth a.c_Jar "colours" (sp_Jar_colours a) [] E0 te tNil) σ H (NewI (colsOf n k)) := by
  obtain ⟨dx, l, hp, hl⟩ := hJ.at_
  exact (evp_mt h hp rfl ea_nil (use_colours hJ)).imp fun H1 v H2 _ _ ⟨H3, e3, h1⟩ => h1.back e3
end
end Bj

namespace Bj
open PySem PySem.Spec
open PyProof.Rows L2 Evl
section
variable {σ : L2.St} {H H' : Hp} {ta tb te : TE} {C p q dx : Addr} {fs : List (Str × V)} {sp : Sp} {b : Bool} {x : V}
theorem et_boolOwn (h : Ev te σ H (.ref p)) (hp : H p = some (.ins C dx fs)) (hs : SpV sp [.ref p] H (.bl b)) : EvT (tBoolOwn C sp te) σ H b := fun H1 e Q q =>
  h H1 e _ fun H2 e2 => ⟨p, dx, fs, rfl, e2 _ _ (e _ _ hp), hs H2 (e.trans e2) _ (fun H3 e3 => ⟨b, rfl, q H3 (e2.trans e3)⟩) E0⟩
theorem rv_inOwn (hp : H p = some (.ins C dx fs)) (hs : SpV sp [.ref p, x] H (.bl b)) : RV (rInOwn C sp) x (.ref p) H (.bl b) := fun H1 e Q q => ⟨p, dx, fs, rfl, e _ _ hp, hs H1 e _ (fun H2 e2 => ⟨b, rfl, q H2 e2⟩) E0⟩
theorem rv_niOwn (hp : H p = some (.ins C dx fs)) (hs : SpV sp [.ref p, x] H (.bl b)) : RV (rNotInOwn C sp) x (.ref p) H (.bl (!b)) := fun H1 e Q q => ⟨p, dx, fs, rfl, e _ _ hp, hs H1 e _ (fun H2 e2 => ⟨b, rfl, q H2 e2⟩) E0⟩
end
section
variable {P : Program} {w : World} {K : PySem.W.Frag} {mg : Str → Option Value} {base : Heap} {a : Ad}
def sp_Jar_getitem (a : Ad) : Sp := spV fun vs H z => ∃ p k n c, vs = [.ref p, nV c] ∧ JarN a H p k n ∧ c < k ∧ z = nV (n c)
theorem sc_Jar_getitem : FnScope ["self", "colour"] ["self", "colour"] (defScope s_Jar_getitem) := ⟨rfl, rfl, rfl, by decide +kernel, rfl, by decide +kernel, by decide +kernel⟩
theorem ok_Jar_getitem (T : Txt K mg a) : Df P w K mg base 3 a.f_Jar_getitem ["self", "colour"] (sp_Jar_getitem a) :=
  df_mk T.d_Jar_getitem sc_Jar_getitem (fun _ _ _ _ _ _ us hl => match us, hl with | [_, _], _ => rfl)
    (by rintro vs H Q E ⟨z, ⟨p, k, n, c, rfl, _⟩, _⟩; rfl) (by
    rintro cdv A outer s H vs Q E hr ⟨z, ⟨p, k, n, c, rfl, hJ, hc, rfl⟩, hq⟩
    refine ⟨_, pss_cons (ps_if (pt_not (pt_val (pe_cl (ok_is_colour T) hr T.m_is_colour (pa_cons (pe_pr (pv 0) T.k_Jar T.p_Jar_size (ok_Jar_size T) (hr.mono (by decide))) (pa_cons (pv 1) pa_nil))))) pss_never pss_nil)
      (pss_one (ps_ret (pe_ixl K (pe_fld (pv 0) rfl) (pv 1)))), ?_⟩
    refine q_when (b := false) (et_is (et_not (et_B (ev_cl (ea_cons (ev_jsize (ev_var rfl) hJ) (ea_cons (ev_var rfl) ea_nil)) use_is_colour))) (by simp [hc])) (fun h => nomatch h) fun _ H1 e1 => ?_
    obtain ⟨dx, l, hp, hl⟩ := (hJ.mono e1).at_
    exact s_ret (ev_ixl (ev_fld (ev_var rfl) hp T.k_Jar T.n_own_counts rfl) (ev_var rfl) hl (nF_get hc)) fun H2 e2 => hq H2 (e1.trans e2))
theorem ev_jget {σ : L2.St} {H : Hp} {te t1 : TE} {p : Addr} {k c : Nat} {n : Nat → Nat} (h : Ev te σ H (.ref p)) (h1 : Ev t1 σ H (nV c)) (hJ : JarN a H p k n) (hc : c < k) : Ev (tGetOwn a.c_Jar (sp_Jar_getitem a) te t1) σ H (nV (n c)) := by
  obtain ⟨dx, l, hp, hl⟩ := hJ.at_
  exact ev_getV h hp h1 (spv_use fun H2 e2 => ⟨p, k, n, c, rfl, hJ.mono e2, hc, rfl⟩)
def sp_Jar_contains (a : Ad) : Sp := spV fun vs H z => ∃ p k n c, vs = [.ref p, nV c] ∧ JarN a H p k n ∧ c < k ∧ z = .bl (decide (0 < n c))
theorem sc_Jar_contains : FnScope ["self", "colour"] ["self", "colour"] (defScope s_Jar_contains) := ⟨rfl, rfl, rfl, by decide +kernel, rfl, by decide +kernel, by decide +kernel⟩
theorem ok_Jar_contains (T : Txt K mg a) : Df P w K mg base 3 a.f_Jar_contains ["self", "colour"] (sp_Jar_contains a) :=
  df_mk T.d_Jar_contains sc_Jar_contains (fun _ _ _ _ _ _ us hl => match us, hl with | [_, _], _ => rfl)
    (by rintro vs H Q E ⟨z, ⟨p, k, n, c, rfl, _⟩, _⟩; rfl) (by
    rintro cdv A outer s H vs Q E hr ⟨z, ⟨p, k, n, c, rfl, hJ, hc, rfl⟩, hq⟩
    refine ⟨_, pss_one (ps_ret (pe_and (pe_cl (ok_is_colour T) hr T.m_is_colour (pa_cons (pe_pr (pv 0) T.k_Jar T.p_Jar_size (ok_Jar_size T) (hr.mono (by decide))) (pa_cons (pv 1) pa_nil))) (pe_one (pe_cmpR op_gt (pe_ixl K (pe_fld (pv 0) rfl) (pv 1)) pe_int (nomark _))))), ?_⟩
    obtain ⟨dx, l, hp, hl⟩ := hJ.at_
    exact s_ret (ev_is (ev_andV (ev_cl (ea_cons (ev_jsize (ev_var rfl) hJ) (ea_cons (ev_var rfl) ea_nil)) use_is_colour) (fun _ => ev_op (ev_ixl (ev_fld (ev_var rfl) hp T.k_Jar T.n_own_counts rfl) (ev_var rfl) hl (nF_get hc)) ev_c rv_I0)) (by simp [hc])) hq)
theorem use_contains {H : Hp} {p : Addr} {k c : Nat} {n : Nat → Nat} (hJ : JarN a H p k n) (hc : c < k) : SpV (sp_Jar_contains a) [.ref p, nV c] H (.bl (decide (0 < n c))) := spv_use fun H1 e => ⟨p, k, n, c, rfl, hJ.mono e, hc, rfl⟩
def sp_Jar_bool (a : Ad) : Sp := spV fun vs H z => ∃ p k n, vs = [.ref p] ∧ JarN a H p k n ∧ z = .bl (decide (0 < tot k n))
theorem sc_Jar_bool : FnScope ["self"] ["self"] (defScope s_Jar_bool) := ⟨rfl, rfl, rfl, by decide +kernel, rfl, by decide +kernel, by decide +kernel⟩
theorem ok_Jar_bool (T : Txt K mg a) : Df P w K mg base 1 a.f_Jar_bool ["self"] (sp_Jar_bool a) :=
  df_mk T.d_Jar_bool sc_Jar_bool (fun _ _ _ _ _ _ us hl => match us, hl with | [_], _ => rfl)
    (by rintro vs H Q E ⟨z, ⟨p, k, n, rfl, _⟩, _⟩; rfl) (by
    rintro cdv A outer s H vs Q E hr ⟨z, ⟨p, k, n, rfl, hJ, rfl⟩, hq⟩
    refine ⟨_, pss_one (ps_ret (pe_cmpR op_gt (pe_callB (cr_sum rfl) (by rfl) T.b_sum PyProof.Rows.boot_sum (pa_cons (pe_fld (pv 0) rfl) pa_nil)) pe_int (nomark _))), ?_⟩
    obtain ⟨dx, l, hp, hl⟩ := hJ.at_
    refine s_ret (ev_is (ev_op (ev_sum (ev_fld (ev_var rfl) hp T.k_Jar T.n_own_counts rfl) hl) ev_c rv_I0) ?_) hq
    congr 1
    exact decide_eq_decide.mpr (by unfold tot; omega))
def sp_Jar_validate_size (a : Ad) : Sp := spV fun vs H z => ∃ p k n, vs = [.ref p, nV k] ∧ JarN a H p k n ∧ z = .non
theorem sc_Jar_validate_size : FnScope ["self", "size"] ["self", "size"] (defScope s_Jar_validate_size) := ⟨rfl, rfl, rfl, by decide +kernel, rfl, by decide +kernel, by decide +kernel⟩
theorem ok_Jar_validate_size (T : Txt K mg a) : Df P w K mg base 3 a.f_Jar_validate_size ["self", "size"] (sp_Jar_validate_size a) :=
  df_mk T.d_Jar_validate_size sc_Jar_validate_size (fun _ _ _ _ _ _ us hl => match us, hl with | [_, _], _ => rfl)
    (by rintro vs H Q E ⟨z, ⟨p, k, n, rfl, _⟩, _⟩; rfl) (by
    rintro cdv A outer s H vs Q E hr ⟨z, ⟨p, k, n, rfl, hJ, rfl⟩, hq⟩
    refine ⟨_, pss_one (ps_if (pt_cmpR op_ne (pe_pr (pv 0) T.k_Jar T.p_Jar_size (ok_Jar_size T) (hr.mono (by decide))) (pv 1) (nomark _)) pss_never pss_nil), ?_⟩
    exact s_when (b := false) (et_is (et_test (ev_op (ev_jsize (ev_var rfl) hJ) (ev_var rfl) (rv_ne rfl))) (by simp)) (fun h => nomatch h) fun _ H1 e1 => hq H1 e1)
theorem ev_vsize {σ : L2.St} {H : Hp} {te t1 : TE} {p : Addr} {k : Nat} {n : Nat → Nat} (h : Ev te σ H (.ref p)) (h1 : Ev t1 σ H (nV k)) (hJ : JarN a H p k n) : Ev (tMeth a.c_Jar "validate_size" (sp_Jar_validate_size a) [] E0 te (tCons t1 tNil)) σ H .non := by
  obtain ⟨dx, l, hp, hl⟩ := hJ.at_
  exact ev_mt h hp rfl (ea_cons h1 ea_nil) (spv_use fun H2 e2 => ⟨p, k, n, rfl, hJ.mono e2, rfl⟩)
def cnt (bs : List Nat) (c : Nat) : Nat := bs.count c
def sp_Jar_of_beans (a : Ad) : Sp := spP fun vs H R => ∃ k l bs, vs = [.ref a.c_Jar, nV k, .ref l] ∧ (H l = some (.lst (nVs bs)) ∨ H l = some (.tup (nVs bs))) ∧ 1 ≤ k ∧ k ≤ 8 ∧ (∀ b ∈ bs, b < k) ∧ R = NewJ a k (cnt bs) H
theorem sc_Jar_of_beans : FnScope ["cls", "size", "beans", "counts", "bean"] ["cls", "size", "beans"] (defScope s_Jar_of_beans) := ⟨rfl, rfl, rfl, by decide +kernel, rfl, by decide +kernel, by decide +kernel⟩
theorem ok_Jar_of_beans (T : Txt K mg a) : Df P w K mg base 5 a.f_Jar_of_beans ["cls", "size", "beans"] (sp_Jar_of_beans a) := by
  obtain ⟨tm, hmax⟩ := T.m_max
  exact df_mk T.d_Jar_of_beans sc_Jar_of_beans (fun _ _ _ _ _ _ us hl => match us, hl with | [_, _, _], _ => rfl)
    (by rintro vs H Q E ⟨z, ⟨k, l, bs, rfl, _⟩, _⟩; rfl) (by
    rintro cdv A outer s H vs Q E hr ⟨R, ⟨k, l, bs, rfl, hb, h1, h8, hk, rfl⟩, hq⟩
    have nd := sc_Jar_of_beans.nd
    refine ⟨_, pss_cons (ps_if (PW.pt (pw_or (pt_not (pt_val (pe_cl (ok_is_integer T) (hr.mono (by decide)) T.m_is_integer (pa_cons (pv 1) pa_nil)))) (pw_or1 (pt_not (pt_chain op_le op_le pe_int (pv 1) (pe_glob (v := .int 8) (by rfl) hmax ⟨_, rfl⟩)))))) pss_never pss_nil)
      (pss_cons (ps_if (pt_not (pt_val (pe_isLT T (pv 2)))) pss_never pss_nil)
      (pss_cons (ps_set (i := 3) nd rfl (Or.inl rfl) (pe_op op_rep (pe_lst (pa_cons pe_int pa_nil)) (pv 1)))
      (pss_cons (ps_for PassesOwn.never rfl (pi_or (pi_lst K (pv 2)) (pi_tup (pv 2))) (pg_name (i := 4) nd rfl (Or.inl rfl))
        (pss_cons (ps_if (pt_not (pt_val (pe_cl (ok_is_colour T) (hr.mono (by decide)) T.m_is_colour (pa_cons (pv 1) (pa_cons (pv 4) pa_nil))))) pss_never pss_nil)
          (pss_one (ps_augS (pv 3) (pv 4) get_list pe_int ip_add set_list))))
      (pss_one (ps_ret (pe_mkL (j := 0) T.i_Jar (ok_Jar_init T) hr rfl (Or.inl rfl) (pa_cons (pv 3) pa_nil))))))), ?_⟩
    refine q_when (b := false) (et_is (et_or (et_not (et_B (ev_cl (ea_cons (ev_var rfl) ea_nil) use_is_integer))) (fun _ => et_not (et_test (ev_le2 ev_c (ev_var rfl) ev_c)))) ?_) (fun h => nomatch h) fun _ H1 e1 => ?_
    · simp
      omega
    have hb1 : H1 l = some (.lst (nVs bs)) ∨ H1 l = some (.tup (nVs bs)) := hb.imp (e1 _ _) (e1 _ _)
    have hi : Ev (tCB (rIsiT K) (tCons (tVar 2) (tCons (tTup (tCons (tC (.ty "list")) (tCons (tC (.ty "tuple")) tNil))) tNil))) (L2.start ["cls", "size", "beans", "counts", "bean"] [.ref a.c_Jar, nV k, .ref l]) H1 (.bl true) := by
      rcases hb1 with h | h
      · exact ev_isLstL (ev_var rfl) h
      · exact ev_isLstT (ev_var rfl) h
    refine q_when (b := false) (et_not (et_B hi)) (fun h => nomatch h) fun _ H2 e2 => ?_
    refine q_asgL (el_rep ev_c (ev_var rfl) (by omega)) fun c H3 nc e3 hc => ?_
    have hb3 : H3 l = some (.lst (nVs bs)) ∨ H3 l = some (.tup (nVs bs)) := hb1.imp (fun h => e3 _ _ (e2 _ _ h)) (fun h => e3 _ _ (e2 _ _ h))
    have h0 : H3 c = some (.lst (nF k (cnt []))) := by
      rw [hc]
      congr 2
      refine nF_ext (by simp) fun i hi => ?_
      rw [List.getElem?_replicate, if_pos hi]
      rfl
    let Pv : Nat → L2.St → Hp → Prop := fun i σ' H' => Ex H2 H' ∧ (∃ u, σ' = [some (.ref a.c_Jar), some (nV k), some (.ref l), some (.ref c), u]) ∧ H' c = some (.lst (nF k (cnt (bs.take i))))
    have hs : ∀ i x σ' H', (nVs bs)[i]? = some x → Pv i σ' H' → tSeq (tIfS (tNot (tB (tCall sp_is_colour [] E0 (tCons (tVar 1) (tCons (tVar 4) tNil))))) tNever tNext) (tAugS (tVar 3) (tVar 4) (tC (.int 1)) (rGetL K) (ipI fun i j => i + j) L2.rSetL) { nx := Pv (i + 1), rt := Q, ct := Pv (i + 1), bk := tRet (tMakeL 0 a.c_Jar (sp_Jar_init a) (tCons (tVar 3) tNil)) { nx := fun x H' => Q .non H', rt := Q } } (σ'.set 4 (some x)) H' := by
      rintro i x σ' H' hx ⟨e', ⟨u, rfl⟩, hc'⟩
      obtain ⟨b, hb', rfl⟩ : ∃ b, bs[i]? = some b ∧ x = nV b := by
        unfold nVs at hx
        rw [List.getElem?_map] at hx
        cases e : bs[i]? with
        | none => rw [e] at hx; cases hx
        | some b => rw [e] at hx; exact ⟨b, rfl, (Option.some.inj hx).symm⟩
      have hbk : b < k := hk b (List.mem_of_getElem? hb')
      refine q_when (b := false) (et_is (et_not (et_B (ev_cl (ea_cons (ev_var rfl) (ea_cons (ev_var rfl) ea_nil)) use_is_colour))) (by simp [hbk])) (fun h => nomatch h) fun _ H4 e4 => ?_
      have hc4 := e4 _ _ hc'
      refine ⟨_, rfl, _, rfl, c, _, b, _, rfl, rfl, sq_of hc4, nF_get hbk, _, 1, rfl, rfl, c, _, b, b, rfl, rfl, hc4, ixN_nat (by rw [nF_len]; exact hbk), ?_⟩
      refine ⟨(e'.trans e4).mut (fresh_back (Ex.refl H2) nc), ⟨_, rfl⟩, ?_⟩
      rw [upd_same]
      congr 2
      rw [show V.int (((cnt (bs.take i) b : Nat) : Int) + 1) = nV (cnt (bs.take i) b + 1) from rfl, nF_set hbk]
      refine nF_congr fun j hj => ?_
      unfold cnt
      rw [List.take_add_one, hb', List.count_append]
      by_cases ej : j = b
      · subst ej
        simp
      · rw [if_neg ej]
        have : List.count j (some b).toList = 0 := by
          simp [Ne.symm ej]
        omega
    have hd : ∀ σ' H', Pv (nVs bs).length σ' H' → tRet (tMakeL 0 a.c_Jar (sp_Jar_init a) (tCons (tVar 3) tNil)) { nx := fun x H' => Q .non H', rt := Q } σ' H' := by
      rintro σ' H' ⟨e', ⟨u, rfl⟩, hc'⟩
      rw [show (nVs bs).length = bs.length by simp, List.take_length] at hc'
      refine ⟨rfl, _, rfl, ?_⟩
      intro x dx nx ndx ne
      have e5 : Ex H' (upd (upd H' dx (.own x)) x (.ins a.c_Jar dx [])) := (Ex.new ndx).mut nx
      have e6 : Ex H H' := (e1.trans e2).trans e'
      exact ⟨x, c, dx, k, cnt bs, rfl, upd_same, e5 _ _ hc', h1, h8, fun H'' l' of hx' nl' hl' => ⟨rfl, hq (.ref x) H'' (e6.trans fun b o hb => of b o (ne_of_none hb nx) (e5 b o hb)) ⟨x, rfl, fresh_back e6 nx, h1, h8, dx, l', hx', fresh_back (e6.trans e5) nl', hl'⟩⟩⟩
    rcases hb3 with h | h
    · exact Or.inl (q_forL (ev_var rfl) (sq_of h) Pv (fun H4 e4 => ⟨e3.trans e4, ⟨none, rfl⟩, e4 _ _ h0⟩) (fun i σ' H' hi p => sq_of (p.1.trans (Ex.refl _) _ _ (hb1.elim (fun z => e2 _ _ z) (fun z => by rw [e3 _ _ (e2 _ _ z)] at h; cases h)))) hs hd)
    · exact Or.inr (q_forT (ev_var rfl) (st_of h) Pv (fun H4 e4 => ⟨e3.trans e4, ⟨none, rfl⟩, e4 _ _ h0⟩) (fun i σ' H' hi p => st_of (p.1.trans (Ex.refl _) _ _ (hb1.elim (fun z => by rw [e3 _ _ (e2 _ _ z)] at h; cases h) (fun z => e2 _ _ z)))) hs hd))
end
end Bj

namespace Bj
open PySem PySem.Spec
open PyProof.Rows L2 Evl
section
variable {P : Program} {w : World} {K : PySem.W.Frag} {mg : Str → Option Value} {base : Heap} {a : Ad}
def sp_Jar_add (a : Ad) : Sp := spP fun vs H R => ∃ p q k n m, vs = [.ref p, .ref q] ∧ JarN a H p k n ∧ JarN a H q k m ∧ R = NewJ a k (fun c => n c + m c) H
theorem sc_Jar_add : FnScope ["self", "other", "one", "two"] ["self", "other"] (defScope s_Jar_add) := ⟨rfl, rfl, rfl, by decide +kernel, rfl, by decide +kernel, by decide +kernel⟩
theorem ok_Jar_add (T : Txt K mg a) : Df P w K mg base 5 a.f_Jar_add ["self", "other"] (sp_Jar_add a) :=
  df_mk T.d_Jar_add sc_Jar_add (fun _ _ _ _ _ _ us hl => match us, hl with | [_, _], _ => rfl)
    (by rintro vs H Q E ⟨z, ⟨p, q, k, n, m, rfl, _⟩, _⟩; rfl) (by
    rintro cdv A outer s H vs Q E hr ⟨R, ⟨p, q, k, n, m, rfl, hJ, hM, rfl⟩, hq⟩
    have nd := sc_Jar_add.nd
    refine ⟨_, pss_cons (ps_expr (pe_mt (pv 0) T.k_Jar T.h_Jar_validate_size (ok_Jar_validate_size T) (hr.mono (by decide)) (pa_cons (pe_pr (pv 1) T.k_Jar T.p_Jar_size (ok_Jar_size T) (hr.mono (by decide))) pa_nil)))
      (pss_one (ps_ret (pe_mk T.i_Jar (ok_Jar_init T) hr T.m_Jar (pa_cons (pe_c1 (own := [("one", 2), ("two", 3)]) (g := gTup K 2 (gCons (gName 2) (gCons (gName 3) gNil))) (tt := tYes) rfl nd
        (pi_zipS (by rfl) T.b_zip (pa_cons (pe_fld (pv 0) rfl) (pa_cons (pe_fld (pv 1) rfl) pa_nil)))
        (blkOk_by (N := ["self", "other", "one", "two"]) (sc := defScope s_Jar_add) (by decide +kernel)) (fun _ _ _ _ _ => pg_tupK K rfl (pgs_cons (pg_name (i := 2) nd rfl (Or.inl rfl)) (pgs_cons (pg_name (i := 3) nd rfl (Or.inl rfl)) pgs_nil)))
        (fun _ _ _ _ _ => pts_nil) (fun _ _ _ _ _ => pe_op op_add (pv 2) (pv 3))) pa_nil)))), ?_⟩
    refine q_drop (v := .non) (ev_vsize (ev_var rfl) (ev_jsize (ev_var rfl) hM) hJ) fun H1 e1 => ?_
    obtain ⟨dx, l, hp, hl⟩ := (hJ.mono e1).at_
    obtain ⟨dy, l2, hp2, hl2⟩ := (hM.mono e1).at_
    have h8 := hJ.le
    have hb : (outs (fun _ => true) (fun i => [n i + m i]) (nF k n).length).map nV = nF k (fun c => n c + m c) := by
      rw [outs_map, nF_len]
      rfl
    refine s_retP (evp_mkJar (k := k) (n := fun c => n c + m c) (hb ▸ el_newof (lc_any (n := (nF k n).length) (S := SFlat nV) (b := fun _ => true) (bs := fun i => [n i + m i]) keeps_flat
      (wi_zip (ea_cons (ev_fld (ev_var rfl) hp T.k_Jar T.n_own_counts rfl) (ea_cons (ev_fld (ev_var rfl) hp2 T.k_Jar T.n_own_counts rfl) ea_nil)) (sq_of hl) (sq_of hl2)) (goes_zip (sq_of hl) (sq_of hl2) (by rw [nF_len, nF_len])) (fun i hi => rfl)
      (fun i hi => et_yes) (fun D i hi _ => eb_flat ?_) ?_)) hJ.pos hJ.le) fun v H2 e2 h2 => hq v H2 (e1.trans e2) (h2.back e1)
    · have hi' : i < k := by rw [nF_len] at hi; exact hi
      refine ev_is (ev_op (x := nV (n i)) (y := nV (m i)) (ev_var ?_) (ev_var ?_) rv_I0) rfl
      · show some ((nF k n)[i]?) = _
        rw [nF_get hi']
      · show some ((nF k m)[i]?) = _
        rw [nF_get hi']
    · rw [outs_map, List.length_map, List.length_range, nF_len]
      omega)
def sp_Jar_sub (a : Ad) : Sp := spP fun vs H R => ∃ p q k n m, vs = [.ref p, .ref q] ∧ JarN a H p k n ∧ JarN a H q k m ∧ (∀ c, c < k → m c ≤ n c) ∧ R = NewJ a k (fun c => n c - m c) H
theorem sc_Jar_sub : FnScope ["self", "other", "colour", "one", "two"] ["self", "other"] (defScope s_Jar_sub) := ⟨rfl, rfl, rfl, by decide +kernel, rfl, by decide +kernel, by decide +kernel⟩
theorem ok_Jar_sub (T : Txt K mg a) : Df P w K mg base 5 a.f_Jar_sub ["self", "other"] (sp_Jar_sub a) :=
  df_mk T.d_Jar_sub sc_Jar_sub (fun _ _ _ _ _ _ us hl => match us, hl with | [_, _], _ => rfl)
    (by rintro vs H Q E ⟨z, ⟨p, q, k, n, m, rfl, _⟩, _⟩; rfl) (by
    rintro cdv A outer s H vs Q E hr ⟨R, ⟨p, q, k, n, m, rfl, hJ, hM, hle, rfl⟩, hq⟩
    have nd := sc_Jar_sub.nd
    refine ⟨_, pss_cons (ps_expr (pe_mt (pv 0) T.k_Jar T.h_Jar_validate_size (ok_Jar_validate_size T) (hr.mono (by decide)) (pa_cons (pe_pr (pv 1) T.k_Jar T.p_Jar_size (ok_Jar_size T) (hr.mono (by decide))) pa_nil)))
      (pss_cons (ps_for PassesOwn.never rfl (pi_rng T (pe_pr (pv 0) T.k_Jar T.p_Jar_size (ok_Jar_size T) (hr.mono (by decide)))) (pg_name (i := 2) nd rfl (Or.inl rfl))
        (pss_one (ps_if (pt_cmpR op_lt (pe_ixl K (pe_fld (pv 0) rfl) (pv 2)) (pe_ixl K (pe_fld (pv 1) rfl) (pv 2)) (nomark _)) pss_never pss_nil)))
      (pss_one (ps_ret (pe_mk T.i_Jar (ok_Jar_init T) hr T.m_Jar (pa_cons (pe_c1 (own := [("one", 3), ("two", 4)]) (g := gTup K 2 (gCons (gName 3) (gCons (gName 4) gNil))) (tt := tYes) rfl nd
        (pi_zipS (by rfl) T.b_zip (pa_cons (pe_fld (pv 0) rfl) (pa_cons (pe_fld (pv 1) rfl) pa_nil)))
        (blkOk_by (N := ["self", "other", "colour", "one", "two"]) (sc := defScope s_Jar_sub) (by decide +kernel)) (fun _ _ _ _ _ => pg_tupK K rfl (pgs_cons (pg_name (i := 3) nd rfl (Or.inl rfl)) (pgs_cons (pg_name (i := 4) nd rfl (Or.inl rfl)) pgs_nil)))
        (fun _ _ _ _ _ => pts_nil) (fun _ _ _ _ _ => pe_op op_sub (pv 3) (pv 4))) pa_nil))))), ?_⟩
    have h8 := hJ.le
    refine q_drop (v := .non) (ev_vsize (ev_var rfl) (ev_jsize (ev_var rfl) hM) hJ) fun H1 e1 => ?_
    refine q_forR1 (ea_cons (ev_jsize (ev_var rfl) (hJ.mono e1)) ea_nil) (by omega) (fun i σ' H' => Ex H1 H' ∧ ∃ u, σ' = [some (.ref p), some (.ref q), u, none, none]) (fun H2 e2 => ⟨e2, none, rfl⟩) ?_ ?_
    · rintro i σ' H' hi ⟨e', u, rfl⟩
      have hi' : i < k := by omega
      obtain ⟨dx, l, hp, hl⟩ := (hJ.mono (e1.trans e')).at_
      obtain ⟨dy, l2, hp2, hl2⟩ := (hM.mono (e1.trans e')).at_
      refine s_when (b := false) (et_is (et_test (ev_op (ev_ixl (ev_fld (ev_var rfl) hp T.k_Jar T.n_own_counts rfl) (ev_var rfl) hl (nF_get hi')) (ev_ixl (ev_fld (ev_var rfl) hp2 T.k_Jar T.n_own_counts rfl) (ev_var rfl) hl2 (nF_get hi')) rv_I0)) ?_) (fun h => nomatch h) fun _ H2 e2 => ⟨e'.trans e2, _, rfl⟩
      have := hle i hi'
      simp
      omega
    rintro σ' H' ⟨e', u, rfl⟩
    have e1' := e1.trans e'
    obtain ⟨dx, l, hp, hl⟩ := (hJ.mono e1').at_
    obtain ⟨dy, l2, hp2, hl2⟩ := (hM.mono e1').at_
    have hb : (outs (fun _ => true) (fun i => [n i - m i]) (nF k n).length).map nV = nF k (fun c => n c - m c) := by
      rw [outs_map, nF_len]
      rfl
    refine s_retP (evp_mkJar (k := k) (n := fun c => n c - m c) (hb ▸ el_newof (lc_any (n := (nF k n).length) (S := SFlat nV) (b := fun _ => true) (bs := fun i => [n i - m i]) keeps_flat
      (wi_zip (ea_cons (ev_fld (ev_var rfl) hp T.k_Jar T.n_own_counts rfl) (ea_cons (ev_fld (ev_var rfl) hp2 T.k_Jar T.n_own_counts rfl) ea_nil)) (sq_of hl) (sq_of hl2)) (goes_zip (sq_of hl) (sq_of hl2) (by rw [nF_len, nF_len])) (fun i hi => rfl)
      (fun i hi => et_yes) (fun D i hi _ => eb_flat ?_) ?_)) hJ.pos hJ.le) fun v H2 e2 h2 => hq v H2 (e1'.trans e2) (h2.back e1')
    · have hi' : i < k := by rw [nF_len] at hi; exact hi
      refine ev_is (ev_op (x := nV (n i)) (y := nV (m i)) (ev_var ?_) (ev_var ?_) rv_I0) ?_
      · show some ((nF k n)[i]?) = _
        rw [nF_get hi']
      · show some ((nF k m)[i]?) = _
        rw [nF_get hi']
      · have := hle i hi'
        show V.int _ = V.int _
        congr 1
        omega
    · rw [outs_map, List.length_map, List.length_range, nF_len]
      omega)
def canD (n : Nat → Nat) (x y : Nat) : Bool := decide (0 < n x) && decide (0 < n y) && (decide (x < y) || decide (x = y) && decide (2 ≤ n x))
def sp_Jar_can_draw (a : Ad) : Sp := spV fun vs H z => ∃ p q k n x y, vs = [.ref p, .ref q] ∧ JarN a H p k n ∧ H q = some (.tup [nV x, nV y]) ∧ x < k ∧ y < k ∧ z = .bl (canD n x y)
theorem sc_Jar_can_draw : FnScope ["self", "value"] ["self", "value"] (defScope s_Jar_can_draw) := ⟨rfl, rfl, rfl, by decide +kernel, rfl, by decide +kernel, by decide +kernel⟩
theorem ok_Jar_can_draw (T : Txt K mg a) : Df P w K mg base 4 a.f_Jar_can_draw ["self", "value"] (sp_Jar_can_draw a) :=
  df_mk T.d_Jar_can_draw sc_Jar_can_draw (fun _ _ _ _ _ _ us hl => match us, hl with | [_, _], _ => rfl)
    (by rintro vs H Q E ⟨z, ⟨p, q, k, n, x, y, rfl, _⟩, _⟩; rfl) (by
    rintro cdv A outer s H vs Q E hr ⟨z, ⟨p, q, k, n, x, y, rfl, hJ, ht, hx, hy, rfl⟩, hq⟩
    refine ⟨_, pss_cons (ps_if (PW.pt (pw_or (pt_not (pt_val (pe_callB call_isi (by rfl) T.b_isinstance boot_isinstance (pa_cons (pv 1) (pa_cons (pe_ty (by rfl) T.b_tuple PyProof.Rows.boot_tuple) pa_nil)))))
        (pw_or (pt_cmpR op_ne (pe_len T (pv 1)) pe_int (nomark _)) (pw_or (pt_cmpR (op_notIn_ T.u_Jar_contains (ok_Jar_contains T) (hr.mono (by decide))) (pe_ixt K (pv 1) pe_int) (pv 0) rfl)
          (pw_or1 (pt_cmpR (op_notIn_ T.u_Jar_contains (ok_Jar_contains T) (hr.mono (by decide))) (pe_ixt K (pv 1) pe_int) (pv 0) rfl)))))) (pss_one (ps_ret pe_bl)) pss_nil)
      (pss_one (ps_ret (pe_or (pe_cmpR op_lt (pe_ixt K (pv 1) pe_int) (pe_ixt K (pv 1) pe_int) (nomark _)) (pe_one (pe_and (pe_cmpR op_eq (pe_ixt K (pv 1) pe_int) (pe_ixt K (pv 1) pe_int) (nomark _)) (pe_one (pe_cmpR op_ge (pe_ixl K (pe_fld (pv 0) rfl) (pe_ixt K (pv 1) pe_int)) pe_int (nomark _)))))))), ?_⟩
    obtain ⟨dx, l, hp, hl⟩ := hJ.at_
    have i0 : ∀ H1, Ex H H1 → Ev (tOp (rIxT K) (tVar 1) (tC (.int 0))) (L2.start ["self", "value"] [.ref p, .ref q]) H1 (nV x) := fun H1 e => ev_ixt (i := 0) (ev_var rfl) ev_c (e _ _ ht) rfl
    have i1 : ∀ H1, Ex H H1 → Ev (tOp (rIxT K) (tVar 1) (tC (.int 1))) (L2.start ["self", "value"] [.ref p, .ref q]) H1 (nV y) := fun H1 e => ev_ixt (i := 1) (ev_var rfl) ev_c (e _ _ ht) rfl
    refine q_when (b := !(decide (0 < n x) && decide (0 < n y))) (et_is (et_or (et_not (et_B (ev_isTup (ev_var rfl) ht))) (fun _ => et_or (et_test (ev_op (ev_lenS (ev_var rfl) (.inr (st_of ht))) ev_c (rv_ne rfl)))
      (fun _ => et_or (et_test (ev_op (i0 H (Ex.refl H)) (ev_var rfl) (rv_niOwn hp (use_contains hJ hx)))) (fun _ => et_test (ev_op (i1 H (Ex.refl H)) (ev_var rfl) (rv_niOwn hp (use_contains hJ hy))))))) (by simp)) (fun hb H1 e1 => ?_) (fun hb H1 e1 => ?_)
    · refine s_ret (v := .bl false) ev_c fun H2 e2 => ?_
      have hz : canD n x y = false := by
        unfold canD
        cases h : (decide (0 < n x) && decide (0 < n y)) with
        | false => rfl
        | true => rw [h] at hb; exact nomatch hb
      rw [hz] at hq
      exact hq H2 (e1.trans e2)
    · have hz : (decide (0 < n x) && decide (0 < n y)) = true := by
        cases h : (decide (0 < n x) && decide (0 < n y)) with
        | false => rw [h] at hb; exact nomatch hb
        | true => rfl
      have hl1 := e1 _ _ hl
      have hp1 := e1 _ _ hp
      refine s_ret (ev_is (ev_orV (ev_op (i0 H1 e1) (i1 H1 e1) rv_I0) (fun _ => ev_andV (ev_op (i0 H1 e1) (i1 H1 e1) (rv_eq rfl)) (fun _ => ev_op (ev_ixl (ev_fld (ev_var rfl) hp1 T.k_Jar T.n_own_counts rfl) (i0 H1 e1) hl1 (nF_get hx)) ev_c rv_I0))) ?_) fun H2 e2 => hq H2 (e1.trans e2)
      unfold canD
      rw [hz]
      simp
      have e3 : ((2 : Int) ≤ (n x : Int)) ↔ 2 ≤ n x := by omega
      have e4 : ((x : Int) = (y : Int)) ↔ x = y := by omega
      simp only [e3, e4])
theorem use_can_draw {H : Hp} {p q : Addr} {k x y : Nat} {n : Nat → Nat} (hJ : JarN a H p k n) (ht : H q = some (.tup [nV x, nV y])) (hx : x < k) (hy : y < k) : SpV (sp_Jar_can_draw a) [.ref p, .ref q] H (.bl (canD n x y)) := spv_use fun H1 e => ⟨p, q, k, n, x, y, rfl, hJ.mono e, e _ _ ht, hx, hy, rfl⟩
end
end Bj

namespace Bj
open PySem PySem.Spec
open PyProof.Rows L2 Evl
theorem mem_outs {β : Type} {b : Nat → Bool} {bs : Nat → List β} {x : β} {n : Nat} : x ∈ outs b bs n ↔ ∃ i, i < n ∧ b i = true ∧ x ∈ bs i := by
  unfold outs
  simp only [List.mem_flatMap, List.mem_range]
  constructor
  · rintro ⟨i, hi, h⟩
    cases hb : b i with
    | true => rw [hb] at h; exact ⟨i, hi, hb, h⟩
    | false => rw [hb] at h; simp at h
  · rintro ⟨i, hi, hb, h⟩
    exact ⟨i, hi, by rw [hb]; exact h⟩
theorem outs_len {β : Type} {b : Nat → Bool} {bs : Nat → List β} {m : Nat} : ∀ n, (∀ i, i < n → (bs i).length ≤ m) → (outs b bs n).length ≤ n * m
  | 0, _ => by simp [outs]
  | n + 1, h => by
    rw [outs_succ, List.length_append, Nat.succ_mul]
    have := outs_len (b := b) n fun i hi => h i (by omega)
    have h2 := h n (by omega)
    cases b n with
    | true => simp only [if_true]; omega
    | false => simp; omega
theorem cols_len {k : Nat} {n : Nat → Nat} : (colsOf n k).length ≤ k := by
  have := List.length_filter_le (fun c => decide (0 < n c)) (List.range k)
  rw [List.length_range] at this
  exact this
theorem mem_cols {k c : Nat} {n : Nat → Nat} : c ∈ colsOf n k ↔ c < k ∧ 0 < n c := by simp [colsOf]
def colAt (n : Nat → Nat) (k i : Nat) : Nat := (colsOf n k).getD i 0
theorem colAt_get {n : Nat → Nat} {k i : Nat} (h : i < (colsOf n k).length) : (colsOf n k)[i]? = some (colAt n k i) := by
  unfold colAt
  rw [List.getD_eq_getElem?_getD, List.getElem?_eq_getElem h]
  rfl
theorem colAt_ok {n : Nat → Nat} {k i : Nat} (h : i < (colsOf n k).length) : colAt n k i < k ∧ 0 < n (colAt n k i) := mem_cols.mp (List.mem_of_getElem? (colAt_get h))
theorem nVs_get {l : List Nat} {i v : Nat} (h : l[i]? = some v) : (nVs l)[i]? = some (nV v) := by
  unfold nVs
  rw [List.getElem?_map, h]
  rfl
def drawsOf (k : Nat) (n : Nat → Nat) : List (Nat × Nat) := outs (fun _ => true) (fun i => outs (fun j => canD n (colAt n k i) (colAt n k j)) (fun j => [(colAt n k i, colAt n k j)]) (colsOf n k).length) (colsOf n k).length
theorem draws_len {k : Nat} {n : Nat → Nat} (h : k ≤ 8) : (drawsOf k n).length ≤ 64 := by
  have hl := cols_len (k := k) (n := n)
  have h1 := outs_len (b := fun _ => true) (bs := fun i => outs (fun j => canD n (colAt n k i) (colAt n k j)) (fun j => [(colAt n k i, colAt n k j)]) (colsOf n k).length) (m := 8) (colsOf n k).length (fun i _ => by
    have := outs_len (b := fun j => canD n (colAt n k i) (colAt n k j)) (bs := fun j => [(colAt n k i, colAt n k j)]) (m := 1) (colsOf n k).length (fun j _ => Nat.le_refl _)
    omega)
  unfold drawsOf
  omega
theorem mem_draws {k : Nat} {n : Nat → Nat} {x : Nat × Nat} : x ∈ drawsOf k n ↔ x.1 < k ∧ x.2 < k ∧ canD n x.1 x.2 = true := by
  unfold drawsOf
  rw [mem_outs]
  constructor
  · rintro ⟨i, hi, _, h⟩
    obtain ⟨j, hj, hc, h⟩ := mem_outs.mp h
    obtain rfl := List.mem_singleton.mp h
    exact ⟨(colAt_ok hi).1, (colAt_ok hj).1, hc⟩
  · rintro ⟨h1, h2, h3⟩
    have h3' := h3
    simp only [canD, Bool.and_eq_true, decide_eq_true_eq] at h3'
    obtain ⟨i, hi⟩ := List.mem_iff_getElem?.mp (mem_cols.mpr ⟨h1, h3'.1.1⟩)
    obtain ⟨j, hj⟩ := List.mem_iff_getElem?.mp (mem_cols.mpr ⟨h2, h3'.1.2⟩)
    have li := (List.getElem?_eq_some_iff.mp hi).1
    have lj := (List.getElem?_eq_some_iff.mp hj).1
    have ei : colAt n k i = x.1 := by have := colAt_get li; rw [hi] at this; exact (Option.some.inj this).symm
    have ej : colAt n k j = x.2 := by have := colAt_get lj; rw [hj] at this; exact (Option.some.inj this).symm
    exact ⟨i, li, rfl, mem_outs.mpr ⟨j, lj, by rw [ei, ej]; exact h3, List.mem_singleton.mpr (by rw [ei, ej])⟩⟩
theorem tot_succ (k : Nat) (n : Nat → Nat) : tot (k + 1) n = tot k n + n k := by
  unfold tot
  rw [List.range_succ, List.map_append, List.sum_append]
  simp
theorem tot_zero {n : Nat → Nat} : ∀ {k : Nat}, (∀ c, c < k → n c = 0) → tot k n = 0
  | 0, _ => rfl
  | k + 1, h => by
    rw [tot_succ, tot_zero fun c hc => h c (by omega), h k (by omega)]
theorem tot_bump {k c : Nat} {n : Nat → Nat} (hc : c < k) : tot k (bump n c) = tot k n + 1 := by
  induction k with
  | zero => omega
  | succ k ih =>
    rw [tot_succ, tot_succ]
    by_cases e : c = k
    · subst e
      have h1 : tot c (bump n c) = tot c n := by
        unfold tot
        congr 1
        refine List.map_congr_left fun i hi => ?_
        have := List.mem_range.mp hi
        unfold bump
        rw [if_neg (by omega)]
      have h2 : bump n c c = n c + 1 := by unfold bump; rw [if_pos rfl]
      omega
    · have h1 := ih (by omega)
      have h2 : bump n c k = n k := by unfold bump; rw [if_neg (by omega)]
      omega
theorem tot_pos {k : Nat} {n : Nat → Nat} (h : 0 < tot k n) : ∃ c, c < k ∧ 0 < n c := Classical.byContradiction fun hn => by
  have := tot_zero (k := k) (n := n) fun c hc => Nat.eq_zero_of_not_pos fun hp => hn ⟨c, hc, hp⟩
  omega
/-- with one bean less -/
def drop1 (n : Nat → Nat) (c : Nat) : Nat → Nat := fun i => if i = c then n i - 1 else n i
theorem bump_drop {n : Nat → Nat} {c : Nat} (h : 0 < n c) : bump (drop1 n c) c = n := by
  funext i
  unfold bump drop1
  by_cases e : i = c
  · subst e
    simp
    omega
  · simp [e]
theorem draws_any {k : Nat} {n : Nat → Nat} (h : 2 ≤ tot k n) : ∃ x, x ∈ drawsOf k n := by
  obtain ⟨c, hc, hp⟩ := tot_pos (k := k) (n := n) (by omega)
  by_cases h2 : 2 ≤ n c
  · exact ⟨(c, c), mem_draws.mpr ⟨hc, hc, by simp [canD, hp, h2]⟩⟩
  · have e1 : tot k n = tot k (drop1 n c) + 1 := by
      have := tot_bump (k := k) (c := c) (n := drop1 n c) hc
      rw [bump_drop hp] at this
      exact this
    obtain ⟨d, hd, hq⟩ := tot_pos (k := k) (n := drop1 n c) (by omega)
    have ne : d ≠ c := fun e => by
      subst e
      unfold drop1 at hq
      rw [if_pos rfl] at hq
      omega
    have hq' : 0 < n d := by unfold drop1 at hq; rw [if_neg ne] at hq; exact hq
    rcases Nat.lt_or_gt_of_ne ne with l | l
    · exact ⟨(d, c), mem_draws.mpr ⟨hd, hc, by simp [canD, hp, hq', l]⟩⟩
    · exact ⟨(c, d), mem_draws.mpr ⟨hc, hd, by simp [canD, hp, hq', l]⟩⟩
def aft (t : Nat → Nat → Nat) (n : Nat → Nat) (x y : Nat) : Nat → Nat := fun c => (n c - cnt [x, y] c) + cnt [t x y] c
theorem ite_beq {x c : Nat} : (if (x == c) = true then 1 else 0) = if c = x then 1 else 0 := by
  by_cases h : c = x
  · subst h
    simp
  · simp [h, Ne.symm h]
theorem cnt2 (x y c : Nat) : cnt [x, y] c = (if c = x then 1 else 0) + (if c = y then 1 else 0) := by
  unfold cnt
  rw [List.count_cons, List.count_cons, List.count_nil, ite_beq, ite_beq]
  omega
theorem cnt1 (x c : Nat) : cnt [x] c = if c = x then 1 else 0 := by
  unfold cnt
  rw [List.count_cons, List.count_nil, ite_beq]
  omega
/-- a draw: the beans it takes and the bean it puts in -/
theorem aft_bump {t : Nat → Nat → Nat} {n : Nat → Nat} {x y : Nat} (h : canD n x y = true) : ∃ n0, n = bump (bump n0 x) y ∧ aft t n x y = bump n0 (t x y) ∧ ∀ c, cnt [x, y] c ≤ n c := by
  simp only [canD, Bool.and_eq_true, Bool.or_eq_true, decide_eq_true_eq] at h
  obtain ⟨⟨h1, h2⟩, h3⟩ := h
  refine ⟨fun c => n c - cnt [x, y] c, ?_, ?_, fun c => ?_⟩
  · funext c
    simp only [bump, cnt2]
    rcases h3 with h3 | ⟨rfl, h3⟩
    · by_cases e1 : c = x <;> by_cases e2 : c = y <;> simp_all <;> omega
    · by_cases e1 : c = x <;> simp_all <;> omega
  · funext c
    simp only [aft, bump, cnt1]
    by_cases e : c = t x y
    · rw [if_pos e, if_pos e]
    · rw [if_neg e, if_neg e]
      omega
  · rw [cnt2]
    rcases h3 with h3 | ⟨rfl, h3⟩
    · by_cases e1 : c = x <;> by_cases e2 : c = y <;> simp_all <;> omega
    · by_cases e1 : c = x <;> simp_all <;> omega
section
variable {P : Program} {w : World} {K : PySem.W.Frag} {mg : Str → Option Value} {base : Heap} {a : Ad}
theorem goes_listN {H0 : Hp} {l : Addr} {xs : List V} {j N : Nat} {σ0 : L2.St} (hx : SqL K H0 l xs) (hn : xs.length = N) : Goes (Itl K l) N (gName j) σ0 (fun i => σ0.set j (xs[i]?)) H0 := by
  subst hn
  exact goes_list hx
def sp_Jar_draws (a : Ad) : Sp := spP fun vs H R => ∃ p k n, vs = [.ref p] ∧ JarN a H p k n ∧ R = NewL PairV (drawsOf k n) H
theorem sc_Jar_draws : FnScope ["self", "colours", "a", "b"] ["self"] (defScope s_Jar_draws) := ⟨rfl, rfl, rfl, by decide +kernel, rfl, by decide +kernel, by decide +kernel⟩
theorem ok_Jar_draws (T : Txt K mg a) : Df P w K mg base 5 a.f_Jar_draws ["self"] (sp_Jar_draws a) :=
  df_mk T.d_Jar_draws sc_Jar_draws (fun _ _ _ _ _ _ us hl => match us, hl with | [_], _ => rfl)
    (by rintro vs H Q E ⟨z, ⟨p, k, n, rfl, _⟩, _⟩; rfl) (by
    rintro cdv A outer s H vs Q E hr ⟨R, ⟨p, k, n, rfl, hJ, rfl⟩, hq⟩
    have nd := sc_Jar_draws.nd
    refine ⟨_, pss_cons (ps_set (i := 1) nd rfl (Or.inr rfl) (pe_mt0 (pv 0) T.k_Jar T.h_Jar_colours (ok_Jar_colours T) (hr.mono (by decide))))
      (pss_one (ps_ret (pe_c2 (own := [("a", 2), ("b", 3)]) (vs1 := [3]) (g := gName 2) (g1 := gName 3) (tt := tYes) rfl nd (pi_lst K (pv 1))
        (blkOk_by (N := ["self", "colours", "a", "b"]) (sc := defScope s_Jar_draws) (by decide +kernel)) (by decide) (fun _ _ _ _ _ => pg_name (i := 2) nd rfl (Or.inl rfl)) (fun _ _ _ _ _ => pts_nil)
        (fun _ _ _ _ _ => pi_lst K (pv 1)) (fun _ _ _ _ _ => pg_name (i := 3) nd rfl (Or.inl rfl))
        (fun _ _ _ _ _ => pts_one (pt_val (pe_mt (pv 0) T.k_Jar T.h_Jar_can_draw (ok_Jar_can_draw T) hr (pa_cons (pe_tup (pa_cons (pv 2) (pa_cons (pv 3) pa_nil))) pa_nil))))
        (fun _ _ _ _ _ => pe_tup (pa_cons (pv 2) (pa_cons (pv 3) pa_nil)))))), ?_⟩
    refine q_asgP (evp_colours (ev_var rfl) hJ) fun v H1 e1 ⟨l, hv, nl, hl⟩ => ?_
    subst hv
    have h8 := hJ.le
    have hdl := draws_len (k := k) (n := n) h8
    have hcl := cols_len (k := k) (n := n)
    have hn : (nVs (colsOf n k)).length = (colsOf n k).length := by simp
    have hJ1 := hJ.mono e1
    obtain ⟨dx, lc, hp, hlc⟩ := hJ1.at_
    refine s_retP (P := NewOf (STup fun x : Nat × Nat => [nV x.1, nV x.2]) (drawsOf k n)) (lc_any (n := (colsOf n k).length) (b := fun _ => true) keeps_tup (wi_list (ev_var rfl) (sq_of hl)) (goes_listN (sq_of hl) hn) (fun i hi => rfl) (fun i hi => et_yes)
      (fun D i hi _ => eb_any (n := (colsOf n k).length) (b := fun j => canD n (colAt n k i) (colAt n k j)) (keeps_tup D) (wi_list (ev_var rfl) (sq_of hl)) (goes_listN (sq_of hl) hn) (fun j hj => rfl) (fun j hj => ?_)
        (fun j hj _ => eb_tup (eu_tup (ea_cons (ev_var ?_) (ea_cons (ev_var ?_) ea_nil)) (by show 2 ≤ 100000; decide)))) (by show (drawsOf k n).length < 100000; omega)) fun v H2 e2 h2 => hq v H2 (e1.trans e2) ((show NewL PairV (drawsOf k n) H1 v H2 from newof_tup h2).back e1)
    · refine et_B (fun H2 e2 Q q => ?_)
      refine ⟨_, rfl, p, dx, _, rfl, e2 _ _ hp, rfl, nV (colAt n k i), ?_, nV (colAt n k j), ?_, ?_⟩
      · show some ((nVs (colsOf n k))[i]?) = _
        rw [nVs_get (colAt_get hi)]
      · show some ((nVs (colsOf n k))[j]?) = _
        rw [nVs_get (colAt_get hj)]
      refine ⟨sz_of (by show 2 ≤ 100000; decide), fun t nt => ?_⟩
      exact use_can_draw (a := a) (hJ1.mono (e2.trans (Ex.new nt))) upd_same (colAt_ok hi).1 (colAt_ok hj).1 _ (Ex.refl _) Q (fun H3 e3 => q H3 ((Ex.new nt).trans e3)) E0
    · show some ((nVs (colsOf n k))[i]?) = _
      rw [nVs_get (colAt_get hi)]
    · show some ((nVs (colsOf n k))[j]?) = _
      rw [nVs_get (colAt_get hj)])
theorem use_draws {H : Hp} {p : Addr} {k : Nat} {n : Nat → Nat} (hJ : JarN a H p k n) : SpP (sp_Jar_draws a) [.ref p] H (NewL PairV (drawsOf k n)) := spp_use fun H1 e => ⟨p, k, n, rfl, hJ.mono e, rfl⟩
def sp_validate_beans (a : Ad) : Sp := spV fun vs H z => ∃ tb p k t n, vs = [.ref tb, .ref p] ∧ TabAt a H tb k t ∧ JarN a H p k n ∧ 0 < tot k n ∧ z = .non
theorem sc_validate_beans : FnScope ["table", "jar"] ["table", "jar"] (defScope s_validate_beans) := ⟨rfl, rfl, rfl, by decide +kernel, rfl, by decide +kernel, by decide +kernel⟩
theorem ok_validate_beans (T : Txt K mg a) : Df P w K mg base 4 a.f_validate_beans ["table", "jar"] (sp_validate_beans a) :=
  df_mk T.d_validate_beans sc_validate_beans (fun _ _ _ _ _ _ us hl => match us, hl with | [_, _], _ => rfl)
    (by rintro vs H Q E ⟨z, ⟨tb, p, k, t, n, rfl, _⟩, _⟩; rfl) (by
    rintro cdv A outer s H vs Q E hr ⟨z, ⟨tb, p, k, t, n, rfl, hT, hJ, hp, rfl⟩, hq⟩
    refine ⟨_, pss_cons (ps_expr (pe_mt (pv 1) T.k_Jar T.h_Jar_validate_size (ok_Jar_validate_size T) (hr.mono (by decide)) (pa_cons (pe_pr (pv 0) T.k_Table T.p_Table_size (ok_Table_size T) (hr.mono (by decide))) pa_nil)))
      (pss_one (ps_if (pt_not (pt_bool_ T.u_Jar_bool (ok_Jar_bool T) (hr.mono (by decide)) (pv 1))) pss_never pss_nil)), ?_⟩
    refine q_drop (v := .non) (ev_vsize (ev_var rfl) (ev_size (ev_var rfl) hT) hJ) fun H1 e1 => ?_
    have hJ1 := hJ.mono e1
    obtain ⟨dx, l, hp1, hl⟩ := hJ1.at_
    exact s_when (b := false) (et_is (et_not (et_boolOwn (ev_var rfl) hp1 (spv_use (z := .bl (decide (0 < tot k n))) fun H2 e2 => ⟨p, k, n, rfl, hJ1.mono e2, rfl⟩))) (by simp [hp])) (fun h => nomatch h) fun _ H2 e2 => hq H2 (e1.trans e2))
/-- evaluates to a jar -/
def JarE (a : Ad) (te : TE) (σ : L2.St) (H : Hp) (k : Nat) (n : Nat → Nat) : Prop := EvP te σ H (fun _ v H2 => ∃ p, v = .ref p ∧ JarN a H2 p k n)
theorem jarE_var {σ : L2.St} {H : Hp} {i : Nat} {p : Addr} {k : Nat} {n : Nat → Nat} (h : σ[i]? = some (some (.ref p))) (hJ : JarN a H p k n) : JarE a (tVar i) σ H k n := fun H1 e Q q => ⟨_, h, q _ H1 (Ex.refl H1) ⟨p, rfl, hJ.mono e⟩⟩
theorem jarE_bin {σ : L2.St} {H : Hp} {ta tb : TE} {sp : Sp} {k : Nat} {n m f : Nat → Nat} (h1 : JarE a ta σ H k n) (h2 : JarE a tb σ H k m) (hs : ∀ p q H1, JarN a H1 p k n → JarN a H1 q k m → SpP sp [.ref p, .ref q] H1 (NewJ a k f)) : JarE a (tOp (rBinOwn a.c_Jar sp) ta tb) σ H k f := fun H1 e Q q =>
  h1 H1 e _ fun v H2 e2 hv => by
    obtain ⟨p, rfl, hp⟩ := hv
    refine h2 H2 (e.trans e2) _ fun v H3 e3 hv => ?_
    obtain ⟨r, rfl, hr⟩ := hv
    have hp3 := hp.mono e3
    obtain ⟨dx, l, e1, _⟩ := hp3.at_
    obtain ⟨dy, l2, e2', _⟩ := hr.at_
    exact ⟨p, dx, _, r, dy, _, rfl, rfl, e1, e2', hs p r H3 hp3 hr H3 (Ex.refl H3) Q (fun v H4 e4 hv => q v H4 ((e2.trans e3).trans e4) (let ⟨z, h1, _, h3⟩ := hv; ⟨z, h1, h3.n⟩)) E0⟩
theorem jarF_bin {σ : L2.St} {H : Hp} {ta tb : TE} {sp : Sp} {k : Nat} {n m f : Nat → Nat} (h1 : JarE a ta σ H k n) (h2 : JarE a tb σ H k m) (hs : ∀ p q H1, JarN a H1 p k n → JarN a H1 q k m → SpP sp [.ref p, .ref q] H1 (NewJ a k f)) : EvP (tOp (rBinOwn a.c_Jar sp) ta tb) σ H (fun H1 v H2 => ∃ p, v = .ref p ∧ JarF a H1 H2 p k f) := fun H1 e Q q =>
  h1 H1 e _ fun v H2 e2 hv => by
    obtain ⟨p, rfl, hp⟩ := hv
    refine h2 H2 (e.trans e2) _ fun v H3 e3 hv => ?_
    obtain ⟨r, rfl, hr⟩ := hv
    have hp3 := hp.mono e3
    obtain ⟨dx, l, e1, _⟩ := hp3.at_
    obtain ⟨dy, l2, e2', _⟩ := hr.at_
    exact ⟨p, dx, _, r, dy, _, rfl, rfl, e1, e2', hs p r H3 hp3 hr H3 (Ex.refl H3) Q (fun v H4 e4 hv => q v H4 ((e2.trans e3).trans e4) (let ⟨z, h1, _, h3⟩ := hv; ⟨z, h1, h3.back (e2.trans e3)⟩)) E0⟩
theorem jarE_beans {σ : L2.St} {H : Hp} {ta ts tl : TE} {k : Nat} {bs : List Nat} (h0 : Ev ta σ H (.ref a.c_Jar)) (h1 : Ev ts σ H (nV k)) (h2 : EvP tl σ H fun _ v H2 => ∃ l, v = .ref l ∧ (H2 l = some (.lst (nVs bs)) ∨ H2 l = some (.tup (nVs bs)))) (hk1 : 1 ≤ k) (hk8 : k ≤ 8) (hb : ∀ b ∈ bs, b < k) :
    JarE a (ClX.tCMeth a.c_Jar (sp_Jar_of_beans a) E0 ta (tCons ts (tCons tl tNil))) σ H k (cnt bs) := fun H1 e Q q =>
  h0 H1 e _ fun H2 e2 => ⟨rfl, h1 H2 (e.trans e2) _ fun H3 e3 => h2 H3 ((e.trans e2).trans e3) _ fun v H4 e4 hv => by
    obtain ⟨l, rfl, hl⟩ := hv
    exact ⟨_, ⟨k, l, bs, rfl, hl, hk1, hk8, hb, rfl⟩, fun v H5 e5 hv => q v H5 (((e2.trans e3).trans e4).trans e5) (let ⟨z, h1, _, h3⟩ := hv; ⟨z, h1, h3.n⟩)⟩⟩
def sp_after (a : Ad) : Sp := spP fun vs H R => ∃ tb p q k t n x y, vs = [.ref tb, .ref p, .ref q] ∧ TabAt a H tb k t ∧ JarN a H p k n ∧ H q = some (.tup [nV x, nV y]) ∧ x < k ∧ y < k ∧ canD n x y = true ∧ R = fun v H' => ∃ r, v = .ref r ∧ JarF a H H' r k (aft t n x y)
theorem sc_after : FnScope ["table", "jar", "draw"] ["table", "jar", "draw"] (defScope s_after) := ⟨rfl, rfl, rfl, by decide +kernel, rfl, by decide +kernel, by decide +kernel⟩
theorem ok_after (T : Txt K mg a) : Df P w K mg base 6 a.f_after ["table", "jar", "draw"] (sp_after a) :=
  df_mk T.d_after sc_after (fun _ _ _ _ _ _ us hl => match us, hl with | [_, _, _], _ => rfl)
    (by rintro vs H Q E ⟨z, ⟨tb, p, q, k, t, n, x, y, rfl, _⟩, _⟩; rfl) (by
    rintro cdv A outer s H vs Q E hr ⟨R, ⟨tb, p, q, k, t, n, x, y, rfl, hT, hJ, ht, hx, hy, hc, rfl⟩, hq⟩
    refine ⟨_, pss_cons (ps_expr (pe_mt (pv 1) T.k_Jar T.h_Jar_validate_size (ok_Jar_validate_size T) (hr.mono (by decide)) (pa_cons (pe_pr (pv 0) T.k_Table T.p_Table_size (ok_Table_size T) (hr.mono (by decide))) pa_nil)))
      (pss_cons (ps_if (pt_not (pt_val (pe_mt (pv 1) T.k_Jar T.h_Jar_can_draw (ok_Jar_can_draw T) (hr.mono (by decide)) (pa_cons (pv 2) pa_nil)))) pss_never pss_nil)
      (pss_one (ps_ret (pe_op (op_bin_ T.u_Jar_add T.k_Jar (ok_Jar_add T) hr) (pe_op (op_bin_ T.u_Jar_sub T.k_Jar (ok_Jar_sub T) hr) (pv 1)
          (pe_cm (pe_glob (v := .ref a.c_Jar) (by rfl) T.m_Jar rfl) T.r_Jar T.q_Jar_of_beans (ok_Jar_of_beans T) hr (pa_cons (pe_pr (pv 0) T.k_Table T.p_Table_size (ok_Table_size T) (hr.mono (by decide))) (pa_cons (pv 2) pa_nil))))
        (pe_cm (pe_glob (v := .ref a.c_Jar) (by rfl) T.m_Jar rfl) T.r_Jar T.q_Jar_of_beans (ok_Jar_of_beans T) hr (pa_cons (pe_pr (pv 0) T.k_Table T.p_Table_size (ok_Table_size T) (hr.mono (by decide))) (pa_cons (pe_lst (pa_cons (pe_gt T.u_Table_getitem T.e_Table (ok_Table_getitem T) hr (pv 0) (pv 2)) pa_nil)) pa_nil))))))), ?_⟩
    refine q_drop (v := .non) (ev_vsize (ev_var rfl) (ev_size (ev_var rfl) hT) hJ) fun H1 e1 => ?_
    have hJ1 := hJ.mono e1
    obtain ⟨dx, l, hp1, hl⟩ := hJ1.at_
    refine q_when (b := false) (et_is (et_not (et_B (ev_mt (ev_var rfl) hp1 rfl (ea_cons (ev_var rfl) ea_nil) (use_can_draw hJ1 (e1 _ _ ht) hx hy)))) (by simp [hc])) (fun h => nomatch h) fun _ H2 e2 => ?_
    have hJ2 := hJ1.mono e2
    have hT2 := hT.mono (e1.trans e2)
    have ht2 := e2 _ _ (e1 _ _ ht)
    obtain ⟨dt, lt, hp2, hR⟩ := hT2.at_
    obtain ⟨n0, hn, ha, hle⟩ := aft_bump (t := t) hc
    have G := hT.good
    refine s_retP (jarF_bin (k := k) (n := fun c => n c - cnt [x, y] c) (m := cnt [t x y]) (f := aft t n x y) (jarE_bin (n := n) (m := cnt [x, y]) (jarE_var rfl hJ2) (jarE_beans ev_c (ev_size (ev_var rfl) hT2) (fun H3 e3 Q q' => ⟨_, rfl, q' _ H3 (Ex.refl H3) ⟨q, rfl, Or.inr (e3 _ _ ht2)⟩⟩) G.pos G.le ?_)
      (fun p q H1 h1 h2 => spp_use fun H2 e => ⟨p, q, k, n, cnt [x, y], rfl, h1.mono e, h2.mono e, fun c _ => hle c, rfl⟩))
      (jarE_beans ev_c (ev_size (ev_var rfl) hT2) (fun H3 e3 Q q' => ?_) G.pos G.le ?_)
      (fun p q H1 h1 h2 => spp_use fun H2 e => ⟨p, q, k, _, cnt [t x y], rfl, h1.mono e, h2.mono e, rfl⟩)) fun v H3 e3 ⟨r, h3, h4⟩ => hq v H3 ((e1.trans e2).trans e3) ⟨r, h3, h4.back (e1.trans e2)⟩
    · intro b hb
      simp at hb
      rcases hb with rfl | rfl
      · exact hx
      · exact hy
    · exact (el_lst (ea_cons (ev_getV (ev_var rfl) hp2 (ev_var rfl) (spv_use (z := nV (t x y)) fun H4 e4 => ⟨tb, q, k, t, x, y, rfl, hT2.mono e4, e4 _ _ ht2, hx, hy, rfl⟩)) ea_nil) (by show 1 ≤ 100000; decide)) H3 e3 Q fun p H4 np e4 h4 => q' _ H4 e4 ⟨p, rfl, Or.inl h4⟩
    · intro b hb
      simp at hb
      subst hb
      exact G.lt _ _ hx hy)
end
end Bj

namespace Bj
open PySem PySem.Spec
open PyProof.Rows L2 Evl
def disp (t : Nat → Nat → Nat) (i j l : Nat) : Bool := !decide (t (t i j) l = t i (t j l))
def disputes (k : Nat) (t : Nat → Nat → Nat) : List (Nat × Nat × Nat) := outs (fun _ => true) (fun i => outs (fun _ => true) (fun j => outs (fun l => disp t i j l) (fun l => [(i, j, l)]) k) k) k
def assocB (k : Nat) (t : Nat → Nat → Nat) : Bool := (disputes k t).isEmpty
theorem assocB_iff {k : Nat} {t : Nat → Nat → Nat} : assocB k t = true ↔ Assoc k t := by
  unfold assocB disputes
  rw [List.isEmpty_iff, List.eq_nil_iff_forall_not_mem]
  constructor
  · intro h i j l hi hj hl
    refine Classical.byContradiction fun hn => h (i, j, l) (mem_outs.mpr ⟨i, hi, rfl, mem_outs.mpr ⟨j, hj, rfl, mem_outs.mpr ⟨l, hl, ?_, List.mem_singleton.mpr rfl⟩⟩⟩)
    simp [disp, hn]
  · rintro h x hx
    obtain ⟨i, hi, _, h1⟩ := mem_outs.mp hx
    obtain ⟨j, hj, _, h2⟩ := mem_outs.mp h1
    obtain ⟨l, hl, h3, h4⟩ := mem_outs.mp h2
    simp [disp, h i j l hi hj hl] at h3
theorem triples_outs (k : Nat) : outs (fun _ => true) (fun i => outs (fun _ => true) (fun j => outs (fun _ => true) (fun l => [(i, j, l)]) k) k) k = triples k := by
  have h : ∀ i j : Nat, outs (fun _ => true) (fun l => [(i, j, l)]) k = (List.range k).map (fun c => (i, j, c)) := fun i j => outs_map
  simp only [h, outs_flat]
  rfl
theorem isEmpty_len {α β : Type} {l : List α} {m : List β} (h : l.length = m.length) : l.isEmpty = m.isEmpty := by
  cases l <;> cases m <;> simp at h ⊢
theorem triples_len {k : Nat} (h : k ≤ 8) : (triples k).length ≤ 512 := by
  rw [← triples_outs]
  have h1 := outs_len (b := fun _ => true) (bs := fun i => outs (fun _ => true) (fun j => outs (fun _ => true) (fun l => [(i, j, l)]) k) k) (m := 64) k (fun i _ => by
    have h2 := outs_len (b := fun _ => true) (bs := fun j => outs (fun _ => true) (fun l => [(i, j, l)]) k) (m := 8) k (fun j _ => by
      have h3 := outs_len (b := fun _ => true) (bs := fun l => [(i, j, l)]) (m := 1) k (fun l _ => Nat.le_refl _)
      omega)
    omega)
  omega
theorem disputes_len {k : Nat} {t : Nat → Nat → Nat} (h : k ≤ 8) : (disputes k t).length ≤ 512 := by
  have h1 := outs_len (b := fun _ => true) (bs := fun i => outs (fun _ => true) (fun j => outs (fun l => disp t i j l) (fun l => [(i, j, l)]) k) k) (m := 64) k (fun i _ => by
    have h2 := outs_len (b := fun _ => true) (bs := fun j => outs (fun l => disp t i j l) (fun l => [(i, j, l)]) k) (m := 8) k (fun j _ => by
      have h3 := outs_len (b := fun l => disp t i j l) (bs := fun l => [(i, j, l)]) (m := 1) k (fun l _ => Nat.le_refl _)
      omega)
    omega)
  unfold disputes
  omega
section
variable {P : Program} {w : World} {K : PySem.W.Frag} {mg : Str → Option Value} {base : Heap} {a : Ad}
theorem s_retIf {t : TT} {ta tb : TE} {D : Ends} {σ : L2.St} {H : Hp} {b : Bool} (h : EvT t σ H b) (h1 : b = true → ∀ H1, Ex H H1 → ta σ H1 D.rt) (h2 : b = false → ∀ H1, Ex H H1 → tb σ H1 D.rt) : tRet (tIf t ta tb) D σ H := h H (Ex.refl H) _ fun H1 e => by
  cases b with
  | true => exact h1 rfl H1 e
  | false => exact h2 rfl H1 e
def sp_is_disputed (a : Ad) : Sp := spV fun vs H z => ∃ tb k t x y l, vs = [.ref tb, nV x, nV y, nV l] ∧ TabAt a H tb k t ∧ x < k ∧ y < k ∧ l < k ∧ z = .bl (disp t x y l)
theorem sc_is_disputed : FnScope ["table", "a", "b", "c"] ["table", "a", "b", "c"] (defScope s_is_disputed) := ⟨rfl, rfl, rfl, by decide +kernel, rfl, by decide +kernel, by decide +kernel⟩
theorem ok_is_disputed (T : Txt K mg a) : Df P w K mg base 6 a.f_is_disputed ["table", "a", "b", "c"] (sp_is_disputed a) :=
  df_mk T.d_is_disputed sc_is_disputed (fun _ _ _ _ _ _ us hl => match us, hl with | [_, _, _, _], _ => rfl)
    (by rintro vs H Q E ⟨z, ⟨tb, k, t, x, y, l, rfl, _⟩, _⟩; rfl) (by
    rintro cdv A outer s H vs Q E hr ⟨z, ⟨tb, k, t, x, y, l, rfl, hT, hx, hy, hl, rfl⟩, hq⟩
    refine ⟨_, pss_one (ps_ret (pe_cmpR op_ne (pe_gt T.u_Table_getitem T.e_Table (ok_Table_getitem T) hr (pv 0) (pe_tup (pa_cons (pe_gt T.u_Table_getitem T.e_Table (ok_Table_getitem T) hr (pv 0) (pe_tup (pa_cons (pv 1) (pa_cons (pv 2) pa_nil)))) (pa_cons (pv 3) pa_nil))))
      (pe_gt T.u_Table_getitem T.e_Table (ok_Table_getitem T) hr (pv 0) (pe_tup (pa_cons (pv 1) (pa_cons (pe_gt T.u_Table_getitem T.e_Table (ok_Table_getitem T) hr (pv 0) (pe_tup (pa_cons (pv 2) (pa_cons (pv 3) pa_nil)))) pa_nil)))) (nomark _))), ?_⟩
    have G := hT.good
    refine s_ret (ev_is (ev_op (ev_tab (ev_var rfl) (ev_tab (ev_var rfl) (ev_var rfl) (ev_var rfl) hT hx hy) (ev_var rfl) hT (G.lt _ _ hx hy) hl) (ev_tab (ev_var rfl) (ev_var rfl) (ev_tab (ev_var rfl) (ev_var rfl) (ev_var rfl) hT hy hl) hT hx (G.lt _ _ hy hl)) (rv_ne rfl)) ?_) hq
    unfold disp
    congr 2
    simp
    omega)
theorem use_is_disputed {H : Hp} {tb : Addr} {k x y l : Nat} {t : Nat → Nat → Nat} (hT : TabAt a H tb k t) (hx : x < k) (hy : y < k) (hl : l < k) : SpV (sp_is_disputed a) [.ref tb, nV x, nV y, nV l] H (.bl (disp t x y l)) := spv_use fun H1 e => ⟨tb, k, t, x, y, l, rfl, hT.mono e, hx, hy, hl, rfl⟩
theorem rg_get {k i : Nat} (h : i < k) : (nVs (List.range k))[i]? = some (nV i) := nVs_get (List.getElem?_range h)
theorem rg_len {k : Nat} : (nVs (List.range k)).length = k := by simp
def sp_first_dispute (a : Ad) : Sp := spP fun vs H R => ∃ tb k t, vs = [.ref tb] ∧ TabAt a H tb k t ∧ R = fun v _ => decide (v = .non) = assocB k t
theorem sc_first_dispute : FnScope ["table", "colours", "found", "a", "b", "c"] ["table"] (defScope s_first_dispute) := ⟨rfl, rfl, rfl, by decide +kernel, rfl, by decide +kernel, by decide +kernel⟩
theorem ok_first_dispute (T : Txt K mg a) : Df P w K mg base 7 a.f_first_dispute ["table"] (sp_first_dispute a) :=
  df_mk T.d_first_dispute sc_first_dispute (fun _ _ _ _ _ _ us hl => match us, hl with | [_], _ => rfl)
    (by rintro vs H Q E ⟨z, ⟨tb, k, t, rfl, _⟩, _⟩; rfl) (by
    rintro cdv A outer s H vs Q E hr ⟨R, ⟨tb, k, t, rfl, hT, rfl⟩, hq⟩
    have nd := sc_first_dispute.nd
    refine ⟨_, pss_cons (ps_set (i := 1) nd rfl (Or.inr rfl) (pe_lrng T (pe_pr (pv 0) T.k_Table T.p_Table_size (ok_Table_size T) (hr.mono (by decide)))))
      (pss_cons (ps_c3 (i := 2) (own := [("a", 3), ("b", 4), ("c", 5)]) (vs1 := [4, 5]) (vs2 := [5]) (g := gName 3) (g1 := gName 4) (g2 := gName 5) (tt := tYes) (tt1 := tYes) rfl nd rfl rfl (sw_true rfl rfl rfl (by decide +kernel)) (pi_lst K (pv 1))
        (blkOk_by (N := ["table", "colours", "found", "a", "b", "c"]) (sc := defScope s_first_dispute) (by decide +kernel)) (by decide) (by decide) (fun _ _ _ _ _ => pg_name (i := 3) nd rfl (Or.inl rfl)) (fun _ _ _ _ _ => pts_nil)
        (fun _ _ _ _ _ => pi_lst K (pv 1)) (fun _ _ _ _ _ => pg_name (i := 4) nd rfl (Or.inl rfl)) (fun _ _ _ _ _ => pts_nil)
        (fun _ _ _ _ _ => pi_lst K (pv 1)) (fun _ _ _ _ _ => pg_name (i := 5) nd rfl (Or.inl rfl))
        (fun _ _ _ _ _ => pts_one (pt_val (pe_cl (ok_is_disputed T) hr T.m_is_disputed (pa_cons (pv 0) (pa_cons (pv 3) (pa_cons (pv 4) (pa_cons (pv 5) pa_nil)))))))
        (fun _ _ _ _ _ => pe_tup (pa_cons (pv 3) (pa_cons (pv 4) (pa_cons (pv 5) pa_nil)))))
      (pss_one (ps_ret (pe_ifExp (pt_truth (pv 2) (by intro _; rfl)) (pe_ixl K (pv 2) pe_int) pe_non)))), ?_⟩
    have G := hT.good
    have h8 := G.le
    refine q_asgL (el_lrng (ev_size (ev_var rfl) hT) (by omega)) fun l H1 nl e1 hl => ?_
    have hT1 := hT.mono e1
    have hdl := disputes_len (k := k) (t := t) h8
    refine q_asgP (P := NewOf (STup fun x : Nat × Nat × Nat => [nV x.1, nV x.2.1, nV x.2.2]) (disputes k t)) (lc_any (n := k) (b := fun _ => true) keeps_tup (wi_list (ev_var rfl) (sq_of hl)) (goes_listN (sq_of hl) rg_len) (fun i hi => rfl) (fun i hi => et_yes)
      (fun D i hi _ => eb_any (n := k) (b := fun _ => true) (keeps_tup D) (wi_list (ev_var rfl) (sq_of hl)) (goes_listN (sq_of hl) rg_len) (fun j hj => rfl) (fun j hj => et_yes)
        (fun j hj _ => eb_any (n := k) (b := fun m => disp t i j m) (keeps_tup D) (wi_list (ev_var rfl) (sq_of hl)) (goes_listN (sq_of hl) rg_len) (fun m hm => rfl) (fun m hm => ?_)
          (fun m hm _ => eb_tup (eu_tup (ea_cons (ev_var ?_) (ea_cons (ev_var ?_) (ea_cons (ev_var ?_) ea_nil))) (by show 3 ≤ 100000; decide))))) (by show (disputes k t).length < 100000; omega)) fun v H2 e2 h2 => ?_
    · refine et_B (ev_cl (ea_cons (ev_var rfl) (ea_cons (ev_var ?_) (ea_cons (ev_var ?_) (ea_cons (ev_var ?_) ea_nil)))) (use_is_disputed hT1 hi hj hm))
      · show some ((nVs (List.range k))[i]?) = _
        rw [rg_get hi]
      · show some ((nVs (List.range k))[j]?) = _
        rw [rg_get hj]
      · show some ((nVs (List.range k))[m]?) = _
        rw [rg_get hm]
    · show some ((nVs (List.range k))[i]?) = _
      rw [rg_get hi]
    · show some ((nVs (List.range k))[j]?) = _
      rw [rg_get hj]
    · show some ((nVs (List.range k))[m]?) = _
      rw [rg_get hm]
    · obtain ⟨f, hv, nf, ys, hys, hlen, hit⟩ := newof_tup h2
      subst hv
      have hb : (!ys.isEmpty) = !assocB k t := by
        unfold assocB
        rw [isEmpty_len hlen]
      refine s_retIf (et_tru (K := K) (te := tVar 2) (v := .ref f) (b := !assocB k t) (ev_var rfl) (fun H3 e3 => Or.inl ⟨ys, sq_of (e3 _ _ hys), hb.symm⟩)) (fun hA H3 e3 => ?_) (fun hA H3 e3 => ?_)
      · have hA' : assocB k t = false := by
          cases h : assocB k t with
          | false => rfl
          | true => rw [h] at hA; exact nomatch hA
        have hpos : 0 < (disputes k t).length := by
          unfold assocB at hA'
          cases hd : disputes k t with
          | nil => rw [hd] at hA'; exact nomatch hA'
          | cons x l => simp
        obtain ⟨y, hy, q, rfl, _⟩ := hit 0 _ (List.getElem?_eq_getElem hpos)
        exact ev_ixl (i := 0) (ev_var rfl) ev_c (e3 _ _ hys) hy H3 (Ex.refl H3) Q fun H4 e4 => hq _ H4 (((e1.trans e2).trans e3).trans e4) (by rw [hA']; rfl)
      · have hA' : assocB k t = true := by
          cases h : assocB k t with
          | true => rfl
          | false => rw [h] at hA; exact nomatch hA
        exact hq .non H3 ((e1.trans e2).trans e3) (by rw [hA']; rfl))
theorem use_first_dispute {H : Hp} {tb : Addr} {k : Nat} {t : Nat → Nat → Nat} (hT : TabAt a H tb k t) : SpP (sp_first_dispute a) [.ref tb] H (fun _ v _ => decide (v = .non) = assocB k t) := spp_use fun H1 e => ⟨tb, k, t, rfl, hT.mono e, rfl⟩
def sp_passes (a : Ad) : Sp := spV fun vs H z => ∃ tb k t, vs = [.ref tb] ∧ TabAt a H tb k t ∧ z = .bl (assocB k t)
theorem sc_passes : FnScope ["table"] ["table"] (defScope s_passes) := ⟨rfl, rfl, rfl, by decide +kernel, rfl, by decide +kernel, by decide +kernel⟩
theorem ok_passes (T : Txt K mg a) : Df P w K mg base 8 a.f_passes ["table"] (sp_passes a) :=
  df_mk T.d_passes sc_passes (fun _ _ _ _ _ _ us hl => match us, hl with | [_], _ => rfl)
    (by rintro vs H Q E ⟨z, ⟨tb, k, t, rfl, _⟩, _⟩; rfl) (by
    rintro cdv A outer s H vs Q E hr ⟨z, ⟨tb, k, t, rfl, hT, rfl⟩, hq⟩
    refine ⟨_, pss_one (ps_ret (pe_cmp (pc_isN (pe_cl (ok_first_dispute T) hr T.m_first_dispute (pa_cons (pv 0) pa_nil))))), ?_⟩
    refine evp_cl (ea_cons (ev_var rfl) ea_nil) (use_first_dispute hT) H (Ex.refl H) _ fun v H1 e1 ⟨H3, e3, h⟩ => ?_
    show Q (.bl (decide (v = .non))) H1
    rw [h]
    exact hq H1 e1)
end
end Bj

namespace Bj
open PySem PySem.Spec
open PyProof.Rows L2 Evl
section
variable {K : PySem.W.Frag} {σ : L2.St} {H H' : Hp} {t1 t2 t3 te : TE} {tA : TA} {x y : V}
/-- evaluates to something -/
abbrev EvX (te : TE) (σ : L2.St) (H : Hp) : Prop := EvP te σ H fun _ _ _ => True
abbrev EvAX (tA : TA) (σ : L2.St) (H : Hp) (n : Nat) : Prop := ∀ H1, Ex H H1 → ∀ Q : List V → Hp → Prop, (∀ vs H2, Ex H1 H2 → vs.length = n → Q vs H2) → tA σ H1 Q
theorem evx_of {v : V} (h : Ev te σ H v) : EvX te σ H := (evp_of h).imp fun _ _ _ _ _ _ => trivial
theorem eax_nil : EvAX tNil σ H 0 := fun H1 e Q q => q [] H1 (Ex.refl H1) rfl
theorem eax_cons {n : Nat} (h : EvX te σ H) (h2 : EvAX tA σ H n) : EvAX (tCons te tA) σ H (n + 1) := fun H1 e Q q => h H1 e _ fun v H2 e2 _ => h2 H2 (e.trans e2) _ fun vs H3 e3 hl => q _ H3 (e2.trans e3) (by rw [List.length_cons, hl])
theorem evx_tup {n : Nat} (h : EvAX tA σ H n) (hn : n ≤ 1000) : EvX (tTup tA) σ H := fun H1 e Q q => h H1 e _ fun vs H2 e2 hl => ⟨sz_of (by omega), fun p np => q _ _ (e2.trans (Ex.new np)) trivial⟩
theorem evx_lst {n : Nat} (h : EvAX tA σ H n) (hn : n ≤ 1000) : EvX (tLst tA) σ H := fun H1 e Q q => h H1 e _ fun vs H2 e2 hl => ⟨sz_of (by omega), fun p np => q _ _ (e2.trans (Ex.new np)) trivial⟩
theorem evp_step (h1 : Ev t1 σ H x) (h2 : Ev t2 σ H y) (h3 : EvX t3 σ H) : EvP (tTup (tCons t1 (tCons t2 (tCons t3 tNil)))) σ H (fun H1 v H2 => ∃ q w, v = .ref q ∧ H1 q = none ∧ H2 q = some (.tup [x, y, w])) := fun H1 e Q q =>
  h1 H1 e _ fun H2 e2 => h2 H2 (e.trans e2) _ fun H3 e3 => h3 H3 ((e.trans e2).trans e3) _ fun w H4 e4 _ => ⟨sz_of (by show 3 ≤ 100000; decide), fun p np => q _ _ (((e2.trans e3).trans e4).trans (Ex.new np)) ⟨p, w, rfl, fresh_back ((e2.trans e3).trans e4) np, upd_same⟩⟩
theorem s_appP {D : Ends} {l : Addr} {xs : List V} {ta : TE} {P : Hp → V → Hp → Prop} (hl : H l = some (.lst xs)) (ha : Ev ta σ H (.ref l)) (h : EvP te σ H P) (hz : xs.length < 100000) (k : ∀ v H1, Ex H H1 → (∃ H0, Ex H H0 ∧ P H0 v H1) → D.nx σ (upd H1 l (.lst (xs ++ [v])))) :
    tDrop (tBM K "list" rAppend ta (tCons te tNil)) D σ H := ha H (Ex.refl H) _ fun H1 e1 =>
  ⟨Or.inl ⟨rfl, xs, sq_of (e1 l _ hl)⟩, h H1 e1 _ fun v H2 e2 hp => ⟨l, xs, v, rfl, rfl, e2 l _ (e1 l _ hl), sz_lt hz, k v H2 (e1.trans e2) ⟨H1, e1, hp⟩⟩⟩
theorem q_par {D : Ends} {tz : TS} {i j : Nat} (h1 : Ev t1 σ H x) (h2 : Ev t2 σ H y) (k : ∀ H1, Ex H H1 → tz D ((σ.set i (some x)).set j (some y)) H1) : tSeq (tPar i j (tCons t1 (tCons t2 tNil))) tz D σ H :=
  h1 H (Ex.refl H) _ fun H1 e1 => h2 H1 e1 _ fun H2 e2 => ⟨x, y, rfl, k H2 (e1.trans e2)⟩
/-- a, b = x, y by the tuple: a cell among them -/
theorem q_two {D : Ends} {tz : TS} {i j : Nat} (h1 : Ev t1 σ H x) (h2 : Ev t2 σ H y) (k : ∀ H1, Ex H H1 → tz D ((σ.set i (some x)).set j (some y)) H1) : tSeq (tAsg (tTup (tCons t1 (tCons t2 tNil))) (gTup K 2 (gCons (gName i) (gCons (gName j) gNil)))) tz D σ H :=
  h1 H (Ex.refl H) _ fun H1 e1 => h2 H1 e1 _ fun H2 e2 => ⟨sz_of (by show 2 ≤ 100000; decide), fun p np => ⟨p, [x, y], rfl, st_of upd_same, rfl, x, _, rfl, y, _, rfl, rfl, k _ ((e1.trans e2).trans (Ex.new np))⟩⟩
theorem q_twoL {D : Ends} {tz : TS} {i j : Nat} {xs ys : List V} (h1 : EvL t1 σ H xs) (h2 : EvL t2 σ H ys) (k : ∀ p q H1, H p = none → H q = none → p ≠ q → Ex H H1 → H1 p = some (.lst xs) → H1 q = some (.lst ys) → tz D ((σ.set i (some (.ref p))).set j (some (.ref q))) H1) : tSeq (tAsg (tTup (tCons t1 (tCons t2 tNil))) (gTup K 2 (gCons (gName i) (gCons (gName j) gNil)))) tz D σ H :=
  h1 H (Ex.refl H) _ fun p H1 np e1 hp => h2 H1 e1 _ fun q H2 nq e2 hq => ⟨sz_of (by show 2 ≤ 100000; decide), fun r nr => ⟨r, [.ref p, .ref q], rfl, st_of upd_same, rfl, _, _, rfl, _, _, rfl, rfl, k p q _ np (fresh_back e1 nq) (fun e => by subst e; rw [hp] at nq; cases nq) ((e1.trans e2).trans (Ex.new nr)) ((e2.trans (Ex.new nr)) _ _ hp) ((Ex.new nr) _ _ hq)⟩⟩
theorem stepV_upd {b : Nat × Nat} {v : V} {l : Addr} {xs ys : List V} (hl : H l = some (.lst xs)) (h : StepV b v H) : StepV b v (upd H l (.lst ys)) := by
  obtain ⟨q, w, rfl, hq⟩ := h
  exact ⟨q, w, rfl, by rw [upd_ne (fun e => by subst e; rw [hl] at hq; cases hq)]; exact hq⟩
theorem all2_upd {bs : List (Nat × Nat)} {vs : List V} {l : Addr} {xs ys : List V} (hl : H l = some (.lst xs)) (h : All2 StepV H bs vs) : All2 StepV (upd H l (.lst ys)) bs vs := ⟨h.1, fun i b hb => let ⟨y, h1, h2⟩ := h.2 i b hb; ⟨y, h1, stepV_upd hl h2⟩⟩
end
theorem tests_len {k : Nat} {t : Nat → Nat → Nat} (h : k ≤ 8) : (tests k t).length ≤ 512 := by
  unfold tests
  refine Nat.le_trans (List.length_filter_le _ _) ?_
  rw [List.length_map]
  exact triples_len h
section
variable {P : Program} {w : World} {K : PySem.W.Frag} {mg : Str → Option Value} {base : Heap} {a : Ad}
def sp_test_steps (a : Ad) : Sp := spP fun vs H R => ∃ tb k t, vs = [.ref tb] ∧ TabAt a H tb k t ∧ R = NewL StepV (tests k t) H
theorem sc_test_steps : FnScope ["table", "colours", "found", "a", "b", "c", "one", "other"] ["table"] (defScope s_test_steps) := ⟨rfl, rfl, rfl, by decide +kernel, rfl, by decide +kernel, by decide +kernel⟩
theorem ok_test_steps (T : Txt K mg a) : Df P w K mg base 6 a.f_test_steps ["table"] (sp_test_steps a) :=
  df_mk T.d_test_steps sc_test_steps (fun _ _ _ _ _ _ us hl => match us, hl with | [_], _ => rfl)
    (by rintro vs H Q E ⟨z, ⟨tb, k, t, rfl, _⟩, _⟩; rfl) (by
    rintro cdv A outer s H vs Q E hr ⟨R, ⟨tb, k, t, rfl, hT, rfl⟩, hq⟩
    have nd := sc_test_steps.nd
    refine ⟨_, pss_cons (ps_asg (pe_tup (pa_cons (pe_lrng T (pe_pr (pv 0) T.k_Table T.p_Table_size (ok_Table_size T) (hr.mono (by decide)))) (pa_cons (pe_lst pa_nil) pa_nil))) (pg_tupK K rfl (pgs_cons (pg_name (i := 1) nd rfl (Or.inr rfl)) (pgs_cons (pg_name (i := 2) nd rfl (Or.inl rfl)) pgs_nil))))
      (pss_cons (ps_for PassesOwn.never rfl (pi_lst K (pe_c3 (own := [("a", 3), ("b", 4), ("c", 5)]) (vs1 := [4, 5]) (vs2 := [5]) (g := gName 3) (g1 := gName 4) (g2 := gName 5) (tt := tYes) (tt1 := tYes) (tt2 := tYes) rfl nd (pi_lst K (pv 1))
        (blkOk_by (N := ["table", "colours", "found", "a", "b", "c", "one", "other"]) (sc := defScope s_test_steps) (by decide +kernel)) (by decide) (by decide) (fun _ _ _ _ _ => pg_name (i := 3) nd rfl (Or.inl rfl)) (fun _ _ _ _ _ => pts_nil)
        (fun _ _ _ _ _ => pi_lst K (pv 1)) (fun _ _ _ _ _ => pg_name (i := 4) nd rfl (Or.inl rfl)) (fun _ _ _ _ _ => pts_nil)
        (fun _ _ _ _ _ => pi_lst K (pv 1)) (fun _ _ _ _ _ => pg_name (i := 5) nd rfl (Or.inl rfl)) (fun _ _ _ _ _ => pts_nil)
        (fun _ _ _ _ _ => pe_tup (pa_cons (pv 3) (pa_cons (pv 4) (pa_cons (pv 5) pa_nil))))))
        (pg_tupK K rfl (pgs_cons (pg_name (i := 3) nd rfl (Or.inl rfl)) (pgs_cons (pg_name (i := 4) nd rfl (Or.inl rfl)) (pgs_cons (pg_name (i := 5) nd rfl (Or.inl rfl)) pgs_nil))))
        (pss_cons (ps_par (i := 6) (j := 7) rfl nd rfl rfl (by decide) rfl rfl (pa_cons (pe_gt T.u_Table_getitem T.e_Table (ok_Table_getitem T) hr (pv 0) (pe_tup (pa_cons (pe_gt T.u_Table_getitem T.e_Table (ok_Table_getitem T) hr (pv 0) (pe_tup (pa_cons (pv 3) (pa_cons (pv 4) pa_nil)))) (pa_cons (pv 5) pa_nil))))
            (pa_cons (pe_gt T.u_Table_getitem T.e_Table (ok_Table_getitem T) hr (pv 0) (pe_tup (pa_cons (pv 3) (pa_cons (pe_gt T.u_Table_getitem T.e_Table (ok_Table_getitem T) hr (pv 0) (pe_tup (pa_cons (pv 4) (pa_cons (pv 5) pa_nil)))) pa_nil)))) pa_nil)) rfl)
          (pss_one (ps_if (pt_cmpR op_ne (pv 6) (pv 7) (nomark _)) (pss_one (ps_expr (pe_bm PySem.F.plainAttrs_list PySem.F.slot_list_append PySem.F.type_list_append mt_append (pv 2)
            (pa_cons (pe_tup (pa_cons (pv 6) (pa_cons (pv 7) (pa_cons (pe_tup (pa_cons pe_str (pa_cons (pv 3) (pa_cons (pv 4) (pa_cons (pv 5) pa_nil))))) pa_nil)))) pa_nil)))) pss_nil))))
      (pss_one (ps_ret (pv 2)))), ?_⟩
    have G := hT.good
    have h8 := G.le
    refine q_twoL (el_lrng (ev_size (ev_var rfl) hT) (by omega)) (el_lst ea_nil (by show 0 ≤ 100000; decide)) fun l f H1 nl nf nlf e1 hl hf => ?_
    have htl := triples_len h8
    refine q_forP (P := NewOf (STup fun x : Nat × Nat × Nat => [nV x.1, nV x.2.1, nV x.2.2]) (triples k)) (triples_outs k ▸ lc_any (n := k) (b := fun _ => true) keeps_tup (wi_list (ev_var rfl) (sq_of hl)) (goes_listN (sq_of hl) rg_len) (fun i hi => rfl) (fun i hi => et_yes)
      (fun D i hi _ => eb_any (n := k) (b := fun _ => true) (keeps_tup D) (wi_list (ev_var rfl) (sq_of hl)) (goes_listN (sq_of hl) rg_len) (fun j hj => rfl) (fun j hj => et_yes)
        (fun j hj _ => eb_any (n := k) (b := fun _ => true) (keeps_tup D) (wi_list (ev_var rfl) (sq_of hl)) (goes_listN (sq_of hl) rg_len) (fun m hm => rfl) (fun m hm => et_yes)
          (fun m hm _ => eb_tup (eu_tup (ea_cons (ev_var ?_) (ea_cons (ev_var ?_) (ea_cons (ev_var ?_) ea_nil))) (by show 3 ≤ 100000; decide))))) (by rw [triples_outs]; omega)) fun v H2 e2 h2 => ?_
    · show some ((nVs (List.range k))[i]?) = _
      rw [rg_get hi]
    · show some ((nVs (List.range k))[j]?) = _
      rw [rg_get hj]
    · show some ((nVs (List.range k))[m]?) = _
      rw [rg_get hm]
    obtain ⟨ls, hv, nls, ys, hys, ha⟩ := newof_tup h2
    subst hv
    have e12 := e1.trans e2
    let bs : Nat → List (Nat × Nat) := fun i => (((triples k).take i).map (testOf t)).filter apart
    have hbl : ∀ i, (bs i).length ≤ 512 := fun i => by
      refine Nat.le_trans (List.length_filter_le _ _) ?_
      rw [List.length_map, List.length_take]
      omega
    have nef : f ≠ ls := fun e => by subst e; rw [hf] at nls; cases nls
    refine q_forL ev_c (sq_of hys) (fun i σ' H' => (∃ x y z o o', σ' = [some (.ref tb), some (.ref l), some (.ref f), x, y, z, o, o']) ∧ Off f H2 H' ∧ ∃ zs, H' f = some (.lst zs) ∧ All2 StepV H' (bs i) zs)
      (fun H3 e3 => ⟨⟨none, none, none, none, none, rfl⟩, off_of e3, [], e3 _ _ (e2 _ _ hf), All2.nil⟩) (fun i σ' H' hi h => sq_of (h.2.1 _ _ nef.symm hys)) ?_ ?_
    · rintro i v σ' H' hv ⟨⟨c1, c2, c3, c4, c5, rfl⟩, of, zs, hz, hzs⟩
      obtain ⟨⟨x, y, z⟩, hb, q, rfl, hq'⟩ := ha.get hv
      have hm := mem_triples.mp (List.mem_of_getElem? hb)
      have ex : Ex H H' := Off.ex nf (e1.trans e2) of
      have hT' := hT.mono ex
      have nqf : q ≠ f := fun e => by subst e; rw [e2 _ _ hf] at hq'; cases hq'
      refine ⟨q, _, rfl, st_of (of _ _ nqf hq'), rfl, _, _, rfl, _, _, rfl, _, _, rfl, rfl, ?_⟩
      refine q_par (x := nV (t (t x y) z)) (y := nV (t x (t y z))) (ev_tab (ev_var rfl) (ev_tab (ev_var rfl) (ev_var rfl) (ev_var rfl) hT' hm.1 hm.2.1) (ev_var rfl) hT' (G.lt _ _ hm.1 hm.2.1) hm.2.2) (ev_tab (ev_var rfl) (ev_var rfl) (ev_tab (ev_var rfl) (ev_var rfl) (ev_var rfl) hT' hm.2.1 hm.2.2) hT' hm.1 (G.lt _ _ hm.2.1 hm.2.2)) fun H3 e3 => ?_
      have hs : bs (i + 1) = bs i ++ (if apart (testOf t (x, y, z)) then [testOf t (x, y, z)] else []) := by
        show ((List.take (i + 1) (triples k)).map (testOf t)).filter apart = _
        rw [List.take_add_one, hb]
        simp only [Option.toList, List.map_append, List.filter_append, List.map_cons, List.map_nil, List.filter_cons, List.filter_nil]
        rfl
      have hz3 := e3 _ _ hz
      have hzs3 := hzs.mono grows_step e3
      refine s_when (b := apart (testOf t (x, y, z))) (et_is (et_test (ev_op (ev_var rfl) (ev_var rfl) (rv_ne rfl))) ?_) (fun hb H4 e4 => ?_) (fun hb H4 e4 => ?_)
      · show (!decide (nV (t (t x y) z) = nV (t x (t y z)))) = !decide (t (t x y) z = t x (t y z))
        congr 1
        simp
        omega
      · have hlen := hbl i
        refine s_appP (e4 _ _ hz3) (ev_var rfl) (evp_step (ev_var rfl) (ev_var rfl) (evx_tup (eax_cons (evx_of ev_c) (eax_cons (evx_of (ev_var rfl)) (eax_cons (evx_of (ev_var rfl)) (eax_cons (evx_of (ev_var rfl)) eax_nil)))) (by decide))) (by rw [hzs.1]; omega) fun v H5 e5 ⟨H0, _, q5, w5, hv5, nq5, hq5⟩ => ?_
        have hz5 := e5 _ _ (e4 _ _ hz3)
        refine ⟨⟨_, _, _, _, _, rfl⟩, (of.trans (off_of ((e3.trans e4).trans e5))).trans off_upd, zs ++ [v], upd_same, ?_⟩
        rw [hs, hb]
        exact all2_upd hz5 ((hzs3.mono grows_step (e4.trans e5)).snoc ⟨q5, w5, hv5, hq5⟩)
      · refine ⟨⟨_, _, _, _, _, rfl⟩, of.trans (off_of (e3.trans e4)), zs, e4 _ _ hz3, ?_⟩
        rw [hs, hb]
        simp only [Bool.false_eq_true, if_false, List.append_nil]
        exact hzs3.mono grows_step e4
    · rintro σ' H' ⟨⟨c1, c2, c3, c4, c5, rfl⟩, of, zs, hz, hzs⟩
      have hbs : bs ys.length = tests k t := by
        show ((List.take ys.length (triples k)).map (testOf t)).filter apart = _
        rw [ha.1, List.take_length]
        rfl
      rw [hbs] at hzs
      exact s_ret (ev_var rfl) fun H3 e3 => hq _ H3 ((Off.ex nf (e1.trans e2) of).trans e3) ⟨f, rfl, nf, zs, e3 _ _ hz, hzs.mono grows_step e3⟩)
end
end Bj

namespace Bj
open PySem PySem.Spec
open PyProof.Rows L2 Evl
abbrev SStep : Addr → Nat × Nat → V → Hp → Prop := fun D b y H => ∃ q w, y = .ref q ∧ q ≠ D ∧ H q = some (.tup [nV b.1, nV b.2, w])
theorem keeps_step : ∀ D, Keeps D (SStep D) := fun _ _ _ _ _ o ⟨q, w, h1, h2, h3⟩ => ⟨q, w, h1, h2, o q _ h2 h3⟩
theorem newof_step {bs : List (Nat × Nat)} {H1 H2 : Hp} {v : V} (h : NewOf SStep bs H1 v H2) : NewL StepV bs H1 v H2 := by
  obtain ⟨D, zs, rfl, hD, hz, ha⟩ := h
  exact ⟨D, rfl, hD, zs, hz, ha.1, fun i b hb => let ⟨y, h1, q, w, h2, _, h3⟩ := ha.2 i b hb; ⟨y, h1, q, w, h2, h3⟩⟩
theorem lc_as {β : Type} {σ : L2.St} {H0 : Hp} {tt : TT} {g : TG} {wi : TI} {vs : List Nat} {S : Addr → β → V → Hp → Prop} {tb : Addr → TBd} {J : It} {n : Nat} {σs : Nat → L2.St} {b : Nat → Bool} {bs : Nat → List β} {out : List β} (ho : outs b bs n = out)
    (hK : ∀ D, Keeps D (S D)) (hwi : ∀ H1 (R : It → Hp → Prop), Ex H0 H1 → (∀ H2, Ex H1 H2 → R J H2) → wi σ H1 R) (G : Goes J n g (wipe σ vs) σs H0)
    (hw : ∀ i, i < n → wipe (σs i) vs = wipe σ vs) (ht : ∀ i, i < n → EvT tt (σs i) H0 (b i)) (hb : ∀ D i, i < n → b i = true → EvB (S D) D (tb D) (σs i) H0 (bs i)) (hl : out.length < 100000) :
    EvP (tLcB wi g tt tb vs) σ H0 (NewOf S out) := by
  subst ho
  exact lc_any hK hwi G hw ht hb hl
theorem eb_step {σ : L2.St} {H : Hp} {t1 t2 t3 : TE} {D : Addr} {b : Nat × Nat} (h1 : Ev t1 σ H (nV b.1)) (h2 : Ev t2 σ H (nV b.2)) (h3 : EvX t3 σ H) : EvB (SStep D) D (bEmit D (tTup (tCons t1 (tCons t2 (tCons t3 tNil))))) σ H [b] :=
  eb_emit (keeps_step D) fun H1 e Q q => evp_step h1 h2 h3 H1 e _ fun v H2 e2 hp => q v H2 e2 fun ⟨l, hl⟩ => by
    obtain ⟨r, w, h4, h5, h6⟩ := hp
    exact ⟨r, w, h4, fun e => (by subst e; rw [hl] at h5; cases h5), h6⟩
theorem eu_slT {K : PySem.W.Frag} {σ : L2.St} {H : Hp} {te : TE} {tl th : TO} {a : Addr} {xs : List V} {lo hi : Option Int} (h : Ev te σ H (.ref a)) (h1 : EvO tl σ H lo) (h2 : EvO th σ H hi) (hs : H a = some (.tup xs))
    (hc : ¬ (HT.sIx xs.length 0 lo = 0 ∧ HT.sIx xs.length xs.length hi = xs.length)) : EvU (tSl (rSlT K) te tl th) σ H (cutV xs lo hi) := fun H1 e Q q =>
  h H1 e _ fun H2 e2 => h1 H2 (e.trans e2) _ fun H3 e3 => h2 H3 ((e.trans e2).trans e3) _ fun H4 e4 => ⟨a, xs, rfl, st_of (((e.trans e2).trans (e3.trans e4)) _ _ hs), hc, fun p np => q p _ (fresh_back ((e2.trans e3).trans e4) np) (((e2.trans e3).trans e4).trans (Ex.new np)) upd_same⟩
section
variable {P : Program} {w : World} {K : PySem.W.Frag} {mg : Str → Option Value} {base : Heap} {a : Ad}
def sp_put_steps (a : Ad) : Sp := spP fun vs H R => ∃ tb q k t x y, vs = [.ref tb, .ref q] ∧ TabAt a H tb k t ∧ StepV (x, y) (.ref q) H ∧ x < k ∧ y < k ∧ R = NewL StepV (puts k t (x, y)) H
theorem sc_put_steps : FnScope ["table", "step", "one", "other", "steps", "c", "found"] ["table", "step"] (defScope s_put_steps) := ⟨rfl, rfl, rfl, by decide +kernel, rfl, by decide +kernel, by decide +kernel⟩
theorem ok_put_steps (T : Txt K mg a) : Df P w K mg base 6 a.f_put_steps ["table", "step"] (sp_put_steps a) :=
  df_mk T.d_put_steps sc_put_steps (fun _ _ _ _ _ _ us hl => match us, hl with | [_, _], _ => rfl)
    (by rintro vs H Q E ⟨z, ⟨tb, q, k, t, x, y, rfl, _⟩, _⟩; rfl) (by
    rintro cdv A outer s H vs Q E hr ⟨R, ⟨tb, q, k, t, x, y, rfl, hT, hS, hx, hy, rfl⟩, hq⟩
    have nd := sc_put_steps.nd
    refine ⟨_, pss_cons (ps_asg (pe_slice sl_tup (pv 1) po_none (po_some pe_int)) (pg_tupK K rfl (pgs_cons (pg_name (i := 2) nd rfl (Or.inr rfl)) (pgs_cons (pg_name (i := 3) nd rfl (Or.inr rfl)) pgs_nil))))
      (pss_cons (ps_c1 (i := 4) (own := [("c", 5)]) (g := gName 5) (tt := tYes) rfl nd rfl rfl (sw_true rfl rfl rfl (by decide +kernel)) (pi_rng T (pe_pr (pv 0) T.k_Table T.p_Table_size (ok_Table_size T) (hr.mono (by decide))))
        (blkOk_by (N := ["table", "step", "one", "other", "steps", "c", "found"]) (sc := defScope s_put_steps) (by decide +kernel)) (fun _ _ _ _ _ => pg_name (i := 5) nd rfl (Or.inl rfl)) (fun _ _ _ _ _ => pts_nil)
        (fun _ _ _ _ _ => pe_tup (pa_cons (pe_gt T.u_Table_getitem T.e_Table (ok_Table_getitem T) hr (pv 0) (pe_tup (pa_cons (pv 2) (pa_cons (pv 5) pa_nil)))) (pa_cons (pe_gt T.u_Table_getitem T.e_Table (ok_Table_getitem T) hr (pv 0) (pe_tup (pa_cons (pv 3) (pa_cons (pv 5) pa_nil))))
          (pa_cons (pe_tup (pa_cons pe_str (pa_cons (pv 5) (pa_cons (pv 2) (pa_cons (pv 3) (pa_cons (pe_lst (pa_cons (pv 1) pa_nil)) pa_nil)))))) pa_nil)))))
      (pss_one (ps_ret (pe_c1 (own := [("found", 6)]) (g := gName 6) rfl nd (pi_lst K (pv 4))
        (blkOk_by (N := ["table", "step", "one", "other", "steps", "c", "found"]) (sc := defScope s_put_steps) (by decide +kernel)) (fun _ _ _ _ _ => pg_name (i := 6) nd rfl (Or.inl rfl))
        (fun _ _ _ _ _ => pts_one (pt_cmpR op_ne (pe_ixt K (pv 6) pe_int) (pe_ixt K (pv 6) pe_int) (nomark _))) (fun _ _ _ _ _ => pv 6))))), ?_⟩
    have G := hT.good
    have h8 := G.le
    obtain ⟨q', w', hqq, ht⟩ := hS
    obtain rfl : q = q' := V.ref.inj hqq
    refine eu_slT (lo := none) (hi := some 2) (ev_var rfl) eo_none (eo_some ev_c) ht (by show ¬ (HT.sIx 3 0 none = 0 ∧ HT.sIx 3 3 (some 2) = 3); decide) H (Ex.refl H) _ fun r H1 nr e1 hr' => ⟨r, [nV x, nV y], rfl, st_of hr', rfl, _, _, rfl, _, _, rfl, rfl, ?_⟩
    have hT1 := hT.mono e1
    let bi : Nat → Nat × Nat := fun c => (t x c, t y c)
    have ho : outs (fun _ => true) (fun i => [bi i]) k = (List.range k).map bi := outs_map
    refine q_asgP (P := NewOf SStep ((List.range k).map bi)) (lc_as ho (n := k) (S := SStep) (b := fun _ => true) (bs := fun i => [bi i]) keeps_step (wi_range (ea_cons (ev_size (ev_var rfl) hT1) ea_nil) (by omega)) goes_range (fun i hi => rfl) (fun i hi => et_yes)
      (fun D i hi _ => eb_step (ev_tab (ev_var rfl) (ev_var rfl) (ev_var rfl) hT1 hx hi) (ev_tab (ev_var rfl) (ev_var rfl) (ev_var rfl) hT1 hy hi)
        (evx_tup (eax_cons (evx_of ev_c) (eax_cons (evx_of (ev_var rfl)) (eax_cons (evx_of (ev_var rfl)) (eax_cons (evx_of (ev_var rfl)) (eax_cons (evx_lst (eax_cons (evx_of (ev_var rfl)) eax_nil) (by decide)) eax_nil))))) (by decide))) (by rw [List.length_map, List.length_range]; omega)) fun v H2 e2 h2 => ?_
    obtain ⟨ls, hv, nls, ys, hys, ha⟩ := newof_step h2
    subst hv
    have hlen : ys.length = k := by rw [ha.1, List.length_map, List.length_range]
    have hfin : outs (fun i => apart (bi i)) (fun i => [bi i]) k = puts k t (x, y) := by
      rw [outs_filter]
      unfold puts
      rw [List.filter_map]
      rfl
    have hpl := puts_len k t (x, y)
    have hget : ∀ i, i < k → ∃ q w, ys[i]? = some (.ref q) ∧ H2 q = some (.tup [nV (bi i).1, nV (bi i).2, w]) := fun i hi => by
      obtain ⟨y', h1, q, w, rfl, h3⟩ := ha.2 i (bi i) (by rw [List.getElem?_map, List.getElem?_range hi]; rfl)
      exact ⟨q, w, h1, h3⟩
    refine s_retP (P := NewOf SStep (puts k t (x, y))) (lc_as hfin (n := k) (S := SStep) (b := fun i => apart (bi i)) (bs := fun i => [bi i]) keeps_step (wi_list (ev_var rfl) (sq_of hys)) (goes_listN (sq_of hys) hlen) (fun i hi => rfl) (fun i hi => ?_)
      (fun D i hi _ => ?_) (by omega)) fun v H3 e3 h3 => hq v H3 ((e1.trans e2).trans e3) ((newof_step h3).back (e1.trans e2))
    · obtain ⟨q2, w2, hg, h2'⟩ := hget i hi
      have hv : ∀ σ0 : L2.St, σ0 = [some (.ref tb), some (.ref q), some (nV x), some (nV y), some (.ref ls), none, ys[i]?] → Ev (tVar 6) σ0 H2 (.ref q2) := fun σ0 e => ev_var (by rw [e]; show some (ys[i]?) = _; rw [hg])
      refine et_is (et_test (ev_op (ev_ixt (i := 0) (hv _ rfl) ev_c h2' rfl) (ev_ixt (i := 1) (hv _ rfl) ev_c h2' rfl) (rv_ne rfl))) ?_
      show (!decide (nV (bi i).1 = nV (bi i).2)) = !decide ((bi i).1 = (bi i).2)
      congr 1
      simp
      omega
    · obtain ⟨q2, w2, hg, h2'⟩ := hget i hi
      refine eb_emit (keeps_step D) ((evp_of (v := .ref q2) (ev_var (i := 6) ?_)).imp fun H4 v H5 e4 e5 hv ⟨l, hl⟩ => ?_)
      · show some (ys[i]?) = _
        rw [hg]
      · subst hv
        exact ⟨q2, w2, rfl, fun e => (by have := e4 _ _ h2'; rw [e, hl] at this; cases this), (e4.trans e5) _ _ h2'⟩)
theorem use_put_steps {H : Hp} {tb q : Addr} {k x y : Nat} {t : Nat → Nat → Nat} (hT : TabAt a H tb k t) (hS : StepV (x, y) (.ref q) H) (hx : x < k) (hy : y < k) : SpP (sp_put_steps a) [.ref tb, .ref q] H (NewL StepV (puts k t (x, y))) :=
  spp_use fun H1 e => ⟨tb, q, k, t, x, y, rfl, hT.mono e, grows_step _ _ _ _ e hS, hx, hy, rfl⟩
theorem use_test_steps {H : Hp} {tb : Addr} {k : Nat} {t : Nat → Nat → Nat} (hT : TabAt a H tb k t) : SpP (sp_test_steps a) [.ref tb] H (NewL StepV (tests k t)) := spp_use fun H1 e => ⟨tb, k, t, rfl, hT.mono e, rfl⟩
end
end Bj

namespace Bj
open PySem PySem.Spec
open PyProof.Rows L2 Evl
abbrev forO (a : Ad) (dx : Addr) (vt : V) (s l : Addr) : HO := .ins a.c_Forest dx [("own_table", vt), ("own_steps", .ref s), ("own_names", .ref l)]
theorem nm_get {nm : List Nat} {x : Nat} (h : x < nm.length) : (nVs nm)[x]? = some (nV (nmAt nm x)) := nVs_get (by
  unfold nmAt
  rw [List.getD_eq_getElem?_getD, List.getElem?_eq_getElem h]
  rfl)
theorem q_fldP {K : PySem.W.Frag} {σ : L2.St} {H : Hp} {te : TE} {D : Ends} {tz : TS} {R : Hp → V → Hp → Prop} {j : Nat} {C p dx : Addr} {fs : List (Str × V)} {f : Str} (c : ClsAt K C) (n : NoAttr K C f) (h : EvP te σ H R) (ho : σ[j]? = some (some (.ref p))) (hp : H p = some (.ins C dx fs)) (hl : fs.length < 1000)
    (k : ∀ v H1, Ex H H1 → R H v H1 → tz D σ (upd H1 p (.ins C dx (putF f v fs)))) : tSeq (sFld K (tVar j) te f) tz D σ H := h H (Ex.refl H) _ fun v H1 e hv => ⟨_, ho, p, C, dx, fs, rfl, e _ _ hp, c.cl, n, hl, k v H1 e hv⟩
theorem evp_ofL {σ : L2.St} {H : Hp} {te : TE} {xs : List V} (h : EvL te σ H xs) : EvP te σ H (fun H1 v H2 => ∃ p, v = .ref p ∧ H1 p = none ∧ H2 p = some (.lst xs)) := fun H1 e Q q => h H1 e _ fun p H2 np e2 h2 => q _ H2 e2 ⟨p, rfl, np, h2⟩
theorem go_eq {k : Nat} {t : Nat → Nat → Nat} {n : Nat} {nm : List Nat} {p : Nat × Nat} {w : List (Nat × Nat)} (h : nmAt nm p.1 = nmAt nm p.2) : go k t (n + 1) nm (p :: w) = go k t n nm w := by
  show (if nmAt nm p.1 = nmAt nm p.2 then go k t n nm w else go k t n (merge nm (nmAt nm p.1) (nmAt nm p.2)) (w ++ puts k t p)) = _
  rw [if_pos h]
theorem go_ne {k : Nat} {t : Nat → Nat → Nat} {n : Nat} {nm : List Nat} {p : Nat × Nat} {w : List (Nat × Nat)} (h : nmAt nm p.1 ≠ nmAt nm p.2) : go k t (n + 1) nm (p :: w) = go k t n (merge nm (nmAt nm p.1) (nmAt nm p.2)) (w ++ puts k t p) := by
  show (if nmAt nm p.1 = nmAt nm p.2 then go k t n nm w else go k t n (merge nm (nmAt nm p.1) (nmAt nm p.2)) (w ++ puts k t p)) = _
  rw [if_neg h]
section
variable {P : Program} {w : World} {K : PySem.W.Frag} {mg : Str → Option Value} {base : Heap} {a : Ad}
def sp_join (a : Ad) : Sp := fun vs H Q _ => ∃ p q dx vt s l ss nm x y, vs = [.ref p, .ref q] ∧ H p = some (forO a dx vt s l) ∧ H s = some (.lst ss) ∧ ss.length < 10000 ∧ H l = some (.lst (nVs nm)) ∧ nm.length ≤ 8 ∧ StepV (x, y) (.ref q) H ∧ x < nm.length ∧ y < nm.length ∧
  (nmAt nm x = nmAt nm y → ∀ H', Ex H H' → Q (.bl false) H') ∧
  (nmAt nm x ≠ nmAt nm y → ∀ H' l', (∀ b o, b ≠ p → b ≠ s → H b = some o → H' b = some o) → H l' = none → H' p = some (forO a dx vt s l') → H' l' = some (.lst (nVs (merge nm (nmAt nm x) (nmAt nm y)))) → H' s = some (.lst (ss ++ [.ref q])) → Q (.bl true) H')
theorem sc_Forest_join : FnScope ["self", "step", "one", "other", "name"] ["self", "step"] (defScope s_Forest_join) := ⟨rfl, rfl, rfl, by decide +kernel, rfl, by decide +kernel, by decide +kernel⟩
theorem ok_join (T : Txt K mg a) : Df P w K mg base 1 a.f_Forest_join ["self", "step"] (sp_join a) :=
  df_mk T.d_Forest_join sc_Forest_join (fun _ _ _ _ _ _ us hl => match us, hl with | [_, _], _ => rfl)
    (by rintro vs H Q E ⟨p, q, dx, vt, s, l, ss, nm, x, y, rfl, _⟩; rfl) (by
    rintro cdv A outer sh H vs Q E hr ⟨p, q, dx, vt, s, l, ss, nm, x, y, rfl, hp, hs, hss, hl, h8, hS, hx, hy, q1, q2⟩
    have nd := sc_Forest_join.nd
    refine ⟨_, pss_cons (ps_asg (pe_tup (pa_cons (pe_ixl K (pe_fld (pv 0) rfl) (pe_ixt K (pv 1) pe_int)) (pa_cons (pe_ixl K (pe_fld (pv 0) rfl) (pe_ixt K (pv 1) pe_int)) pa_nil)))
        (pg_tupK K rfl (pgs_cons (pg_name (i := 2) nd rfl (Or.inr rfl)) (pgs_cons (pg_name (i := 3) nd rfl (Or.inr rfl)) pgs_nil))))
      (pss_cons (ps_if (pt_cmpR op_eq (pv 2) (pv 3) (nomark _)) (pss_one (ps_ret pe_bl)) pss_nil)
      (pss_cons (ps_fld (pv 0) (pe_c1 (own := [("name", 4)]) (g := gName 4) (tt := tYes) rfl nd (pi_lst K (pe_fld (pv 0) rfl))
        (blkOk_by (N := ["self", "step", "one", "other", "name"]) (sc := defScope s_Forest_join) (by decide +kernel)) (fun _ _ _ _ _ => pg_name (i := 4) nd rfl (Or.inl rfl)) (fun _ _ _ _ _ => pts_nil)
        (fun _ _ _ _ _ => pe_ifExp (pt_cmpR (op_inK K) (pv 4) (pe_tup (pa_cons (pv 2) (pa_cons (pv 3) pa_nil))) rfl) (pe_min2 T (pv 2) (pv 3)) (pv 4))) rfl)
      (pss_cons (ps_expr (pe_bm PySem.F.plainAttrs_list PySem.F.slot_list_append PySem.F.type_list_append mt_append (pe_fld (pv 0) rfl) (pa_cons (pv 1) pa_nil)))
      (pss_one (ps_ret pe_bl))))), ?_⟩
    obtain ⟨q', w', hqq, ht⟩ := hS
    obtain rfl : q = q' := V.ref.inj hqq
    have fl : ∀ (σ : L2.St) H1, Ex H H1 → σ[0]? = some (some (.ref p)) → Ev (tFld K (tVar 0) "own_names") σ H1 (.ref l) := fun σ H1 e h => ev_fld (ev_var h) (e _ _ hp) T.k_Forest T.n_own_names rfl
    refine q_two (x := nV (nmAt nm x)) (y := nV (nmAt nm y)) (ev_ixl (fl _ H (Ex.refl H) rfl) (ev_ixt (i := 0) (ev_var rfl) ev_c ht rfl) hl (nm_get hx)) (ev_ixl (fl _ H (Ex.refl H) rfl) (ev_ixt (i := 1) (ev_var rfl) ev_c ht rfl) hl (nm_get hy)) fun H1 e1 => ?_
    refine q_when (b := decide (nmAt nm x = nmAt nm y)) (et_is (et_test (ev_op (ev_var rfl) (ev_var rfl) (rv_eq rfl))) ?_) (fun hb H2 e2 => s_ret ev_c fun H3 e3 => q1 (of_decide_eq_true hb) H3 ((e1.trans e2).trans e3)) (fun hb H2 e2 => ?_)
    · simp
      omega
    have ne := of_decide_eq_false hb
    have e12 := e1.trans e2
    have hl2 := e12 _ _ hl
    let f : Nat → Nat := fun z => if z = nmAt nm x ∨ z = nmAt nm y then min (nmAt nm x) (nmAt nm y) else z
    have hlen : (nVs nm).length = nm.length := by simp
    have ho : outs (fun _ => true) (fun i => [f (nmAt nm i)]) nm.length = merge nm (nmAt nm x) (nmAt nm y) := by
      rw [outs_map]
      refine List.ext_getElem? fun i => ?_
      unfold merge
      rw [List.getElem?_map, List.getElem?_map]
      rcases Nat.lt_or_ge i nm.length with h | h
      · rw [List.getElem?_range h, List.getElem?_eq_getElem h]
        show some (f (nmAt nm i)) = some _
        unfold nmAt
        rw [List.getD_eq_getElem?_getD, List.getElem?_eq_getElem h]
        rfl
      · rw [List.getElem?_eq_none (by simpa using h), List.getElem?_eq_none h]
        rfl
    have hp2 := e12 _ _ hp
    refine q_fldP (R := NewOf (SFlat nV) (merge nm (nmAt nm x) (nmAt nm y))) (p := p) T.k_Forest T.n_own_names (lc_as ho (n := nm.length) (S := SFlat nV) (b := fun _ => true) (bs := fun i => [f (nmAt nm i)]) keeps_flat (wi_list (fl _ H2 e12 rfl) (sq_of hl2)) (goes_listN (sq_of hl2) hlen) (fun i hi => rfl) (fun i hi => et_yes) (fun D i hi _ => eb_flat ?_) ?_) rfl hp2 (by show 3 < 1000; decide) fun v H3 e3 h3 => ?_
    · have hv : ∀ σ0 : L2.St, σ0 = [some (.ref p), some (.ref q), some (nV (nmAt nm x)), some (nV (nmAt nm y)), (nVs nm)[i]?] → Ev (tVar 4) σ0 H2 (nV (nmAt nm i)) := fun σ0 e => ev_var (by rw [e]; show some ((nVs nm)[i]?) = _; rw [nm_get hi])
      refine ev_if (b := decide (nmAt nm i = nmAt nm x ∨ nmAt nm i = nmAt nm y)) (et_is (et_test (ev_inU (hv _ rfl) (eu_tup (ea_cons (ev_var rfl) (ea_cons (ev_var rfl) ea_nil)) (by show 2 ≤ 100000; decide)) rfl rfl)) ?_) (fun hb => ?_) (fun hb => ?_)
      · simp only [inV, List.any_cons, List.any_nil, eqV, Bool.or_false]
        rw [Bool.eq_iff_iff]
        simp only [Bool.or_eq_true, beq_iff_eq, decide_eq_true_eq]
        omega
      · refine ev_is (ev_min2 (ev_var rfl) (ev_var rfl)) ?_
        have := of_decide_eq_true hb
        show V.int _ = V.int _
        simp only [f, if_pos this]
        congr 1
        rw [Nat.min_def]
        split <;> split <;> omega
      · refine ev_is (hv _ rfl) ?_
        have := of_decide_eq_false hb
        simp only [f, if_neg this]
    · unfold merge
      rw [List.length_map]
      omega
    · obtain ⟨l', hv, nl, hl'⟩ := newof_flat h3
      subst hv
      have hp3 := (e12.trans e3) _ _ hp
      have nsp : s ≠ p := fun e => by subst e; rw [hp] at hs; cases hs
      have hs3 := (e12.trans e3) _ _ hs
      have npl : l' ≠ p := fun e => by subst e; rw [e12 _ _ hp] at nl; cases nl
      have nsl : l' ≠ s := fun e => by subst e; rw [e12 _ _ hs] at nl; cases nl
      refine q_app (xs := ss) (l := s) (by rw [upd_ne nsp]; exact hs3) (ev_fld (ev_var rfl) upd_same T.k_Forest T.n_own_steps rfl) (ev_var (v := .ref q) rfl) (by omega) fun H4 e4 => ?_
      refine s_ret ev_c fun H5 e5 => ?_
      have g4 : ∀ b o, b ≠ p → b ≠ s → H b = some o → H5 b = some o := fun b o n1 n2 h => e5 _ _ (by rw [upd_ne n2]; exact e4 _ _ (by rw [upd_ne n1]; exact (e12.trans e3) _ _ h))
      exact q2 ne H5 l' g4 (fresh_back e12 nl) (e5 _ _ (by rw [upd_ne nsp.symm]; exact e4 _ _ upd_same)) (e5 _ _ (by rw [upd_ne nsl]; exact e4 _ _ (by rw [upd_ne npl]; exact hl'))) (e5 _ _ upd_same))
def sp_Forest_init (a : Ad) : Sp := fun vs H Q _ => ∃ p tb dx k t, vs = [.ref p, .ref tb] ∧ H p = some (.ins a.c_Forest dx []) ∧ TabAt a H tb k t ∧
  ∀ H' s l, Off p H H' → H' p = some (forO a dx (.ref tb) s l) → H' l = some (.lst (nVs (names k t))) → Q .non H'
theorem sc_Forest_init : FnScope ["self", "table", "waiting", "step"] ["self", "table"] (defScope s_Forest_init) := ⟨rfl, rfl, rfl, by decide +kernel, rfl, by decide +kernel, by decide +kernel⟩
theorem fuel_le {k : Nat} {t : Nat → Nat → Nat} (h : k ≤ 8) : fuel0 k t ≤ 600 := by
  unfold fuel0 mu
  have h1 := tests_len (k := k) (t := t) h
  have h2 : used k (List.range k) ≤ k := by
    unfold used
    have := List.length_filter_le (fun v => decide (v ∈ List.range k)) (List.range k)
    rw [List.length_range] at this
    exact this
  have h3 : (k + 1) * used k (List.range k) ≤ 9 * 8 := Nat.mul_le_mul (by omega) (by omega)
  omega
theorem off_tab {H H' : Hp} {p tb dx : Addr} {fs : List (Str × V)} {k : Nat} {t : Nat → Nat → Nat} (hp : H p = some (.ins a.c_Forest dx fs)) (hT : TabAt a H tb k t) (ne : tb ≠ p) (of : Off p H H') : TabAt a H' tb k t := by
  obtain ⟨d, l, h1, hR⟩ := hT.at_
  exact ⟨hT.good, d, l, of _ _ ne h1, rows_off hp (fun xs e => nomatch e) hR of⟩
theorem ok_Forest_init (T : Txt K mg a) : Df P w K mg base 7 a.f_Forest_init ["self", "table"] (sp_Forest_init a) :=
  df_mk T.d_Forest_init sc_Forest_init (fun _ _ _ _ _ _ us hl => match us, hl with | [_, _], _ => rfl)
    (by rintro vs H Q E ⟨p, tb, dx, k, t, rfl, _⟩; rfl) (by
    rintro cdv A outer sh H vs Q E hr ⟨p, tb, dx, k, t, rfl, hp, hT, hq⟩
    have nd := sc_Forest_init.nd
    refine ⟨_, pss_cons (ps_fld (pv 0) (pv 1) rfl) (pss_cons (ps_fld (pv 0) (pe_lst pa_nil) rfl) (pss_cons (ps_fld (pv 0) (pe_lrng T (pe_pr (pv 1) T.k_Table T.p_Table_size (ok_Table_size T) (hr.mono (by decide)))) rfl)
      (pss_cons (ps_set (i := 2) nd rfl (Or.inl rfl) (pe_cl (ok_test_steps T) hr T.m_test_steps (pa_cons (pv 1) pa_nil)))
      (pss_one (ps_while PassesOwn.never (pt_truth (pv 2) (by intro _; rfl)) (pss_cons (ps_set (i := 3) nd rfl (Or.inl rfl) (pe_bm PySem.F.plainAttrs_list PySem.F.slot_list_pop PySem.F.type_list_pop mt_popAt (pv 2) (pa_cons pe_int pa_nil)))
        (pss_one (ps_if (pt_val (pe_mt (pv 0) T.k_Forest T.h_Forest_join (ok_join T) (hr.mono (by decide)) (pa_cons (pv 3) pa_nil)))
          (pss_one (ps_expr (pe_bm PySem.F.plainAttrs_list PySem.F.slot_list_extend PySem.F.type_list_extend mt_extend (pv 2) (pa_cons (pe_cl (ok_put_steps T) hr T.m_put_steps (pa_cons (pv 1) (pa_cons (pv 3) pa_nil))) pa_nil)))) pss_nil)))))))), ?_⟩
    have G := hT.good
    have h8 := G.le
    have ntp : tb ≠ p := fun e => by
      obtain ⟨d, l, h1, _⟩ := hT.at_
      subst e
      rw [hp] at h1
      injection h1 with h1
      injection h1 with _ _ h1
      exact nomatch h1
    refine ⟨_, rfl, _, rfl, p, a.c_Forest, dx, [], rfl, hp, T.k_Forest.cl, T.n_own_table, by show 0 < 1000; decide, ?_⟩
    refine ⟨by show 0 ≤ sizeLine; exact Nat.zero_le _, fun s ns => ⟨_, rfl, p, a.c_Forest, dx, [("own_table", .ref tb)], rfl, ?_, T.k_Forest.cl, T.n_own_steps, by show 1 < 1000; decide, ?_⟩⟩
    · rw [upd_ne (ne_of_none upd_same ns)]
      exact upd_same
    have nsp : s ≠ p := (ne_of_none (H := upd H p (.ins a.c_Forest dx (putF "own_table" (.ref tb) []))) upd_same ns).symm
    have nsH : H s = none := by rw [upd_ne nsp] at ns; exact ns
    generalize hH2 : upd (upd (upd H p (.ins a.c_Forest dx (putF "own_table" (.ref tb) []))) s (.lst [])) p (.ins a.c_Forest dx (putF "own_steps" (.ref s) [("own_table", .ref tb)])) = H2
    have of2 : Off p H H2 := fun b o n h => by
      rw [← hH2, upd_ne n, upd_ne (ne_of_none h nsH), upd_ne n]
      exact h
    have hp2 : H2 p = some (.ins a.c_Forest dx [("own_table", .ref tb), ("own_steps", .ref s)]) := by rw [← hH2]; exact upd_same
    have hs2 : H2 s = some (.lst []) := by rw [← hH2, upd_ne nsp]; exact upd_same
    have hT2 : TabAt a H2 tb k t := off_tab hp hT ntp of2
    refine q_fldP (p := p) T.k_Forest T.n_own_names (evp_ofL (el_lrng (ev_size (ev_var rfl) hT2) (by omega))) rfl hp2 (by show 2 < 1000; decide) fun v H3 e3 ⟨l, hv, nl, hl⟩ => ?_
    subst hv
    have nlp : l ≠ p := fun e => by subst e; rw [hp2] at nl; cases nl
    have nls : l ≠ s := fun e => by subst e; rw [hs2] at nl; cases nl
    have of3 : Off p H (upd H3 p (forO a dx (.ref tb) s l)) := (of2.trans (off_of e3)).trans off_upd
    have hT3 : TabAt a (upd H3 p (forO a dx (.ref tb) s l)) tb k t := off_tab hp hT ntp of3
    refine q_asgP (evp_cl (ea_cons (ev_var rfl) ea_nil) (use_test_steps hT3)) fun v H4 e4 ⟨H0, e0, wt, hv, nw, hw⟩ => ?_
    subst hv
    obtain ⟨zs, hz, hzs⟩ := hw
    have hp4 := e4 _ _ (show upd H3 p (forO a dx (.ref tb) s l) p = some (forO a dx (.ref tb) s l) from upd_same)
    have hs4 : H4 s = some (.lst []) := e4 _ _ (by rw [upd_ne nsp]; exact e3 _ _ hs2)
    have hl4 : H4 l = some (.lst (nVs (List.range k))) := e4 _ _ (by rw [upd_ne nlp]; exact hl)
    have nwp : wt ≠ p := fun e => by subst e; rw [e0 _ _ upd_same] at nw; cases nw
    have nws : wt ≠ s := fun e => by subst e; rw [e0 _ _ (by rw [upd_ne nsp]; exact e3 _ _ hs2)] at nw; cases nw
    have nwl : wt ≠ l := fun e => by subst e; rw [e0 _ _ (by rw [upd_ne nlp]; exact hl)] at nw; cases nw
    have nwH : H wt = none := by
      cases h : H wt with
      | none => rfl
      | some o => rw [e0 _ _ (of3 _ _ nwp h)] at nw; cases nw
    refine s_while (W := fun m σ' H' => ∃ nm ws ss l u zs, σ' = [some (.ref p), some (.ref tb), some (.ref wt), u] ∧ Off p H H' ∧ H' p = some (forO a dx (.ref tb) s l) ∧ H' s = some (.lst ss) ∧ ss.length + m ≤ 600 ∧ H' l = some (.lst (nVs nm)) ∧ H' wt = some (.lst zs) ∧ All2 StepV H' ws zs ∧ l ≠ s ∧ wt ≠ l ∧ go k t m nm ws = names k t ∧ FInv k t nm ws ∧ mu k nm ws ≤ m)
      (fuel0 k t) ⟨List.range k, tests k t, [], l, none, zs, rfl, of3.trans (off_of e4), hp4, hs4, by have := fuel_le (k := k) (t := t) h8; simpa using this, hl4, hz, hzs, nls, nwl, rfl, FInv.start G, Nat.le_refl _⟩ ?_
    rintro m σ' H' ⟨nm, ws, ss, l, u, zs, rfl, of, hp', hs', hsl, hl', hz', hzs', nls', nwl', hgo, I, hmu⟩
    refine ⟨!zs.isEmpty, et_tru (v := .ref wt) (ev_var rfl) (fun H1 e => Or.inl ⟨zs, sq_of (e _ _ hz'), rfl⟩), fun hb H1 e1 => ?_, fun hb H1 e1 => ?_⟩
    · -- a step waits
      cases zs with
      | nil => exact nomatch hb
      | cons z zs =>
      cases ws with
      | nil => exact nomatch hzs'.1
      | cons pr ws =>
      obtain ⟨y0, hy0, q, wq, hzq, hq'⟩ := hzs'.2 0 pr rfl
      have hy0' : z = y0 := Option.some.inj hy0
      rw [← hy0'] at hzq
      subst hzq
      have hm1 : 1 ≤ m := by unfold mu at hmu; rw [List.length_cons] at hmu; omega
      obtain ⟨n, rfl⟩ : ∃ n, m = n + 1 := ⟨m - 1, by omega⟩
      obtain ⟨hx, hy⟩ := I.wlt pr List.mem_cons_self
      refine ⟨fun σ2 H2 => ∃ nm ws ss l u zs, σ2 = [some (.ref p), some (.ref tb), some (.ref wt), u] ∧ Off p H H2 ∧ H2 p = some (forO a dx (.ref tb) s l) ∧ H2 s = some (.lst ss) ∧ ss.length + n ≤ 600 ∧ H2 l = some (.lst (nVs nm)) ∧ H2 wt = some (.lst zs) ∧ All2 StepV H2 ws zs ∧ l ≠ s ∧ wt ≠ l ∧ go k t n nm ws = names k t ∧ FInv k t nm ws ∧ mu k nm ws ≤ n, fun σ2 H2 h => ⟨n, by omega, h⟩, ?_⟩
      have hz1 := e1 _ _ hz'
      have hzs1 : All2 StepV H1 ws zs := ⟨Nat.succ.inj hzs'.1, fun i b hb => let ⟨y, h1, h2⟩ := hzs'.2 (i + 1) b (by simpa using hb); ⟨y, by simpa using h1, grows_step _ _ _ _ e1 h2⟩⟩
      refine ⟨_, rfl, Or.inl ⟨rfl, _, sq_of hz1⟩, wt, _, 0, 0, .ref q, rfl, rfl, hz1, by decide, by decide, (ixN_seq (ixN_nat (j := 0) (n := (V.ref q :: zs).length) (by simp))).1, rfl, ?_⟩
      generalize hH3 : upd H1 wt (.lst ((V.ref q :: zs).eraseIdx 0)) = H3
      have hq1 := e1 _ _ hq'
      have nqw : q ≠ wt := fun e => by subst e; rw [hz1] at hq1; cases hq1
      have hz3 : H3 wt = some (.lst zs) := by rw [← hH3]; exact upd_same
      have k3 : ∀ b, b ≠ wt → H3 b = H1 b := fun b n => by rw [← hH3, upd_ne n]
      have hp3 : H3 p = some (forO a dx (.ref tb) s l) := by rw [k3 _ nwp.symm]; exact e1 _ _ hp'
      have hs3 : H3 s = some (.lst ss) := by rw [k3 _ nws.symm]; exact e1 _ _ hs'
      have hl3 : H3 l = some (.lst (nVs nm)) := by rw [k3 _ nwl'.symm]; exact e1 _ _ hl'
      have hS3 : StepV (pr.1, pr.2) (.ref q) H3 := ⟨q, wq, rfl, by rw [k3 _ nqw]; exact hq1⟩
      have hzs3 : All2 StepV H3 ws zs := by rw [← hH3]; exact all2_upd hz1 hzs1
      have of3' : Off p H H3 := fun b o nb h => by rw [k3 _ (ne_of_none h nwH)]; exact e1 _ _ (of _ _ nb h)
      have hmn : nm.length ≤ 8 := by rw [I.len]; exact h8
      refine ⟨_, rfl, p, dx, _, rfl, hp3, rfl, _, rfl, p, q, dx, _, s, l, ss, nm, pr.1, pr.2, rfl, hp3, hs3, by omega, hl3, hmn, hS3, by rw [I.len]; exact hx, by rw [I.len]; exact hy, ?_, ?_⟩
      · intro he H4 e4
        refine ⟨false, rfl, ?_⟩
        refine ⟨nm, ws, ss, l, _, zs, rfl, of3'.trans (off_of e4), e4 _ _ hp3, e4 _ _ hs3, by omega, e4 _ _ hl3, e4 _ _ hz3, hzs3.mono grows_step e4, nls', nwl', ?_, I.drop he, ?_⟩
        · rw [← hgo]
          exact (go_eq he).symm
        · have := mu_drop (k := k) (nm := nm) (p := pr) (w := ws)
          omega
      · intro he H4 l4 k4 nl4 hp4 hl4 hs4
        refine ⟨true, rfl, ?_⟩
        have hT4 : TabAt a H4 tb k t := by
          refine off_tab hp hT ntp fun b o nb h => k4 _ _ nb (fun e => by subst e; rw [nsH] at h; cases h) (of3' _ _ nb h)
        have hz4 : H4 wt = some (.lst zs) := k4 _ _ nwp nws hz3
        have keepS : ∀ b v, StepV b v H3 → StepV b v H4 := fun b v ⟨r, w', h1, h2⟩ => ⟨r, w', h1, k4 _ _ (fun e => by subst e; rw [hp3] at h2; cases h2) (fun e => by subst e; rw [hs3] at h2; cases h2) h2⟩
        have hzs4 : All2 StepV H4 ws zs := ⟨hzs3.1, fun i b hb => let ⟨y, h1, h2⟩ := hzs3.2 i b hb; ⟨y, h1, keepS _ _ h2⟩⟩
        refine ⟨_, rfl, Or.inl ⟨rfl, _, sq_of hz4⟩, ?_⟩
        refine evp_cl (ea_cons (ev_var rfl) (ea_cons (ev_var rfl) ea_nil)) (use_put_steps hT4 (keepS _ _ hS3) hx hy) H4 (Ex.refl H4) _ fun v H5 e5 ⟨H0', e0', wn, hv, nwn, zn, hzn, hzsn⟩ => ?_
        subst hv
        have hz5 := e5 _ _ hz4
        have hlz : zs.length ≤ 600 := by rw [hzs4.1]; unfold mu at hmu; rw [List.length_cons] at hmu; omega
        have hlzn : zn.length ≤ 8 := by rw [hzsn.1]; have := puts_len k t (pr.1, pr.2); omega
        refine ⟨wt, wn, zs, zn, rfl, rfl, hz5, hzn, sz_of (by omega), ?_⟩
        have nwl4 : wt ≠ l4 := fun e => by subst e; rw [hz3] at nl4; cases nl4
        have nl4s : l4 ≠ s := fun e => by subst e; rw [hs3] at nl4; cases nl4
        refine ⟨_, ws ++ puts k t (pr.1, pr.2), _, l4, _, _, rfl, ?_, by rw [upd_ne nwp.symm]; exact e5 _ _ hp4, by rw [upd_ne nws.symm]; exact e5 _ _ hs4, by rw [List.length_append]; show ss.length + 1 + n ≤ 600; omega, by rw [upd_ne nwl4.symm]; exact e5 _ _ hl4, upd_same, ?_, nl4s, nwl4, ?_, I.join G, ?_⟩
        · intro b o nb h
          rw [upd_ne (ne_of_none h nwH)]
          exact e5 _ _ (k4 _ _ nb (fun e => by subst e; rw [nsH] at h; cases h) (of3' _ _ nb h))
        · exact all2_upd hz5 ((hzs4.mono grows_step e5).append hzsn)
        · rw [← hgo]
          exact (go_ne he).symm
        · have := mu_join (t := t) (p := pr) (w := ws) (nmAt_mem (by rw [I.len]; exact hx)) (nmAt_mem (by rw [I.len]; exact hy)) I.lt he
          show mu k (merge nm (nmAt nm pr.1) (nmAt nm pr.2)) (ws ++ puts k t pr) ≤ n
          omega
    · cases zs with
      | cons z zs => exact nomatch hb
      | nil =>
        have hws : ws = [] := by
          cases ws with
          | nil => rfl
          | cons x l => exact nomatch hzs'.1
        subst hws
        rw [go_nil] at hgo
        subst hgo
        exact hq H1 s l (of.trans (off_of e1)) (e1 _ _ hp') (e1 _ _ hl'))
end
end Bj

namespace Bj
open PySem PySem.Spec
open PyProof.Rows L2 Evl
theorem asc_unique : ∀ {l m : List Int}, l.Pairwise (· < ·) → m.Pairwise (· < ·) → (∀ k, k ∈ l ↔ k ∈ m) → l = m
  | [], [], _, _, _ => rfl
  | [], y :: m, _, _, h => by have := (h y).mpr (by simp); simp at this
  | x :: l, [], _, _, h => by have := (h x).mp (by simp); simp at this
  | x :: l, y :: m, hl, hm, h => by
    obtain ⟨hx, hl'⟩ := List.pairwise_cons.mp hl
    obtain ⟨hy, hm'⟩ := List.pairwise_cons.mp hm
    have e : x = y := by
      have h1 := (h x).mp (by simp)
      have h2 := (h y).mpr (by simp)
      rcases List.mem_cons.mp h1 with h1 | h1
      · exact h1
      · rcases List.mem_cons.mp h2 with h2 | h2
        · exact h2.symm
        · have := hy _ h1
          have := hx _ h2
          omega
    subst e
    refine congrArg _ (asc_unique hl' hm' fun k => ⟨fun hk => ?_, fun hk => ?_⟩)
    · rcases List.mem_cons.mp ((h k).mp (List.mem_cons_of_mem _ hk)) with e | e
      · have := hx _ hk
        omega
      · exact e
    · rcases List.mem_cons.mp ((h k).mpr (List.mem_cons_of_mem _ hk)) with e | e
      · have := hy _ hk
        omega
      · exact e
theorem NewOf.back {β : Type} {S : Addr → β → V → Hp → Prop} {bs : List β} {H H1 H2 : Hp} {v : V} (e : Ex H H1) (h : NewOf S bs H1 v H2) : NewOf S bs H v H2 := let ⟨D, zs, h1, h2, h3⟩ := h; ⟨D, zs, h1, fresh_back e h2, h3⟩
theorem lc_over {β : Type} {K : PySem.W.Frag} {σ : L2.St} {H : Hp} {tl : TE} {tt : TT} {g : TG} {vs : List Nat} {S : Addr → β → V → Hp → Prop} {tb : Addr → TBd} {bs : List β} {R : Hp → V → Hp → Prop} (h : EvP tl σ H R)
    (k : ∀ v H0 H1, Ex H H1 → R H0 v H1 → EvP (tLcB (iList K (tC v)) g tt tb vs) σ H1 (NewOf S bs)) : EvP (tLcB (iList K tl) g tt tb vs) σ H (NewOf S bs) := fun H1 e Q q =>
  h H1 e _ fun v H2 e2 hp => k v H1 H2 (e.trans e2) hp H2 (Ex.refl H2) Q (fun v' H3 e3 hn => q v' H3 (e2.trans e3) (hn.back e2))
section
variable {P : Program} {w : World} {K : PySem.W.Frag} {mg : Str → Option Value} {base : Heap} {a : Ad}
theorem el_sortset {σ : L2.St} {H : Hp} {ta : TE} {p : Addr} {nm hs : List Nat} (h : Ev ta σ H (.ref p)) (hp : H p = some (.lst (nVs nm))) (hl : nm.length < 64) (hs1 : hs.Pairwise (· < ·)) (hs2 : ∀ k, k ∈ hs ↔ k ∈ nm) :
    EvL (tCB (rSortedSet w) (tCons (tCB (rSetOfL K w) (tCons ta tNil)) tNil)) σ H (nVs hs) := fun H1 e Q q =>
  h H1 e _ fun H2 e2 => ⟨p, nm.map (fun x : Nat => (x : Int)), rfl, sq_of (by rw [(e.trans e2) _ _ hp]; unfold nVs; simp [List.map_map, Function.comp_def]), by rw [List.length_map]; omega, fun s c ns hc => ⟨s, _, c, rfl, upd_same, by rw [List.length_map] at hc; omega, fun l r hlt hm hlen nr => by
    have e1 : l = hs.map (fun x : Nat => (x : Int)) := by
      refine asc_unique hlt (List.pairwise_map.mpr (hs1.imp fun h => Int.ofNat_lt.mpr h)) fun k => ?_
      rw [hm k]
      simp only [decide_eq_true_eq, List.mem_map]
      exact ⟨fun ⟨x, h1, h2⟩ => ⟨x, (hs2 x).mpr h1, h2⟩, fun ⟨x, h1, h2⟩ => ⟨x, (hs2 x).mp h1, h2⟩⟩
    refine q r _ (fresh_back (e2.trans (Ex.new ns)) nr) ((e2.trans (Ex.new ns)).trans (Ex.new nr)) ?_
    rw [upd_same, e1]
    unfold nVs
    simp [List.map_map, Function.comp_def]⟩⟩
def sp_Forest_names (a : Ad) : Sp := spP fun vs H R => ∃ p dx vt s l nm, vs = [.ref p] ∧ H p = some (forO a dx vt s l) ∧ H l = some (.lst (nVs nm)) ∧ R = NewI nm H
theorem sc_Forest_names : FnScope ["self"] ["self"] (defScope s_Forest_names) := ⟨rfl, rfl, rfl, by decide +kernel, rfl, by decide +kernel, by decide +kernel⟩
theorem ok_Forest_names (T : Txt K mg a) : Df P w K mg base 1 a.f_Forest_names ["self"] (sp_Forest_names a) :=
  df_mk T.d_Forest_names sc_Forest_names (fun _ _ _ _ _ _ us hl => match us, hl with | [_], _ => rfl)
    (by rintro vs H Q E ⟨z, ⟨p, dx, vt, s, l, nm, rfl, _⟩, _⟩; rfl) (by
    rintro cdv A outer sh H vs Q E hr ⟨R, ⟨p, dx, vt, s, l, nm, rfl, hp, hl, rfl⟩, hq⟩
    refine ⟨_, pss_one (ps_ret (pe_lof T (pe_fld (pv 0) rfl))), ?_⟩
    exact s_retL (el_list (ev_fld (ev_var rfl) hp T.k_Forest T.n_own_names rfl) (sq_of hl)) fun q H1 nq e1 h1 => hq _ H1 e1 ⟨q, rfl, nq, h1⟩)
def sp_group_names (a : Ad) : Sp := spP fun vs H R => ∃ tb k t, vs = [.ref tb] ∧ TabAt a H tb k t ∧ R = NewI (names k t) H
theorem sc_group_names : FnScope ["table"] ["table"] (defScope s_group_names) := ⟨rfl, rfl, rfl, by decide +kernel, rfl, by decide +kernel, by decide +kernel⟩
theorem ok_group_names (T : Txt K mg a) : Df P w K mg base 9 a.f_group_names ["table"] (sp_group_names a) :=
  df_mk T.d_group_names sc_group_names (fun _ _ _ _ _ _ us hl => match us, hl with | [_], _ => rfl)
    (by rintro vs H Q E ⟨z, ⟨tb, k, t, rfl, _⟩, _⟩; rfl) (by
    rintro cdv A outer sh H vs Q E hr ⟨R, ⟨tb, k, t, rfl, hT, rfl⟩, hq⟩
    refine ⟨_, pss_one (ps_ret (pe_mt0 (pe_mk T.i_Forest (ok_Forest_init T) hr T.m_Forest (pa_cons (pv 0) pa_nil)) T.k_Forest T.h_Forest_names (ok_Forest_names T) (hr.mono (by decide)))), ?_⟩
    refine ⟨_, rfl, ?_⟩
    intro x dx nx ndx ne
    have e1 : Ex H (upd (upd H dx (.own x)) x (.ins a.c_Forest dx [])) := (Ex.new ndx).mut nx
    refine ⟨x, tb, dx, k, t, rfl, upd_same, hT.mono e1, fun H' s l of hx hl => ⟨rfl, x, dx, _, rfl, hx, rfl, ?_⟩⟩
    have e2 : Ex H H' := fun b o hb => of b o (ne_of_none hb nx) (e1 b o hb)
    exact ⟨_, ⟨x, dx, _, s, l, names k t, rfl, hx, hl, rfl⟩, fun v H'' e3 ⟨q, h1, h2, h3⟩ => hq v H'' (e2.trans e3) ⟨q, h1, fresh_back e2 h2, h3⟩⟩)
theorem use_group_names {H : Hp} {tb : Addr} {k : Nat} {t : Nat → Nat → Nat} (hT : TabAt a H tb k t) : SpP (sp_group_names a) [.ref tb] H (NewI (names k t)) := spp_use fun H1 e => ⟨tb, k, t, rfl, hT.mono e, rfl⟩
theorem heads_len {k : Nat} {t : Nat → Nat → Nat} : (heads k t).length ≤ k := ng_le
theorem grps_len {k : Nat} {t : Nat → Nat → Nat} : (grps k t).length = ng k t := by unfold grps ng; rw [List.length_map]
def sp_groups (a : Ad) : Sp := spP fun vs H R => ∃ tb k t, vs = [.ref tb] ∧ TabAt a H tb k t ∧ R = NewL (IntsF H) (grps k t) H
theorem sc_groups : FnScope ["table", "names", "name", "colour"] ["table"] (defScope s_groups) := ⟨rfl, rfl, rfl, by decide +kernel, rfl, by decide +kernel, by decide +kernel⟩
theorem ok_groups (T : Txt K mg a) : Df P w K mg base 10 a.f_groups ["table"] (sp_groups a) :=
  df_mk T.d_groups sc_groups (fun _ _ _ _ _ _ us hl => match us, hl with | [_], _ => rfl)
    (by rintro vs H Q E ⟨z, ⟨tb, k, t, rfl, _⟩, _⟩; rfl) (by
    rintro cdv A outer sh H vs Q E hr ⟨R, ⟨tb, k, t, rfl, hT, rfl⟩, hq⟩
    have nd := sc_groups.nd
    refine ⟨_, pss_cons (ps_set (i := 1) nd rfl (Or.inr rfl) (pe_cl (ok_group_names T) hr T.m_group_names (pa_cons (pv 0) pa_nil)))
      (pss_one (ps_ret (pe_c1 (own := [("name", 2)]) (g := gName 2) (tt := tYes) rfl nd
        (pi_lst K (pe_callB (cr_sortedSet rfl) (by rfl) T.b_sorted PyProof.Rows.boot_sorted (pa_cons (pe_callTy (cr_setL rfl) (by rfl) T.b_set PyProof.Rows.boot_set (pa_cons (pv 1) pa_nil)) pa_nil)))
        (blkOk_by (N := ["table", "names", "name", "colour"]) (sc := defScope s_groups) (by decide +kernel)) (fun _ _ _ _ _ => pg_name (i := 2) nd rfl (Or.inr rfl)) (fun _ _ _ _ _ => pts_nil)
        (fun _ _ _ _ _ => pe_c1 (own := [("colour", 3)]) (g := gName 3) rfl nd (pi_rng T (pe_pr (pv 0) T.k_Table T.p_Table_size (ok_Table_size T) (hr.mono (by decide))))
          (blkOk_by (by rfl)) (fun _ _ _ _ _ => pg_name (i := 3) nd rfl (Or.inl rfl)) (fun _ _ _ _ _ => pts_one (pt_cmpR op_eq (pe_ixl K (pv 1) (pv 3)) (pv 2) (nomark _))) (fun _ _ _ _ _ => pv 3))))), ?_⟩
    have G := hT.good
    have h8 := G.le
    have N := names_ok G
    refine q_asgP (evp_cl (ea_cons (ev_var rfl) ea_nil) (use_group_names hT)) fun v H1 e1 ⟨H0, e0, nm, hv, nnm, hnm⟩ => ?_
    subst hv
    have hT1 := hT.mono e1
    have hhl := heads_len (k := k) (t := t)
    have ho : outs (fun _ => true) (fun i => [groupOf k t (nmAt (heads k t) i)]) (heads k t).length = grps k t := by
      rw [outs_map]
      unfold grps
      refine List.ext_getElem? fun i => ?_
      rw [List.getElem?_map, List.getElem?_map]
      rcases Nat.lt_or_ge i (heads k t).length with h | h
      · rw [List.getElem?_range h, List.getElem?_eq_getElem h]
        show some (groupOf k t (nmAt (heads k t) i)) = _
        unfold nmAt
        rw [List.getD_eq_getElem?_getD, List.getElem?_eq_getElem h]
        rfl
      · rw [List.getElem?_eq_none (by simpa using h), List.getElem?_eq_none h]
        rfl
    have hs1 : (heads k t).Pairwise (· < ·) := List.Pairwise.filter _ List.pairwise_lt_range
    have hgl := grps_len (k := k) (t := t)
    have hnl : (names k t).length = k := N.len
    have hs2 : ∀ v, v ∈ heads k t ↔ v ∈ names k t := fun v => mem_heads G
    refine s_retP (lc_over (evp_ofL (el_sortset (hs := heads k t) (ev_var rfl) hnm (by omega) hs1 hs2)) fun v H0 H3 e13 ⟨l, hv, nl, hl⟩ => ?_) fun v H2 e2 h2 => hq v H2 (e1.trans e2) ((newof_intsF (H0 := H) (bs := grps k t) h2).back e1)
    subst hv
    have hT3 := hT1.mono e13
    have hnm3 := e13 _ _ hnm
    refine lc_as ho (n := (heads k t).length) (S := SIntsF H) (b := fun _ => true) keeps_intsF (wi_list ev_c (sq_of hl)) (goes_listN (sq_of hl) (by simp)) (fun i hi => rfl) (fun i hi => et_yes) (fun D i hi _ => eb_intsF (e1.trans e13) (el_newof (f := nV) ?_)) (by rw [hgl]; unfold ng; omega)
    have hho : outs (fun c => decide (nmAt (names k t) c = nmAt (heads k t) i)) (fun c => [c]) k = groupOf k t (nmAt (heads k t) i) := by
      rw [outs_filter]
      unfold groupOf
      simp
    have hgo : (groupOf k t (nmAt (heads k t) i)).length ≤ k := by
      unfold groupOf
      have := List.length_filter_le (fun c => decide (nmAt (names k t) c = nmAt (heads k t) i)) (List.range k)
      rw [List.length_range] at this
      exact this
    refine lc_as hho (n := k) (S := SFlat nV) (b := fun c => decide (nmAt (names k t) c = nmAt (heads k t) i)) (bs := fun c => [c]) keeps_flat (wi_range (ea_cons (ev_size (ev_var rfl) hT3) ea_nil) (by omega)) goes_range (fun c hc => rfl) (fun c hc => ?_) (fun D c hc _ => eb_flat (ev_var rfl)) (by omega)
    refine et_is (et_test (ev_op (ev_ixl (ev_var rfl) (ev_var rfl) hnm3 (nm_get (by rw [hnl]; exact hc))) (ev_var (v := nV (nmAt (heads k t) i)) ?_) (rv_eq rfl))) ?_
    · show some ((nVs (heads k t))[i]?) = _
      rw [nm_get hi]
    · simp
      omega)
theorem use_groups {H : Hp} {tb : Addr} {k : Nat} {t : Nat → Nat → Nat} (hT : TabAt a H tb k t) : SpP (sp_groups a) [.ref tb] H (fun H1 => NewL (IntsF H1) (grps k t) H1) := spp_use fun H1 e => ⟨tb, k, t, rfl, hT.mono e, rfl⟩
end
end Bj

namespace Bj
open PySem PySem.Spec
open PyProof.Rows L2 Evl
theorem filter_eq {g : Nat} : ∀ {n : Nat}, g < n → (List.range n).filter (fun i => decide (g = i)) = [g]
  | 0, h => by omega
  | n + 1, h => by
    rw [List.range_succ, List.filter_append]
    by_cases e : g = n
    · subst e
      have : (List.range g).filter (fun i => decide (g = i)) = [] := by
        rw [List.filter_eq_nil_iff]
        intro x hx
        have := List.mem_range.mp hx
        simp
        omega
      rw [this]
      simp
    · rw [filter_eq (show g < n by omega)]
      simp [e]
theorem inV_nat {c : Nat} : ∀ g : List Nat, inV (nV c) (nVs g) = decide (c ∈ g)
  | [] => by simp [inV]
  | x :: g => by
    have ih := inV_nat (c := c) g
    unfold inV at ih ⊢
    show (eqV (nV x) (nV c) || (nVs g).any fun y => eqV y (nV c)) = _
    rw [ih]
    show (((x : Int) == (c : Int)) || decide (c ∈ g)) = decide (c ∈ x :: g)
    rw [Bool.eq_iff_iff]
    simp only [Bool.or_eq_true, beq_iff_eq, decide_eq_true_eq, List.mem_cons]
    have h : ((x : Int) = (c : Int)) ↔ c = x := by omega
    rw [h]
theorem flat_nVs : ∀ g : List Nat, (nVs g).all flatV = true
  | [] => rfl
  | x :: g => flat_nVs g
section
variable {P : Program} {w : World} {K : PySem.W.Frag} {mg : Str → Option Value} {base : Heap} {a : Ad}
theorem grp_at {k : Nat} {t : Nat → Nat → Nat} {i : Nat} (h : i < ng k t) : (grps k t)[i]? = some ((grps k t).getD i []) := by
  rw [List.getD_eq_getElem?_getD, List.getElem?_eq_getElem (by rw [grps_len]; exact h)]
  rfl
def sp_group_number : Sp := spV fun vs H z => ∃ f c k t, vs = [.ref f, nV c] ∧ ListAt IntsV H f (grps k t) ∧ Good k t ∧ c < k ∧ z = nV (gn k t c)
theorem sc_group_number : FnScope ["found", "colour", "number", "group"] ["found", "colour"] (defScope s_group_number) := ⟨rfl, rfl, rfl, by decide +kernel, rfl, by decide +kernel, by decide +kernel⟩
theorem ok_group_number (T : Txt K mg a) : Df P w K mg base 1 a.f_group_number ["found", "colour"] sp_group_number :=
  df_mk T.d_group_number sc_group_number (fun _ _ _ _ _ _ us hl => match us, hl with | [_, _], _ => rfl)
    (by rintro vs H Q E ⟨z, ⟨f, c, k, t, rfl, _⟩, _⟩; rfl) (by
    rintro cdv A outer sh H vs Q E hr ⟨z, ⟨f, c, k, t, rfl, hF, G, hc, rfl⟩, hq⟩
    have nd := sc_group_number.nd
    refine ⟨_, pss_one (ps_ret (pe_ixl K (pe_c1 (own := [("number", 2), ("group", 3)]) (g := gTup K 2 (gCons (gName 2) (gCons (gName 3) gNil))) rfl nd (pi_enum (by rfl) T.b_enumerate (pa_cons (pv 0) pa_nil))
        (blkOk_by (N := ["found", "colour", "number", "group"]) (sc := defScope s_group_number) (by decide +kernel)) (fun _ _ _ _ _ => pg_tupK K rfl (pgs_cons (pg_name (i := 2) nd rfl (Or.inl rfl)) (pgs_cons (pg_name (i := 3) nd rfl (Or.inl rfl)) pgs_nil)))
        (fun _ _ _ _ _ => pts_one (pt_cmpR (op_inK K) (pv 1) (pv 3) rfl)) (fun _ _ _ _ _ => pv 2)) pe_int)), ?_⟩
    have hgl := grps_len (k := k) (t := t)
    have h8 := G.le
    have hnl : ng k t ≤ k := ng_le
    obtain ⟨ys, hys, ha⟩ := hF
    have hn : ys.length = ng k t := by rw [ha.1, hgl]
    have ho : outs (fun i => decide (gn k t c = i)) (fun i => [i]) ys.length = [gn k t c] := by
      rw [outs_filter, hn, filter_eq (gn_lt G hc)]
      rfl
    refine s_ret (ev_opL1 (xs := nVs [gn k t c]) (el_newof (f := nV) (lc_as ho (n := ys.length) (S := SFlat nV) (b := fun i => decide (gn k t c = i)) (bs := fun i => [i]) keeps_flat (wi_enum (ea_cons (ev_var rfl) ea_nil) (sq_of hys)) (goes_enum (sq_of hys)) (fun i hi => rfl)
      (fun i hi => ?_) (fun D i hi _ => eb_flat (ev_var rfl)) (by show 1 < 100000; decide))) (fun H1 e => ev_c) (fun p H1 hp e => rv_ixL (sq_of hp) (atI_nat (j := 0) rfl))) hq
    obtain ⟨y, hy, q, hqv, hq'⟩ := ha.2 i _ (grp_at (by rw [← hn]; exact hi))
    subst hqv
    refine et_is (et_test (ev_op (ev_var rfl) (ev_var (v := .ref q) ?_) (rv_isL (sq_of hq') rfl (flat_nVs _)))) ?_
    · show some (ys[i]?) = _
      rw [hy]
    · rw [inV_nat, decide_eq_decide]
      exact in_group G (grp_at (by rw [← hn]; exact hi)) hc)
theorem use_group_number {H : Hp} {f : Addr} {c k : Nat} {t : Nat → Nat → Nat} (hF : ListAt IntsV H f (grps k t)) (G : Good k t) (hc : c < k) : SpV sp_group_number [.ref f, nV c] H (nV (gn k t c)) := spv_use fun H1 e => ⟨f, c, k, t, rfl, hF.mono grows_ints e, G, hc, rfl⟩
def sp_quotient (a : Ad) : Sp := spP fun vs H R => ∃ tb k t, vs = [.ref tb] ∧ TabAt a H tb k t ∧ R = fun v H' => ∃ p, v = .ref p ∧ TabF a H H' p (ng k t) (quo k t)
theorem sc_quotient : FnScope ["table", "found", "one", "other"] ["table"] (defScope s_quotient) := ⟨rfl, rfl, rfl, by decide +kernel, rfl, by decide +kernel, by decide +kernel⟩
theorem rep_get {k : Nat} {t : Nat → Nat → Nat} (G : Good k t) {i : Nat} (h : i < ng k t) : (nVs ((grps k t).getD i []))[0]? = some (nV (rep k t i)) := by
  refine nVs_get ?_
  unfold rep
  have hne : (grps k t).getD i [] ≠ [] := by
    have h1 := List.mem_of_getElem? (grp_at h)
    unfold grps at h1
    obtain ⟨v, hv, e⟩ := List.mem_map.mp h1
    have := group_ne G hv
    unfold grps
    rw [← e]
    exact this
  cases h2 : (grps k t).getD i [] with
  | nil => exact absurd h2 hne
  | cons x l => rfl
theorem ok_quotient (T : Txt K mg a) : Df P w K mg base 11 a.f_quotient ["table"] (sp_quotient a) :=
  df_mk T.d_quotient sc_quotient (fun _ _ _ _ _ _ us hl => match us, hl with | [_], _ => rfl)
    (by rintro vs H Q E ⟨z, ⟨tb, k, t, rfl, _⟩, _⟩; rfl) (by
    rintro cdv A outer sh H vs Q E hr ⟨R, ⟨tb, k, t, rfl, hT, rfl⟩, hq⟩
    have nd := sc_quotient.nd
    refine ⟨_, pss_cons (ps_set (i := 1) nd rfl (Or.inr rfl) (pe_cl (ok_groups T) hr T.m_groups (pa_cons (pv 0) pa_nil)))
      (pss_one (ps_ret (pe_mk T.i_Table (ok_Table_init T) (hr.mono (by decide)) T.m_Table (pa_cons (pe_c1 (own := [("one", 2)]) (g := gName 2) (tt := tYes) rfl nd (pi_lst K (pv 1))
        (blkOk_by (N := ["table", "found", "one", "other"]) (sc := defScope s_quotient) (by decide +kernel)) (fun _ _ _ _ _ => pg_name (i := 2) nd rfl (Or.inr rfl)) (fun _ _ _ _ _ => pts_nil)
        (fun _ _ _ _ _ => pe_c1 (own := [("other", 3)]) (g := gName 3) (tt := tYes) rfl nd (pi_lst K (pv 1))
          (blkOk_by (by rfl)) (fun _ _ _ _ _ => pg_name (i := 3) nd rfl (Or.inl rfl)) (fun _ _ _ _ _ => pts_nil)
          (fun _ _ _ _ _ => pe_cl (ok_group_number T) (hr.mono (by decide)) T.m_group_number (pa_cons (pv 1) (pa_cons (pe_gt T.u_Table_getitem T.e_Table (ok_Table_getitem T) (hr.mono (by decide)) (pv 0) (pe_tup (pa_cons (pe_ixl K (pv 2) pe_int) (pa_cons (pe_ixl K (pv 3) pe_int) pa_nil)))) pa_nil))))) pa_nil)))), ?_⟩
    have G := hT.good
    have h8 := G.le
    have Qt := quot_ok G
    have G' := Qt.good G
    have hgl := grps_len (k := k) (t := t)
    have hnl : ng k t ≤ k := ng_le
    refine q_asgP (evp_cl (ea_cons (ev_var rfl) ea_nil) (use_groups hT)) fun v H1 e1 ⟨H0, e0, f, hv, nf, hF⟩ => ?_
    subst hv
    have hT1 := hT.mono e1
    have hF := intsF_v hF
    have hF' := hF
    obtain ⟨ys, hys, ha⟩ := hF
    have hn : ys.length = ng k t := by rw [ha.1, hgl]
    have ho : outs (fun _ => true) (fun i => [(List.range (ng k t)).map fun j => quo k t i j]) (ng k t) = (List.range (ng k t)).map fun i => (List.range (ng k t)).map fun j => quo k t i j := outs_map
    refine s_retP (evp_mkTab (k := ng k t) (t := quo k t) (lc_as ho (n := ng k t) (S := SIntsF H) (b := fun _ => true) keeps_intsF (wi_list (ev_var rfl) (sq_of hys)) (goes_listN (sq_of hys) hn) (fun i hi => rfl) (fun i hi => et_yes) (fun D i hi _ => eb_intsF e1 (el_newof (f := nV) ?_)) (by rw [List.length_map, List.length_range]; omega))
      (fun H1 v H2 h => ?_) G') fun v H2 e2 ⟨p, hv, _, hp⟩ => hq v H2 (e1.trans e2) ⟨p, hv, hp.back e1⟩
    · have hoi : outs (fun _ => true) (fun j => [quo k t i j]) (ng k t) = (List.range (ng k t)).map fun j => quo k t i j := outs_map
      refine lc_as hoi (n := ng k t) (S := SFlat nV) (b := fun _ => true) keeps_flat (wi_list (ev_var rfl) (sq_of hys)) (goes_listN (sq_of hys) hn) (fun j hj => rfl) (fun j hj => et_yes) (fun D j hj _ => eb_flat ?_) (by rw [List.length_map, List.length_range]; omega)
      obtain ⟨y1, hy1, q1, hq1, hl1⟩ := ha.2 i _ (grp_at hi)
      obtain ⟨y2, hy2, q2, hq2, hl2⟩ := ha.2 j _ (grp_at hj)
      subst hq1 hq2
      obtain ⟨r1, _⟩ := rep_ok G hi
      obtain ⟨r2, _⟩ := rep_ok G hj
      refine ev_cl (ea_cons (ev_var rfl) (ea_cons (ev_tab (ev_var rfl) (ev_ixl (i := 0) (ev_var (v := .ref q1) ?_) ev_c hl1 (rep_get G hi)) (ev_ixl (i := 0) (ev_var (v := .ref q2) ?_) ev_c hl2 (rep_get G hj)) hT1 r1 r2) ea_nil)) (use_group_number hF' G (G.lt _ _ r1 r2))
      · show some (ys[i]?) = _
        rw [hy1]
      · show some (ys[j]?) = _
        rw [hy2]
    · obtain ⟨p, h1, _, h3⟩ := newof_intsF h
      exact ⟨p, h1, intsF_v h3⟩)
theorem use_quotient {H : Hp} {tb : Addr} {k : Nat} {t : Nat → Nat → Nat} (hT : TabAt a H tb k t) : SpP (sp_quotient a) [.ref tb] H (fun H1 v H' => ∃ p, v = .ref p ∧ TabF a H1 H' p (ng k t) (quo k t)) := spp_use fun H1 e => ⟨tb, k, t, rfl, hT.mono e, rfl⟩
end
end Bj

namespace Bj
open PySem PySem.Spec
open PyProof.Rows L2 Evl
def optV : Option Nat → V
  | none => .non
  | some x => nV x
theorem take_foldl {α : Type} {f : α → Nat → α} {z : α} {l : List Nat} {i c : Nat} (h : l[i]? = some c) : (l.take (i + 1)).foldl f z = f ((l.take i).foldl f z) c := by
  rw [List.take_add_one, h, List.foldl_append]
  rfl
section
variable {P : Program} {w : World} {K : PySem.W.Frag} {mg : Str → Option Value} {base : Heap} {a : Ad}
def sp_validate_passes (a : Ad) : Sp := spV fun vs H z => ∃ tb k t, vs = [.ref tb] ∧ TabAt a H tb k t ∧ Assoc k t ∧ z = .non
theorem sc_validate_passes : FnScope ["table", "triple"] ["table"] (defScope s_validate_passes) := ⟨rfl, rfl, rfl, by decide +kernel, rfl, by decide +kernel, by decide +kernel⟩
theorem ok_validate_passes (T : Txt K mg a) : Df P w K mg base 8 a.f_validate_passes ["table"] (sp_validate_passes a) :=
  df_mk T.d_validate_passes sc_validate_passes (fun _ _ _ _ _ _ us hl => match us, hl with | [_], _ => rfl)
    (by rintro vs H Q E ⟨z, ⟨tb, k, t, rfl, _⟩, _⟩; rfl) (by
    rintro cdv A outer sh H vs Q E hr ⟨z, ⟨tb, k, t, rfl, hT, hA, rfl⟩, hq⟩
    have nd := sc_validate_passes.nd
    refine ⟨_, pss_cons (ps_set (i := 1) nd rfl (Or.inl rfl) (pe_cl (ok_first_dispute T) hr T.m_first_dispute (pa_cons (pv 0) pa_nil)))
      (pss_one (ps_if (pt_cmp (pc_notN (pv 1))) pss_never pss_nil)), ?_⟩
    refine q_asgP (evp_cl (ea_cons (ev_var rfl) ea_nil) (use_first_dispute hT)) fun v H1 e1 ⟨H0, e0, h⟩ => ?_
    rw [assocB_iff.mpr hA] at h
    have hv := of_decide_eq_true h
    subst hv
    exact s_when (b := false) (et_is (et_B (ev_notN (x := .non) (ev_var rfl))) (by decide)) (fun h => nomatch h) fun _ H2 e2 => hq H2 (e1.trans e2))
theorem use_validate_passes {H : Hp} {tb : Addr} {k : Nat} {t : Nat → Nat → Nat} (hT : TabAt a H tb k t) (A : Assoc k t) : SpV (sp_validate_passes a) [.ref tb] H .non := spv_use fun H1 e => ⟨tb, k, t, rfl, hT.mono e, A, rfl⟩
def sp_product (a : Ad) : Sp := spV fun vs H z => ∃ tb k t x y, vs = [.ref tb, optV x, optV y] ∧ TabAt a H tb k t ∧ In k x ∧ In k y ∧ z = optV (mul t x y)
theorem sc_product : FnScope ["table", "first", "second"] ["table", "first", "second"] (defScope s_product) := ⟨rfl, rfl, rfl, by decide +kernel, rfl, by decide +kernel, by decide +kernel⟩
theorem ok_product (T : Txt K mg a) : Df P w K mg base 6 a.f_product ["table", "first", "second"] (sp_product a) :=
  df_mk T.d_product sc_product (fun _ _ _ _ _ _ us hl => match us, hl with | [_, _, _], _ => rfl)
    (by rintro vs H Q E ⟨z, ⟨tb, k, t, x, y, rfl, _⟩, _⟩; rfl) (by
    rintro cdv A outer sh H vs Q E hr ⟨z, ⟨tb, k, t, x, y, rfl, hT, hx, hy, rfl⟩, hq⟩
    refine ⟨_, pss_cons (ps_if (PW.pt (pw_or (pt_cmp (pc_isN (pv 1))) (pw_or1 (pt_cmp (pc_isN (pv 2)))))) (pss_one (ps_ret (pe_ifExp (pt_cmp (pc_isN (pv 1))) (pv 2) (pv 1)))) pss_nil)
      (pss_one (ps_ret (pe_gt T.u_Table_getitem T.e_Table (ok_Table_getitem T) hr (pv 0) (pe_tup (pa_cons (pv 1) (pa_cons (pv 2) pa_nil)))))), ?_⟩
    have t1 : ∀ H1, EvT (tB (tIsN (tVar 1))) (L2.start ["table", "first", "second"] [.ref tb, optV x, optV y]) H1 (decide (optV x = .non)) := fun H1 => et_B (ev_isN (ev_var rfl))
    have t2 : ∀ H1, EvT (tB (tIsN (tVar 2))) (L2.start ["table", "first", "second"] [.ref tb, optV x, optV y]) H1 (decide (optV y = .non)) := fun H1 => et_B (ev_isN (ev_var rfl))
    refine q_when (et_or (t1 H) (fun _ => t2 H)) (fun hb H1 e1 => ?_) (fun hb H1 e1 => ?_)
    · refine s_ret (v := optV (mul t x y)) (ev_if (t1 H1) (fun hb' => ?_) (fun hb' => ?_)) fun H2 e2 => hq H2 (e1.trans e2)
      · cases x with
        | some x => exact absurd (of_decide_eq_true hb') (fun h => nomatch h)
        | none => exact ev_var rfl
      · cases x with
        | none => exact absurd rfl (of_decide_eq_false hb')
        | some x =>
          cases y with
          | none => exact ev_var rfl
          | some y =>
            have h1 : decide (optV (some x) = .non) = false := hb'
            have h2 : decide (optV (some y) = .non) = false := decide_eq_false fun h => nomatch h
            rw [h1, h2] at hb
            exact nomatch hb
    · cases x with
      | none => rw [show decide (optV none = .non) = true from decide_eq_true rfl] at hb; exact nomatch hb
      | some x =>
        cases y with
        | none => rw [show decide (optV none = .non) = true from decide_eq_true rfl, Bool.or_true] at hb; exact nomatch hb
        | some y => exact s_ret (ev_tab (ev_var rfl) (ev_var rfl) (ev_var rfl) (hT.mono e1) hx hy) fun H2 e2 => hq H2 (e1.trans e2))
theorem use_product {H : Hp} {tb : Addr} {k : Nat} {t : Nat → Nat → Nat} {x y : Option Nat} (hT : TabAt a H tb k t) (hx : In k x) (hy : In k y) : SpV (sp_product a) [.ref tb, optV x, optV y] H (optV (mul t x y)) := spv_use fun H1 e => ⟨tb, k, t, x, y, rfl, hT.mono e, hx, hy, rfl⟩
def sp_times (a : Ad) : Sp := spV fun vs H z => ∃ tb k t c n, vs = [.ref tb, nV c, nV n] ∧ TabAt a H tb k t ∧ Assoc k t ∧ c < k ∧ z = optV (pw t (some c) n)
theorem sc_times : FnScope ["table", "colour", "count", "found", "power"] ["table", "colour", "count"] (defScope s_times) := ⟨rfl, rfl, rfl, by decide +kernel, rfl, by decide +kernel, by decide +kernel⟩
theorem ok_times (T : Txt K mg a) : Df P w K mg base 7 a.f_times ["table", "colour", "count"] (sp_times a) :=
  df_mk T.d_times sc_times (fun _ _ _ _ _ _ us hl => match us, hl with | [_, _, _], _ => rfl)
    (by rintro vs H Q E ⟨z, ⟨tb, k, t, c, n, rfl, _⟩, _⟩; rfl) (by
    rintro cdv A outer sh H vs Q E hr ⟨z, ⟨tb, k, t, c, n, rfl, hT, hA, hc, rfl⟩, hq⟩
    have nd := sc_times.nd
    refine ⟨_, pss_cons (ps_par (i := 3) (j := 4) rfl nd rfl rfl (by decide) rfl rfl (pa_cons pe_non (pa_cons (pv 1) pa_nil)) rfl)
      (pss_cons (ps_while PassesOwn.never (pt_cmpR op_gt (pv 2) pe_int (nomark _)) (pss_cons (ps_if (pt_cmpR op_eq (pe_op op_mod (pv 2) pe_int) pe_int (nomark _)) (pss_one (ps_set (i := 3) nd rfl (Or.inl rfl) (pe_cl (ok_product T) hr T.m_product (pa_cons (pv 0) (pa_cons (pv 3) (pa_cons (pv 4) pa_nil)))))) pss_nil)
        (pss_cons (ps_set (i := 4) nd rfl (Or.inl rfl) (pe_gt T.u_Table_getitem T.e_Table (ok_Table_getitem T) (hr.mono (by decide)) (pv 0) (pe_tup (pa_cons (pv 4) (pa_cons (pv 4) pa_nil)))))
        (pss_one (ps_set (i := 2) nd rfl (Or.inl rfl) (pe_op op_fdiv (pv 2) pe_int))))))
      (pss_one (ps_ret (pv 3)))), ?_⟩
    have G := hT.good
    refine q_par ev_c (ev_var rfl) fun H1 e1 => ?_
    refine q_while (W := fun m σ' H' => Ex H H' ∧ ∃ f x, σ' = [some (.ref tb), some (nV c), some (nV m), some (optV f), some (nV x)] ∧ In k f ∧ x < k ∧ mul t f (pw t (some x) m) = pw t (some c) n) n ⟨e1, none, c, rfl, trivial, hc, rfl⟩ ?_
    rintro m σ' H' ⟨ex, f, x, rfl, hf, hx, heq⟩
    refine ⟨decide (0 < m), et_is (et_test (ev_op (ev_var rfl) ev_c rv_I0)) (by simp), fun hb H2 e2 => ?_, fun hb H2 e2 => ?_⟩
    · have hm := of_decide_eq_true hb
      have hT2 := hT.mono (ex.trans e2)
      refine ⟨fun σ2 H2 => Ex H H2 ∧ ∃ f x, σ2 = [some (.ref tb), some (nV c), some (nV (m / 2)), some (optV f), some (nV x)] ∧ In k f ∧ x < k ∧ mul t f (pw t (some x) (m / 2)) = pw t (some c) n, fun σ2 H2 h => ⟨m / 2, by omega, h⟩, ?_⟩
      have hfx : In k (mul t f (some x)) := mul_in G hf (show In k (some x) from hx)
      refine q_ifAsg (b := decide (m % 2 = 1)) (v := optV (if m % 2 = 1 then mul t f (some x) else f)) (et_is (et_test (ev_op (ev_op (ev_var rfl) ev_c (rv_I (by show (0 : Int) < 2; decide))) ev_c (rv_eq rfl))) ?_) (fun hb => ?_) (fun hb => ?_) fun H3 e3 => ?_
      · rw [decide_eq_decide]
        simp
        omega
      · rw [if_pos (of_decide_eq_true hb)]
        exact ev_cl (ea_cons (ev_var rfl) (ea_cons (ev_var rfl) (ea_cons (ev_var (v := optV (some x)) rfl) ea_nil))) (use_product hT2 hf (show In k (some x) from hx))
      · rw [if_neg (of_decide_eq_false hb)]
        rfl
      have hT3 := hT2.mono e3
      refine q_asg (ev_tab (ev_var rfl) (ev_var rfl) (ev_var rfl) hT3 hx hx) fun H4 e4 => ?_
      refine s_asg (v := nV (m / 2)) (ev_is (ev_op (ev_var rfl) ev_c (rv_I (show CDiv (m : Int) 2 from ⟨by decide, by decide⟩))) ?_) fun H5 e5 => ⟨((ex.trans e2).trans e3).trans (e4.trans e5), if m % 2 = 1 then mul t f (some x) else f, t x x, rfl, ?_, G.lt _ _ hx hx, ?_⟩
      · show V.int _ = V.int _
        congr 1
      · split
        · exact hfx
        · exact hf
      · rw [← heq]
        by_cases h1 : m % 2 = 1
        · rw [if_pos h1]
          exact (times_odd G hA hf (show In k (some x) from hx) h1).symm
        · rw [if_neg h1]
          exact congrArg (mul t f) (times_even G hA (show In k (some x) from hx) (by omega)).symm
    · have hm := of_decide_eq_false hb
      have h0 : m = 0 := by omega
      subst h0
      rw [show pw t (some x) 0 = none from rfl, mul_none] at heq
      subst heq
      exact s_ret (ev_var rfl) fun H3 e3 => hq H3 (ex.trans (e2.trans e3)))
theorem use_times {H : Hp} {tb : Addr} {k c n : Nat} {t : Nat → Nat → Nat} (hT : TabAt a H tb k t) (hA : Assoc k t) (hc : c < k) : SpV (sp_times a) [.ref tb, nV c, nV n] H (optV (pw t (some c) n)) := spv_use fun H1 e => ⟨tb, k, t, c, n, rfl, hT.mono e, hA, hc, rfl⟩
end
end Bj

namespace Bj
open PySem PySem.Spec
open PyProof.Rows L2 Evl
theorem pw_some {t : Nat → Nat → Nat} {c n : Nat} (h : 0 < n) : ∃ y, pw t (some c) n = some y := by
  obtain ⟨m, rfl⟩ : ∃ m, n = m + 1 := ⟨n - 1, by omega⟩
  show ∃ y, mul t (pw t (some c) m) (some c) = some y
  cases pw t (some c) m with
  | none => exact ⟨_, rfl⟩
  | some z => exact ⟨_, rfl⟩
theorem phi_some {t : Nat → Nat → Nat} {g n : Nat → Nat} : ∀ {j : Nat}, (∃ c, c < j ∧ 0 < n c) → ∃ y, Phi t g n j = some y
  | 0, ⟨c, h, _⟩ => by omega
  | j + 1, ⟨c, h, hc⟩ => by
    show ∃ y, mul t (Phi t g n j) (pw t (some (g j)) (n j)) = some y
    by_cases e : c = j
    · subst e
      obtain ⟨y, hy⟩ := pw_some (t := t) (c := g c) hc
      rw [hy]
      cases Phi t g n c with
      | none => exact ⟨_, rfl⟩
      | some z => exact ⟨_, rfl⟩
    · obtain ⟨y, hy⟩ := phi_some (t := t) (g := g) (j := j) ⟨c, by omega, hc⟩
      rw [hy]
      cases pw t (some (g j)) (n j) with
      | none => exact ⟨_, rfl⟩
      | some z => exact ⟨_, rfl⟩
theorem fold_in {k m : Nat} {t : Nat → Nat → Nat} (G : Good m t) {g n : Nat → Nat} (hg : ∀ c, c < k → g c < m) : ∀ (l : List Nat) (x : Option Nat), (∀ c ∈ l, c < k) → In m x → In m (l.foldl (fun acc c => mul t acc (pw t (some (g c)) (n c))) x)
  | [], x, _, hx => hx
  | c :: l, x, hl, hx => fold_in G hg l _ (fun d hd => hl d (List.mem_cons_of_mem _ hd)) (mul_in G hx (pw_in G (show In m (some (g c)) from hg c (hl c List.mem_cons_self)) _))
section
variable {P : Program} {w : World} {K : PySem.W.Frag} {mg : Str → Option Value} {base : Heap} {a : Ad}
theorem use_validate_beans {H : Hp} {tb p : Addr} {k : Nat} {t : Nat → Nat → Nat} {n : Nat → Nat} (hT : TabAt a H tb k t) (hJ : JarN a H p k n) (h : 0 < tot k n) : SpV (sp_validate_beans a) [.ref tb, .ref p] H .non := spv_use fun H1 e => ⟨tb, p, k, t, n, rfl, hT.mono e, hJ.mono e, h, rfl⟩
def sp_last_bean (a : Ad) : Sp := spV fun vs H z => ∃ tb p k t n, vs = [.ref tb, .ref p] ∧ TabAt a H tb k t ∧ Assoc k t ∧ JarN a H p k n ∧ 0 < tot k n ∧ z = optV (Phi t (fun c => c) n k)
theorem sc_last_bean : FnScope ["table", "jar", "found", "colour"] ["table", "jar"] (defScope s_last_bean) := ⟨rfl, rfl, rfl, by decide +kernel, rfl, by decide +kernel, by decide +kernel⟩
theorem ok_last_bean (T : Txt K mg a) : Df P w K mg base 9 a.f_last_bean ["table", "jar"] (sp_last_bean a) :=
  df_mk T.d_last_bean sc_last_bean (fun _ _ _ _ _ _ us hl => match us, hl with | [_, _], _ => rfl)
    (by rintro vs H Q E ⟨z, ⟨tb, p, k, t, n, rfl, _⟩, _⟩; rfl) (by
    rintro cdv A outer sh H vs Q E hr ⟨z, ⟨tb, p, k, t, n, rfl, hT, hA, hJ, hp, rfl⟩, hq⟩
    have nd := sc_last_bean.nd
    refine ⟨_, pss_cons (ps_expr (pe_cl (ok_validate_passes T) hr T.m_validate_passes (pa_cons (pv 0) pa_nil)))
      (pss_cons (ps_expr (pe_cl (ok_validate_beans T) (hr.mono (by decide)) T.m_validate_beans (pa_cons (pv 0) (pa_cons (pv 1) pa_nil))))
      (pss_cons (ps_set (i := 2) nd rfl (Or.inl rfl) pe_non)
      (pss_cons (ps_for PassesOwn.never rfl (pi_lst K (pe_mt0 (pv 1) T.k_Jar T.h_Jar_colours (ok_Jar_colours T) (hr.mono (by decide)))) (pg_name (i := 3) nd rfl (Or.inl rfl))
        (pss_one (ps_set (i := 2) nd rfl (Or.inl rfl) (pe_cl (ok_product T) (hr.mono (by decide)) T.m_product (pa_cons (pv 0) (pa_cons (pv 2) (pa_cons (pe_cl (ok_times T) (hr.mono (by decide)) T.m_times
          (pa_cons (pv 0) (pa_cons (pv 3) (pa_cons (pe_gt T.u_Jar_getitem T.e_Jar (ok_Jar_getitem T) (hr.mono (by decide)) (pv 1) (pv 3)) pa_nil)))) pa_nil)))))))
      (pss_one (ps_ret (pv 2)))))), ?_⟩
    have G := hT.good
    refine q_drop (ev_cl (ea_cons (ev_var rfl) ea_nil) (use_validate_passes hT hA)) fun H1 e1 => ?_
    refine q_drop (ev_cl (ea_cons (ev_var rfl) (ea_cons (ev_var rfl) ea_nil)) (use_validate_beans (hT.mono e1) (hJ.mono e1) hp)) fun H2 e2 => ?_
    refine q_asg ev_c fun H3 e3 => ?_
    have e03 := (e1.trans e2).trans e3
    refine q_forP (evp_colours (ev_var rfl) (hJ.mono e03)) fun v H4 e4 ⟨l, hv, nl, hl⟩ => ?_
    subst hv
    have e04 := e03.trans e4
    refine q_forLn ev_c (sq_of hl) (fun i σ' H' => Ex H4 H' ∧ ∃ u, σ' = [some (.ref tb), some (.ref p), some (optV (((colsOf n k).take i).foldl (fun acc c => mul t acc (pw t (some c) (n c))) none)), u]) (fun H5 e5 => ⟨e5, none, rfl⟩) (fun i σ' H' hi h => sq_of (h.1 _ _ hl)) ?_ ?_
    · rintro i v σ' H' hv ⟨e', u, rfl⟩
      have hi : i < (colsOf n k).length := by
        have := (List.getElem?_eq_some_iff.mp hv).1
        simpa using this
      rw [nVs_get (colAt_get hi)] at hv
      obtain rfl : nV (colAt n k i) = v := Option.some.inj hv
      have hc := (colAt_ok hi).1
      have hT' := hT.mono (e04.trans e')
      have hJ' := hJ.mono (e04.trans e')
      refine s_asg (ev_cl (ea_cons (ev_var rfl) (ea_cons (ev_var rfl) (ea_cons (ev_cl (ea_cons (ev_var rfl) (ea_cons (ev_var rfl) (ea_cons (ev_jget (ev_var rfl) (ev_var rfl) hJ' hc) ea_nil))) (use_times hT' hA hc)) ea_nil)))
        (use_product hT' (fold_in (k := k) G (g := fun c => c) (fun c hc => hc) _ none (fun c hc' => (mem_cols.mp (List.mem_of_mem_take hc')).1) trivial) (pw_in G (show In k (some (colAt n k i)) from hc) _))) fun H5 e5 => ⟨e'.trans e5, some (nV (colAt n k i)), ?_⟩
      rw [take_foldl (colAt_get hi)]
      rfl
    · rintro σ' H' ⟨e', u, rfl⟩
      have hn : (nVs (colsOf n k)).length = (colsOf n k).length := by simp
      rw [hn, List.take_length, phi_cols (g := fun c => c)]
      exact s_ret (ev_var rfl) fun H5 e5 => hq H5 (e04.trans (e'.trans e5)))
def sp_last_group (a : Ad) : Sp := spP fun vs H R => ∃ tb p k t n, vs = [.ref tb, .ref p] ∧ TabAt a H tb k t ∧ JarN a H p k n ∧ 0 < tot k n ∧ R = fun v H' => ∃ q i, v = .ref q ∧ Phi (quo k t) (gn k t) n k = some i ∧ i < ng k t ∧ H q = none ∧ H' q = some (.lst (nVs ((grps k t).getD i [])))
theorem sc_last_group : FnScope ["table", "jar", "found", "small", "last", "colour"] ["table", "jar"] (defScope s_last_group) := ⟨rfl, rfl, rfl, by decide +kernel, rfl, by decide +kernel, by decide +kernel⟩
theorem q_par3 {D : Ends} {tz : TS} {σ : L2.St} {H : Hp} {t1 t2 t3 : TE} {i j l : Nat} {z : V} {R1 R2 : Hp → V → Hp → Prop} (h1 : EvP t1 σ H R1) (h2 : EvP t2 σ H R2) (h3 : Ev t3 σ H z)
    (k : ∀ x y H0 H1 H2 H3, Ex H H1 → Ex H1 H2 → Ex H2 H3 → R1 H x H1 → R2 H0 y H2 → tz D (((σ.set i (some x)).set j (some y)).set l (some z)) H3) : tSeq (tPar3 i j l (tCons t1 (tCons t2 (tCons t3 tNil)))) tz D σ H :=
  h1 H (Ex.refl H) _ fun x H1 e1 r1 => h2 H1 e1 _ fun y H2 e2 r2 => h3 H2 (e1.trans e2) _ fun H3 e3 => ⟨x, y, z, rfl, k x y H1 H1 H2 H3 e1 e2 e3 r1 r2⟩
theorem ok_last_group (T : Txt K mg a) : Df P w K mg base 12 a.f_last_group ["table", "jar"] (sp_last_group a) :=
  df_mk T.d_last_group sc_last_group (fun _ _ _ _ _ _ us hl => match us, hl with | [_, _], _ => rfl)
    (by rintro vs H Q E ⟨z, ⟨tb, p, k, t, n, rfl, _⟩, _⟩; rfl) (by
    rintro cdv A outer sh H vs Q E hr ⟨R, ⟨tb, p, k, t, n, rfl, hT, hJ, hp, rfl⟩, hq⟩
    have nd := sc_last_group.nd
    refine ⟨_, pss_cons (ps_expr (pe_cl (ok_validate_beans T) (hr.mono (by decide)) T.m_validate_beans (pa_cons (pv 0) (pa_cons (pv 1) pa_nil))))
      (pss_cons (ps_par3 (i := 2) (j := 3) (l := 4) rfl nd rfl rfl rfl (by decide) (by decide) (by decide) rfl rfl rfl (pa_cons (pe_cl (ok_groups T) (hr.mono (by decide)) T.m_groups (pa_cons (pv 0) pa_nil)) (pa_cons (pe_cl (ok_quotient T) hr T.m_quotient (pa_cons (pv 0) pa_nil)) (pa_cons pe_non pa_nil))) rfl)
      (pss_cons (ps_for PassesOwn.never rfl (pi_lst K (pe_mt0 (pv 1) T.k_Jar T.h_Jar_colours (ok_Jar_colours T) (hr.mono (by decide)))) (pg_name (i := 5) nd rfl (Or.inl rfl))
        (pss_one (ps_set (i := 4) nd rfl (Or.inl rfl) (pe_cl (ok_product T) (hr.mono (by decide)) T.m_product (pa_cons (pv 3) (pa_cons (pv 4) (pa_cons (pe_cl (ok_times T) (hr.mono (by decide)) T.m_times
          (pa_cons (pv 3) (pa_cons (pe_cl (ok_group_number T) (hr.mono (by decide)) T.m_group_number (pa_cons (pv 2) (pa_cons (pv 5) pa_nil))) (pa_cons (pe_gt T.u_Jar_getitem T.e_Jar (ok_Jar_getitem T) (hr.mono (by decide)) (pv 1) (pv 5)) pa_nil)))) pa_nil)))))))
      (pss_one (ps_ret (pe_ixl K (pv 2) (pv 4)))))), ?_⟩
    have G := hT.good
    have Qt := quot_ok G
    have G' := Qt.good G
    have A' := Qt.assoc G
    refine q_drop (ev_cl (ea_cons (ev_var rfl) (ea_cons (ev_var rfl) ea_nil)) (use_validate_beans hT hJ hp)) fun H1 e1 => ?_
    refine q_par3 (evp_cl (ea_cons (ev_var rfl) ea_nil) (use_groups (hT.mono e1))) (evp_cl (ea_cons (ev_var rfl) ea_nil) (use_quotient (hT.mono e1))) ev_c fun x y H0 H2 H3 H4 e2 e3 e4 r1 r2 => ?_
    obtain ⟨Hg, eg, f, rfl, _, hF2⟩ := r1
    obtain ⟨_, _, sm, rfl, hS3⟩ := r2
    have hFF := (intsF_back (e1.trans eg) hF2).mono grows_intsF (e3.trans e4)
    have hF4 := intsF_v hFF
    have hS4 := hS3.t.mono e4
    have e04 := ((e1.trans e2).trans e3).trans e4
    refine q_forP (evp_colours (ev_var rfl) (hJ.mono e04)) fun v H5 e5 ⟨l, hv, nl, hl⟩ => ?_
    subst hv
    have e05 := e04.trans e5
    refine q_forLn ev_c (sq_of hl) (fun i σ' H' => Ex H5 H' ∧ ∃ u, σ' = [some (.ref tb), some (.ref p), some (.ref f), some (.ref sm), some (optV (((colsOf n k).take i).foldl (fun acc c => mul (quo k t) acc (pw (quo k t) (some (gn k t c)) (n c))) none)), u]) (fun H5 e5 => ⟨e5, none, rfl⟩) (fun i σ' H' hi h => sq_of (h.1 _ _ hl)) ?_ ?_
    · rintro i v σ' H' hv ⟨e', u, rfl⟩
      have hi : i < (colsOf n k).length := by
        have := (List.getElem?_eq_some_iff.mp hv).1
        simpa using this
      rw [nVs_get (colAt_get hi)] at hv
      obtain rfl : nV (colAt n k i) = v := Option.some.inj hv
      have hc := (colAt_ok hi).1
      have hJ' := hJ.mono (e05.trans e')
      have hS' := hS4.mono (e5.trans e')
      have hF' := hF4.mono grows_ints (e5.trans e')
      have hg := gn_lt G hc
      refine s_asg (ev_cl (ea_cons (ev_var rfl) (ea_cons (ev_var rfl) (ea_cons (ev_cl (ea_cons (ev_var rfl) (ea_cons (ev_cl (ea_cons (ev_var rfl) (ea_cons (ev_var rfl) ea_nil)) (use_group_number hF' G hc)) (ea_cons (ev_jget (ev_var rfl) (ev_var rfl) hJ' hc) ea_nil))) (use_times hS' A' hg)) ea_nil)))
        (use_product hS' (fold_in (k := k) G' (g := gn k t) (fun c hc => gn_lt G hc) _ none (fun c hc' => (mem_cols.mp (List.mem_of_mem_take hc')).1) trivial) (pw_in G' (show In (ng k t) (some (gn k t (colAt n k i))) from hg) _))) fun H5 e5 => ⟨e'.trans e5, some (nV (colAt n k i)), ?_⟩
      rw [take_foldl (colAt_get hi)]
      rfl
    · rintro σ' H' ⟨e', u, rfl⟩
      have hn : (nVs (colsOf n k)).length = (colsOf n k).length := by simp
      rw [hn, List.take_length, phi_cols]
      obtain ⟨i, hi⟩ := phi_some (t := quo k t) (g := gn k t) (j := k) (tot_pos hp)
      have hin : In (ng k t) (Phi (quo k t) (gn k t) n k) := phi_in G' k fun c hc => gn_lt G hc
      rw [hi] at hin ⊢
      obtain ⟨ys, hys, ha⟩ := hFF.mono grows_intsF (e5.trans e')
      obtain ⟨y, hy, q, hqv, hqn, hq'⟩ := ha.2 i _ (grp_at hin)
      subst hqv
      exact s_ret (ev_ixl (i := i) (ev_var rfl) (ev_var rfl) hys hy) fun H6 e6 => hq _ H6 (e05.trans (e'.trans e6)) ⟨q, i, rfl, hi, hin, hqn, e6 _ _ hq'⟩)
theorem nmAt_app {ls : List Nat} {x i : Nat} (h : i < ls.length) : nmAt (ls ++ [x]) i = nmAt ls i := by
  unfold nmAt
  rw [List.getD_eq_getElem?_getD, List.getD_eq_getElem?_getD, List.getElem?_append_left h]
theorem nmAt_last {ls : List Nat} {x : Nat} : nmAt (ls ++ [x]) ls.length = x := by
  unfold nmAt
  rw [List.getD_eq_getElem?_getD, List.getElem?_append_right (Nat.le_refl _), Nat.sub_self]
  rfl
theorem nmAt_idx {ls : List Nat} {x : Nat} (h : x ∈ ls) : nmAt ls (ls.idxOf x) = x := by
  have hi := List.idxOf_lt_length_iff.mpr h
  unfold nmAt
  rw [List.getD_eq_getElem?_getD, List.getElem?_eq_getElem hi]
  exact List.getElem_idxOf hi
theorem ite_no {p q : Prop} (h : q) : if (if true = true then !true else true) = true then p else q := h
theorem ite_yes {p q : Prop} (h : p) : if (if true = true then !false else false) = true then p else q := h
theorem atI_neg {xs : List V} {v : V} (h : 0 < xs.length) (hv : xs[xs.length - 1]? = some v) : atI xs (-1) = some v := by
  unfold atI ixN
  rw [if_neg (by decide), if_pos (by omega)]
  have e : ((-1 : Int) + xs.length).toNat = xs.length - 1 := by omega
  rw [e]
  exact hv
theorem ev_index {σ : L2.St} {H : Hp} {ta te : TE} {p : Addr} {ls : List Nat} {x : Nat} (h : Ev ta σ H (.ref p)) (hp : H p = some (.lst (nVs ls))) (h2 : Ev te σ H (nV x)) (hx : x ∈ ls) : Ev (tBM K "list" (rIndex K) ta (tCons te tNil)) σ H (nV (ls.idxOf x)) := fun H1 e Q q =>
  h H1 e _ fun H2 e2 => ⟨Or.inl ⟨rfl, _, sq_of ((e.trans e2) _ _ hp)⟩, h2 H2 (e.trans e2) _ fun H3 e3 => ⟨p, nVs ls, nV x, ls.idxOf x, nV x, rfl, rfl, sq_of (((e.trans e2).trans e3) _ _ hp), rfl, flat_nVs _, nVs_get (by
    have hi := List.idxOf_lt_length_iff.mpr hx
    rw [List.getElem?_eq_getElem hi, List.getElem_idxOf hi]), by show ((x : Int) == (x : Int)) = true; simp, fun m z hm hz => by
      have hl : m < ls.length := Nat.lt_trans hm (List.idxOf_lt_length_iff.mpr hx)
      rw [nVs_get (List.getElem?_eq_getElem hl)] at hz
      obtain rfl := Option.some.inj hz
      show ((ls[m] : Int) == (x : Int)) = false
      have : ls[m] ≠ x := fun e => by
        have h3 := List.not_of_lt_findIdx (p := (· == x)) (xs := ls) hm
        rw [e] at h3
        simp at h3
      simp
      omega, q H3 (e2.trans e3)⟩⟩
/-- what powers gives -/
structure PowOk (k : Nat) (t : Nat → Nat → Nat) (c : Nat) (L s : Nat) : Prop where
  s1 : 1 ≤ s
  sL : s ≤ L
  Lk : L ≤ k
  eq : pw t (some c) (L + 1) = pw t (some c) s
def free (k : Nat) (ls : List Nat) : Nat := ((List.range k).filter fun v => decide (v ∉ ls)).length
theorem free_cons {k x : Nat} {ls : List Nat} (h : x < k) (hx : x ∉ ls) : free k (ls ++ [x]) < free k ls := by
  unfold free
  refine filter_len_lt _ _ _ (fun v hv => ?_) (List.mem_range.mpr h) (decide_eq_true hx) (by simp)
  simp at hv ⊢
  exact hv.1
def sp_powers (a : Ad) : Sp := spP fun vs H R => ∃ tb k t c, vs = [.ref tb, nV c] ∧ TabAt a H tb k t ∧ Assoc k t ∧ c < k ∧ R = fun v H' => ∃ q l s ls, v = .ref q ∧ H' q = some (.tup [.ref l, nV s]) ∧ H' l = some (.lst (nVs ls)) ∧ PowOk k t c ls.length s
theorem sc_powers : FnScope ["table", "colour", "found", "following"] ["table", "colour"] (defScope s_powers) := ⟨rfl, rfl, rfl, by decide +kernel, rfl, by decide +kernel, by decide +kernel⟩
theorem ok_powers (T : Txt K mg a) : Df P w K mg base 9 a.f_powers ["table", "colour"] (sp_powers a) :=
  df_mk T.d_powers sc_powers (fun _ _ _ _ _ _ us hl => match us, hl with | [_, _], _ => rfl)
    (by rintro vs H Q E ⟨z, ⟨tb, k, t, c, rfl, _⟩, _⟩; rfl) (by
    rintro cdv A outer sh H vs Q E hr ⟨R, ⟨tb, k, t, c, rfl, hT, hA, hc, rfl⟩, hq⟩
    have nd := sc_powers.nd
    refine ⟨_, pss_cons (ps_expr (pe_cl (ok_validate_passes T) hr T.m_validate_passes (pa_cons (pv 0) pa_nil)))
      (pss_cons (ps_expr (pe_mt (pv 0) T.k_Table T.h_Table_validate_colour (ok_Table_validate_colour T) (hr.mono (by decide)) (pa_cons (pv 1) pa_nil)))
      (pss_cons (ps_set (i := 2) nd rfl (Or.inl rfl) (pe_lst (pa_cons (pv 1) pa_nil)))
      (pss_cons (ps_whileW PassesOwn.never (ptw_cmp op_notIn_seq (pew_named (i := 3) nd rfl (Or.inl rfl) (pew_of (pe_gt T.u_Table_getitem T.e_Table (ok_Table_getitem T) (hr.mono (by decide)) (pv 0) (pe_tup (pa_cons (pe_ixl K (pv 2) (pe_un un_neg pe_int)) (pa_cons (pv 1) pa_nil)))))) (pv 2) rfl)
        (pss_one (ps_expr (pe_bm PySem.F.plainAttrs_list PySem.F.slot_list_append PySem.F.type_list_append mt_append (pv 2) (pa_cons (pv 3) pa_nil)))) pss_nil)
      (pss_one (ps_ret (pe_tup (pa_cons (pv 2) (pa_cons (pe_op op_add (pe_bm PySem.F.plainAttrs_list PySem.F.slot_list_index PySem.F.type_list_index mt_index (pv 2) (pa_cons (pv 3) pa_nil)) pe_int) pa_nil)))))))), ?_⟩
    have G := hT.good
    refine q_drop (ev_cl (ea_cons (ev_var rfl) ea_nil) (use_validate_passes hT hA)) fun H1 e1 => ?_
    have hT1 := hT.mono e1
    obtain ⟨dx, l, hp1, _⟩ := hT1.at_
    refine q_drop (v := .non) (ev_mt (ev_var rfl) hp1 rfl (ea_cons (ev_var rfl) ea_nil) (spv_use fun H2 e2 => ⟨tb, k, t, c, rfl, hT1.mono e2, hc, rfl⟩)) fun H2 e2 => ?_
    refine q_asgL (xs := nVs [c]) (el_lst (ea_cons (ev_var rfl) ea_nil) (by show 1 ≤ 100000; decide)) fun f H3 nf e3 hf => ?_
    have e03 := (e1.trans e2).trans e3
    have nfH : H f = none := fresh_back (e1.trans e2) nf
    have h1 : free k [c] < k := by
      have := free_cons (k := k) (ls := []) hc (by simp)
      have h2 : free k [] ≤ k := by
        unfold free
        have := List.length_filter_le (fun v => decide (v ∉ ([] : List Nat))) (List.range k)
        rw [List.length_range] at this
        exact this
      exact Nat.lt_of_lt_of_le this h2
    refine ⟨fun m σ' H' => Ex H H' ∧ ∃ ls u, σ' = [some (.ref tb), some (nV c), some (.ref f), u] ∧ H' f = some (.lst (nVs ls)) ∧ 0 < ls.length ∧ (∀ i, i < ls.length → pw t (some c) (i + 1) = some (nmAt ls i) ∧ nmAt ls i < k) ∧ free k ls = m ∧ ls.length + m ≤ k,
      ⟨free k [c], e03, [c], none, rfl, hf, by simp, fun i hi => ?_, rfl, by simp; omega⟩, ?_⟩
    · have : i = 0 := by simpa using hi
      subst this
      exact ⟨rfl, hc⟩
    rintro m σ' H' ⟨ex, ls, u, rfl, hl, hpos, hls, hfr, hlen⟩
    have hT' := hT.mono ex
    obtain ⟨hlast, hlk⟩ := hls (ls.length - 1) (by omega)
    have hL : ls.length - 1 + 1 = ls.length := by omega
    rw [hL] at hlast
    have h8 := G.le
    refine ev_tab (x := nmAt ls (ls.length - 1)) (y := c) (ev_var rfl) (ev_op (ev_var rfl) (ev_un (x := .int 1) ev_c ru_neg) (rv_ixL (sq_of hl) (atI_neg (by simpa using hpos) ?_))) (ev_var rfl) hT' hlk hc H' (Ex.refl H') _ fun H4 e4 => ?_
    · rw [show (nVs ls).length = ls.length by simp]
      exact nm_get (by omega)
    have hl4 := e4 _ _ hl
    have hpw : pw t (some c) (ls.length + 1) = some (t (nmAt ls (ls.length - 1)) c) := by
      show mul t (pw t (some c) ls.length) (some c) = _
      rw [hlast]
      rfl
    have hxk := G.lt _ _ hlk hc
    refine ⟨_, rfl, rv_niL (sq_of hl4) rfl (flat_nVs _) H4 (Ex.refl H4) _ fun H5 e5 => ⟨_, rfl, ?_⟩⟩
    rw [inV_nat]
    by_cases hin : t (nmAt ls (ls.length - 1)) c ∈ ls
    · rw [decide_eq_true hin]
      refine ite_no ?_
      dsimp only [tNext]
      have hl5 := e5 _ _ hl4
      have hidx : ls.idxOf (t (nmAt ls (ls.length - 1)) c) < ls.length := List.idxOf_lt_length_iff.mpr hin
      refine s_retU (xs := [.ref f, nV (ls.idxOf (t (nmAt ls (ls.length - 1)) c) + 1)]) (eu_tup (ea_cons (ev_var rfl) (ea_cons (ev_is (ev_op (ev_index (ev_var rfl) hl5 (ev_var rfl) hin) ev_c rv_I0) rfl) ea_nil)) (by show 2 ≤ 100000; decide)) fun q H6 nq e6 hq6 => ?_
      refine hq _ H6 (ex.trans ((e4.trans e5).trans e6)) ⟨q, f, _, ls, rfl, hq6, e6 _ _ hl5, by omega, by omega, by omega, ?_⟩
      rw [hpw, (hls _ hidx).1]
      rw [nmAt_idx hin]
    · rw [decide_eq_false hin]
      refine ite_yes ?_
      refine ⟨fun σ' H' => Ex H H' ∧ ∃ ls' u, σ' = [some (.ref tb), some (nV c), some (.ref f), u] ∧ H' f = some (.lst (nVs ls')) ∧ 0 < ls'.length ∧ (∀ i, i < ls'.length → pw t (some c) (i + 1) = some (nmAt ls' i) ∧ nmAt ls' i < k) ∧ free k ls' = free k (ls ++ [t (nmAt ls (ls.length - 1)) c]) ∧ ls'.length + free k (ls ++ [t (nmAt ls (ls.length - 1)) c]) ≤ k, fun σ2 H2 h => ⟨_, by rw [← hfr]; exact free_cons hxk hin, h⟩, ?_⟩
      refine s_app (e5 _ _ hl4) (ev_var rfl) (ev_var rfl) (by simp; omega) fun H6 e6 => ⟨(ex.trans ((e4.trans e5).trans e6)).mut nfH, ls ++ [t (nmAt ls (ls.length - 1)) c], _, rfl, ?_, by simp, fun i hi => ?_, rfl, ?_⟩
      · rw [upd_same]
        unfold nVs
        rw [List.map_append]
        rfl
      · rw [List.length_append] at hi
        rcases Nat.lt_or_ge i ls.length with h | h
        · have hn : nmAt (ls ++ [t (nmAt ls (ls.length - 1)) c]) i = nmAt ls i := nmAt_app h
          rw [hn]
          exact hls i h
        · have hi' : i = ls.length := by simp at hi; omega
          subst hi'
          have hn : nmAt (ls ++ [t (nmAt ls (ls.length - 1)) c]) ls.length = t (nmAt ls (ls.length - 1)) c := nmAt_last
          rw [hn]
          exact ⟨hpw, hxk⟩
      · have := free_cons hxk hin
        rw [List.length_append]
        simp only [List.length_cons, List.length_nil]
        omega)
theorem use_powers {H : Hp} {tb : Addr} {k c : Nat} {t : Nat → Nat → Nat} (hT : TabAt a H tb k t) (A : Assoc k t) (hc : c < k) : SpP (sp_powers a) [.ref tb, nV c] H (fun _ v H' => ∃ q l s ls, v = .ref q ∧ H' q = some (.tup [.ref l, nV s]) ∧ H' l = some (.lst (nVs ls)) ∧ PowOk k t c ls.length s) := spp_use fun H1 e => ⟨tb, k, t, c, rfl, hT.mono e, A, hc, rfl⟩
end
end Bj

namespace Bj
open PySem PySem.Spec
open PyProof.Rows L2 Evl
/-- a pool: what is left of the cell, the seed -/
def PoolAt (H : Hp) (p : Addr) : Prop := ∃ c s : Int, H p = some (.lst [.int c, .int s]) ∧ 0 ≤ c ∧ 0 ≤ s ∧ s < 2147483647
section
variable {P : Program} {w : World} {K : PySem.W.Frag} {mg : Str → Option Value} {base : Heap} {a : Ad}
def sp_law_pool (K : PySem.W.Frag) : Sp := spP fun vs H R => ∃ (l : Addr) (ns : List Int) (k : Nat), vs = [.ref l, nV k] ∧ SqL K H l (ns.map V.int) ∧ k ≤ 6 ∧ R = fun v H' => ∃ p, v = .ref p ∧ H p = none ∧ PoolAt H' p
theorem sc_law_pool : FnScope ["_law_script", "_law_k", "_law_cell", "_law_seed"] ["_law_script", "_law_k"] (defScope s_law_pool) := ⟨rfl, rfl, rfl, by decide +kernel, rfl, by decide +kernel, by decide +kernel⟩
theorem ok_law_pool (T : Txt K mg a) : Df P w K mg base 1 a.f_law_pool ["_law_script", "_law_k"] (sp_law_pool K) :=
  df_mk T.d_law_pool sc_law_pool (fun _ _ _ _ _ _ us hl => match us, hl with | [_, _], _ => rfl)
    (by rintro vs H Q E ⟨z, ⟨l, ns, k, rfl, _⟩, _⟩; rfl) (by
    rintro cdv A outer sh H vs Q E hr ⟨R, ⟨l, ns, k, rfl, hl, hk, rfl⟩, hq⟩
    have nd := sc_law_pool.nd
    refine ⟨_, pss_cons (ps_set (i := 2) nd rfl (Or.inl rfl) pe_int)
      (pss_cons (ps_if (pt_cmpR op_lt (pv 1) (pe_len T (pv 0)) (nomark _)) (pss_one (ps_set (i := 2) nd rfl (Or.inl rfl) (pe_ixl K (pv 0) (pv 1)))) pss_nil)
      (pss_cons (ps_set (i := 3) nd rfl (Or.inl rfl) (pe_op op_mod (pe_op op_pow (pe_op op_add (pe_op op_add (pe_op op_mod (pv 2) pe_int) (pe_op op_mul (pe_op op_mul pe_int (pv 1)) (pv 1))) pe_int) pe_int) pe_int))
      (pss_cons (ps_if (pt_cmpR op_lt (pv 2) (pe_op op_pow pe_int pe_int) (nomark _)) (pss_one (ps_set (i := 2) nd rfl (Or.inl rfl) pe_int)) pss_nil)
      (pss_one (ps_ret (pe_lst (pa_cons (pv 2) (pa_cons (pv 3) pa_nil)))))))), ?_⟩
    have hlen : (ns.map V.int).length = ns.length := by simp
    refine q_asg ev_c fun H1 e1 => ?_
    have hl1 := ex_l e1 hl
    let c0 : Int := if k < ns.length then ns.getD k 0 else 0
    refine q_ifAsg (b := decide (k < ns.length)) (v := .int c0) (et_is (et_test (ev_op (ev_var rfl) (ev_lenS (ev_var rfl) (.inl hl1)) rv_I0)) ?_) (fun hb => ?_) (fun hb => ?_) fun H2 e2 => ?_
    · rw [decide_eq_decide, hlen]
      omega
    · have hk' := of_decide_eq_true hb
      refine ev_op (ev_var rfl) (ev_var rfl) (rv_ixL hl1 (atI_nat (j := k) ?_))
      rw [List.getElem?_map, List.getElem?_eq_getElem hk']
      simp only [c0, if_pos hk', List.getD_eq_getElem?_getD, List.getElem?_eq_getElem hk']
      rfl
    · simp only [c0, if_neg (of_decide_eq_false hb)]
      rfl
    have hkk : (0 : Int) ≤ (k : Int) ∧ (k : Int) ≤ 6 := ⟨by omega, by omega⟩
    have h7 : (7919 : Int) * k ≤ 47514 := by omega
    have hm1 : (7919 : Int) * k * k ≤ 47514 * 6 := Int.mul_le_mul h7 hkk.2 hkk.1 (by decide)
    have hm0 : (0 : Int) ≤ 7919 * k * k := Int.mul_nonneg (by omega) hkk.1
    have he0 := Int.emod_nonneg c0 (show (2147483629 : Int) ≠ 0 by decide)
    have he1 := Int.emod_lt_of_pos c0 (show (0 : Int) < 2147483629 by decide)
    refine q_asg (v := .int ((c0 % 2147483629 + 7919 * k * k + 31) ^ (3 : Int).toNat % 2147483647)) (ev_op (ev_op (ev_op (ev_op (ev_op (ev_var rfl) ev_c (rv_I (by show (0 : Int) < 2147483629; decide))) (ev_op (ev_op ev_c (ev_var rfl) (rv_I (.inl (by decide)))) (ev_var rfl) (rv_I (.inl ⟨by omega, by omega⟩))) rv_I0) ev_c rv_I0) ev_c (rv_I ⟨by decide, by decide, by omega⟩)) ev_c (rv_I (by show (0 : Int) < 2147483647; decide))) fun H3 e3 => ?_
    generalize hs : (c0 % 2147483629 + 7919 * k * k + 31) ^ (3 : Int).toNat % 2147483647 = s0
    have hs0 : 0 ≤ s0 := by rw [← hs]; exact Int.emod_nonneg _ (by decide)
    have hs1 : s0 < 2147483647 := by rw [← hs]; exact Int.emod_lt_of_pos _ (by decide)
    refine q_ifAsg (b := decide (c0 < 10 ^ 18)) (v := .int (if c0 < 10 ^ 18 then 0 else c0)) (et_test (ev_op (ev_var rfl) (ev_op ev_c ev_c (rv_I ⟨by decide, by decide, by decide⟩)) rv_I0)) (fun hb => ?_) (fun hb => ?_) fun H4 e4 => ?_
    · rw [if_pos (of_decide_eq_true hb)]
      exact ev_c
    · rw [if_neg (of_decide_eq_false hb)]
      rfl
    have e04 := (e1.trans e2).trans (e3.trans e4)
    refine s_retL (el_lst (ea_cons (ev_var rfl) (ea_cons (ev_var rfl) ea_nil)) (by show 2 ≤ 100000; decide)) fun p H5 np e5 h5 => hq _ H5 (e04.trans e5) ⟨p, rfl, fresh_back e04 np, _, _, h5, ?_, hs0, hs1⟩
    split
    · exact Int.le_refl _
    · omega)
def sp_law_draw : Sp := fun vs H Q _ => ∃ p m, vs = [.ref p, nV m] ∧ PoolAt H p ∧ 0 < m ∧ m < 2 ^ 200 ∧ ∀ d H', d < m → Off p H H' → PoolAt H' p → Q (nV d) H'
theorem sc_law_draw : FnScope ["_law_pool_here", "_law_many", "_law_digit"] ["_law_pool_here", "_law_many"] (defScope s_law_draw) := ⟨rfl, rfl, rfl, by decide +kernel, rfl, by decide +kernel, by decide +kernel⟩
theorem ok_law_draw (T : Txt K mg a) : Df P w K mg base 1 a.f_law_draw ["_law_pool_here", "_law_many"] sp_law_draw :=
  df_mk T.d_law_draw sc_law_draw (fun _ _ _ _ _ _ us hl => match us, hl with | [_, _], _ => rfl)
    (by rintro vs H Q E ⟨p, m, rfl, _⟩; rfl) (by
    rintro cdv A outer sh H vs Q E hr ⟨p, m, rfl, ⟨c, s, hp, hc, hs0, hs1⟩, hm, hmb, hq⟩
    have nd := sc_law_draw.nd
    refine ⟨_, pss_cons (ps_if (pt_cmpR op_gt (pe_ixl K (pv 0) pe_int) pe_int (nomark _)) (pss_cons (ps_set (i := 2) nd rfl (Or.inl rfl) (pe_op op_mod (pe_ixl K (pv 0) pe_int) (pv 1)))
        (pss_cons (ps_asg (pe_op op_fdivW (pe_ixl K (pv 0) pe_int) (pv 1)) (pg_sub (pv 0) pe_int set_list)) (pss_one (ps_ret (pv 2))))) pss_nil)
      (pss_cons (ps_asg (pe_op op_mod (pe_op op_add (pe_op op_mul (pe_ixl K (pv 0) pe_int) pe_int) pe_int) pe_int) (pg_sub (pv 0) pe_int set_list))
      (pss_one (ps_ret (pe_op op_mod (pe_op op_fdiv (pe_op op_mod (pe_op op_mul (pe_ixl K (pv 0) pe_int) (pe_ixl K (pv 0) pe_int)) pe_int) pe_int) (pv 1))))), ?_⟩
    have hm' : (0 : Int) < (m : Int) := by omega
    have g0 : ∀ (σ : L2.St) H1 (c s : Int), H1 p = some (.lst [.int c, .int s]) → σ[0]? = some (some (.ref p)) → Ev (tOp (rIxL K) (tVar 0) (tC (.int 0))) σ H1 (.int c) := fun σ H1 c s h h2 => ev_ixl (i := 0) (ev_var h2) ev_c h rfl
    have g1 : ∀ (σ : L2.St) H1 (c s : Int), H1 p = some (.lst [.int c, .int s]) → σ[0]? = some (some (.ref p)) → Ev (tOp (rIxL K) (tVar 0) (tC (.int 1))) σ H1 (.int s) := fun σ H1 c s h h2 => ev_ixl (i := 1) (ev_var h2) ev_c h rfl
    refine q_when (et_test (ev_op (g0 _ H c s hp rfl) ev_c rv_I0)) (fun hb H1 e1 => ?_) (fun hb H1 e1 => ?_)
    · refine q_asg (ev_op (g0 _ H1 c s (e1 _ _ hp) rfl) (ev_var rfl) (rv_I (show (0 : Int) < (m : Int) from hm'))) fun H2 e2 => ?_
      have hp2 := e2 _ _ (e1 _ _ hp)
      refine q_setL (j := 0) hp2 (ev_op (g0 _ H2 c s hp2 rfl) (ev_var rfl) (rv_I (wide_div (b := 200) hm' (by simpa using hmb) (by decide) (by decide)))) (ev_var rfl) ev_c (by show 0 < 2; decide) fun H3 e3 => ?_
      have hd0 := Int.emod_nonneg c (show (m : Int) ≠ 0 by omega)
      have hd1 := Int.emod_lt_of_pos c hm'
      obtain ⟨d, hd⟩ : ∃ d : Nat, (d : Int) = c % (m : Int) := ⟨(c % (m : Int)).toNat, by omega⟩
      refine s_ret (v := nV d) (ev_var (by show some (some (V.int (c % (m : Int)))) = _; rw [← hd])) fun H4 e4 => hq d H4 (by omega) ((off_of ((e1.trans e2).trans e3)).trans (off_upd.trans (off_of e4))) ⟨c / m, s, e4 _ _ upd_same, Int.ediv_nonneg hc (by omega), hs0, hs1⟩
    · have hp1 := e1 _ _ hp
      refine q_setL (j := 1) (v := .int ((s * 48271 + 11) % 2147483647)) hp1 (ev_op (ev_op (ev_op (g1 _ H1 c s hp1 rfl) ev_c (rv_I (.inr (by decide)))) ev_c rv_I0) ev_c (rv_I (by show (0 : Int) < 2147483647; decide))) (ev_var rfl) ev_c (by show 1 < 2; decide) fun H2 e2 => ?_
      generalize hs : (s * 48271 + 11) % 2147483647 = s'
      have h0 : 0 ≤ s' := by rw [← hs]; exact Int.emod_nonneg _ (by decide)
      have h1 : s' < 2147483647 := by rw [← hs]; exact Int.emod_lt_of_pos _ (by decide)
      have hp3 : upd H2 p (.lst ([V.int c, V.int s].set 1 (.int s'))) p = some (.lst [.int c, .int s']) := upd_same
      have hd0 := Int.emod_nonneg (s' * s' % 2147483629 / 64) (show (m : Int) ≠ 0 by omega)
      have hd1 := Int.emod_lt_of_pos (s' * s' % 2147483629 / 64) hm'
      obtain ⟨d, hd⟩ : ∃ d : Nat, (d : Int) = s' * s' % 2147483629 / 64 % (m : Int) := ⟨(s' * s' % 2147483629 / 64 % (m : Int)).toNat, by omega⟩
      refine s_ret (v := nV d) (ev_is (ev_op (ev_op (ev_op (ev_op (g1 _ _ c s' hp3 rfl) (g1 _ _ c s' hp3 rfl) (rv_I (.inl ⟨by omega, by omega⟩))) ev_c (rv_I (by show (0 : Int) < 2147483629; decide))) ev_c (rv_I ⟨by decide, by decide⟩)) (ev_var rfl) (rv_I (show (0 : Int) < (m : Int) from hm'))) (by show V.int _ = V.int _; rw [hd])) fun H4 e4 => hq d H4 (by omega) ((off_of (e1.trans e2)).trans (off_upd.trans (off_of e4))) ⟨c, s', e4 _ _ hp3, hc, h0, h1⟩)
/-- items[draw(pool, len(items))] -/
def sp_law_choose : Sp := fun vs H Q _ => ∃ p l xs, vs = [.ref p, .ref l] ∧ PoolAt H p ∧ p ≠ l ∧ H l = some (.lst xs) ∧ 0 < xs.length ∧ xs.length < 1000 ∧ ∀ (i : Nat) v H', xs[i]? = some v → Off p H H' → PoolAt H' p → Q v H'
theorem sc_law_choose : FnScope ["_law_pool_here", "_law_items"] ["_law_pool_here", "_law_items"] (defScope s_law_choose) := ⟨rfl, rfl, rfl, by decide +kernel, rfl, by decide +kernel, by decide +kernel⟩
theorem ok_law_choose (T : Txt K mg a) : Df P w K mg base 2 a.f_law_choose ["_law_pool_here", "_law_items"] sp_law_choose :=
  df_mk T.d_law_choose sc_law_choose (fun _ _ _ _ _ _ us hl => match us, hl with | [_, _], _ => rfl)
    (by rintro vs H Q E ⟨p, l, xs, rfl, _⟩; rfl) (by
    rintro cdv A outer sh H vs Q E hr ⟨p, l, xs, rfl, hp, hne, hl, h0, h1, hq⟩
    refine ⟨_, pss_one (ps_ret (pe_ixl K (pv 1) (pe_cl (ok_law_draw T) hr T.m_law_draw (pa_cons (pv 0) (pa_cons (pe_len T (pv 1)) pa_nil))))), ?_⟩
    refine ⟨_, rfl, _, rfl, ev_lenS (ev_var rfl) (.inl (sq_of hl)) H (Ex.refl H) _ fun H1 e1 => ?_⟩
    obtain ⟨c, s, hps, hcs⟩ := hp
    refine ⟨p, xs.length, rfl, ⟨c, s, e1 _ _ hps, hcs⟩, h0, Nat.lt_trans h1 (by decide), fun d H' hd of hp' => ?_⟩
    have hl' := of _ _ hne.symm (e1 _ _ hl)
    exact ⟨l, xs, (d : Int), xs[d], rfl, rfl, sq_of hl', atI_nat (List.getElem?_eq_getElem hd), hq d _ H' (List.getElem?_eq_getElem hd) ((off_of e1).trans of) hp'⟩)
end
end Bj

namespace Bj
open PySem PySem.Spec
open PyProof.Rows L2 Evl
/-- a comprehension over a range, by a word of one's own -/
theorem lc_rng {te : TE} {ta : TA} {j n : Nat} {vs : List Nat} {σ : L2.St} {H : Hp} {Q : VK} (h : EvA ta σ H [nV n]) (hn : n < 100000) (hw : ∀ v, wipe ((wipe σ vs).set j (some v)) vs = wipe σ vs) (Pv : Addr → Nat → List V → Hp → Prop) (h0 : ∀ D H1, Ex H H1 → H1 D = none → Pv D 0 [] (upd H1 D (.lst [])))
    (hs : ∀ D i zs H1, i < n → Pv D i zs H1 → H1 D = some (.lst zs) → te ((wipe σ vs).set j (some (nV i))) H1 fun y H2 => ∃ l, H2 D = some (.lst l) ∧ l.length < sizeLine ∧ ∃ zs', upd H2 D (.lst (l ++ [y])) D = some (.lst zs') ∧ Pv D (i + 1) zs' (upd H2 D (.lst (l ++ [y]))))
    (hd : ∀ D zs H1, Pv D n zs H1 → H1 D = some (.lst zs) → Q (.ref D) H1) : tLcB (iRng1 ta) (gName j) tYes (fun D => bEmit D te) vs σ H Q := by
  refine wi_range h hn H _ (Ex.refl H) fun H1 e1 D hD => ⟨fun i m H' => m = n - i ∧ i ≤ n ∧ ∃ zs, H' D = some (.lst zs) ∧ Pv D i zs H', ⟨n, rfl, Nat.zero_le _, [], upd_same, h0 D H1 e1 hD⟩, ?_⟩
  rintro i m H' ⟨rfl, hi, zs, hz, hp⟩
  have G : Goes (Itr 0 n) n (gName j) (wipe σ vs) (fun i => (wipe σ vs).set j (some (nV i))) H' := goes_range
  by_cases hlt : i < n
  · refine .inr ⟨G.go i H' hlt (Ex.refl _), fun H3 => ∃ zs, H3 D = some (.lst zs) ∧ Pv D (i + 1) zs H3, fun H2 p => ⟨n - (i + 1), by omega, rfl, hlt, p⟩, fun x H'' y => ?_⟩
    obtain ⟨_, fy⟩ := G.yld i x H' H'' hlt (Ex.refl _) y
    obtain ⟨rfl, _⟩ := y
    exact fy _ ⟨hw _, hs D i zs _ hlt hp hz⟩
  · have : i = n := by omega
    subst this
    exact .inl ⟨G.stop H' (Ex.refl _), hd D zs H' hp hz⟩
theorem q_asgR {te : TE} {tz : TS} {D : Ends} {σ : L2.St} {H : Hp} {i : Nat} (h : te σ H fun v H1 => tz D (σ.set i (some v)) H1) : tSeq (tAsg te (gName i)) tz D σ H := h
theorem s_asgR {te : TE} {D : Ends} {σ : L2.St} {H : Hp} {i : Nat} (h : te σ H fun v H1 => D.nx (σ.set i (some v)) H1) : tAsg te (gName i) D σ H := h
theorem s_retR {te : TE} {D : Ends} {σ : L2.St} {H : Hp} (h : te σ H D.rt) : tRet te D σ H := h
/-- rows that stand apart -/
structure RowsX (H0 H : Hp) (p l : Addr) (k : Nat) (t : Nat → Nat → Nat) (q : Nat → Addr) : Prop where
  off : Off p H0 H
  nl : H0 l = none
  lp : l ≠ p
  at_ : H l = some (.lst ((List.range k).map fun i => .ref (q i)))
  row : ∀ i, i < k → q i ≠ l ∧ q i ≠ p ∧ H0 (q i) = none ∧ H (q i) = some (.lst (nF k (t i)))
  inj : ∀ i j, i < k → j < k → q i = q j → i = j
theorem rx_get {k i : Nat} {q : Nat → Addr} (h : i < k) : ((List.range k).map fun i => V.ref (q i))[i]? = some (.ref (q i)) := by
  rw [List.getElem?_map, List.getElem?_range h]
  rfl
theorem RowsX.mono {H0 H H' : Hp} {p l : Addr} {k : Nat} {t : Nat → Nat → Nat} {q : Nat → Addr} (R : RowsX H0 H p l k t q) (of : Off p H H') : RowsX H0 H' p l k t q := ⟨R.off.trans of, R.nl, R.lp, of _ _ R.lp R.at_, fun i hi => let ⟨h1, h2, h3, h4⟩ := R.row i hi; ⟨h1, h2, h3, of _ _ h2 h4⟩, R.inj⟩
theorem RowsX.set {H0 H : Hp} {p l : Addr} {k : Nat} {t : Nat → Nat → Nat} {q : Nat → Addr} (R : RowsX H0 H p l k t q) {a b v : Nat} (ha : a < k) (hb : b < k) : RowsX H0 (upd H (q a) (.lst ((nF k (t a)).set b (nV v)))) p l k (fun i j => if i = a ∧ j = b then v else t i j) q := by
  obtain ⟨r1, r2, r3, r4⟩ := R.row a ha
  refine ⟨fun x o n h => by rw [upd_ne (ne_of_none h r3)]; exact R.off x o n h, R.nl, R.lp, by rw [upd_ne r1.symm]; exact R.at_, fun i hi => ?_, R.inj⟩
  obtain ⟨h1, h2, h3, h4⟩ := R.row i hi
  refine ⟨h1, h2, h3, ?_⟩
  by_cases e : i = a
  · subst e
    rw [upd_same, nF_set hb]
    congr 2
    refine nF_congr fun j hj => ?_
    by_cases e2 : j = b <;> simp [e2]
  · rw [upd_ne (fun z => e (R.inj _ _ hi ha z)), h4]
    congr 2
    refine nF_congr fun j hj => ?_
    simp [e]
theorem RowsX.rows {H0 H : Hp} {p l : Addr} {k : Nat} {t : Nat → Nat → Nat} {q : Nat → Addr} (R : RowsX H0 H p l k t q) : RowsAt H l k t := rows_mk R.at_ (by simp) fun i hi => ⟨q i, rx_get hi, (R.row i hi).2.2.2⟩
section
variable {P : Program} {w : World} {K : PySem.W.Frag} {mg : Str → Option Value} {base : Heap} {a : Ad}
def sp_law_rows : Sp := fun vs H Q _ => ∃ p k, vs = [.ref p, nV k] ∧ PoolAt H p ∧ 1 ≤ k ∧ k ≤ 8 ∧ ∀ l t H', Good k t → Off p H H' → PoolAt H' p → RowsAt H' l k t → Q (.ref l) H'
theorem sc_law_rows : FnScope ["_law_pool_here", "_law_size", "_law_rows_here", "_law_a", "_law_b", "_law_colour"] ["_law_pool_here", "_law_size"] (defScope s_law_rows) := ⟨rfl, rfl, rfl, by decide +kernel, rfl, by decide +kernel, by decide +kernel⟩
theorem ok_law_rows (T : Txt K mg a) : Df P w K mg base 2 a.f_law_rows ["_law_pool_here", "_law_size"] sp_law_rows :=
  df_mk T.d_law_rows sc_law_rows (fun _ _ _ _ _ _ us hl => match us, hl with | [_, _], _ => rfl)
    (by rintro vs H Q E ⟨p, k, rfl, _⟩; rfl) (by
    rintro cdv A outer sh H vs Q E hr ⟨p, k, rfl, hp, h1, h8, hq⟩
    have nd := sc_law_rows.nd
    refine ⟨_, pss_cons (ps_c1 (i := 2) (own := [("_law_a", 3)]) (g := gName 3) (tt := tYes) rfl nd rfl rfl (sw_true rfl rfl rfl (by decide +kernel)) (pi_rng T (pv 1))
        (blkOk_by (N := ["_law_pool_here", "_law_size", "_law_rows_here", "_law_a", "_law_b", "_law_colour"]) (sc := defScope s_law_rows) (by decide +kernel)) (fun _ _ _ _ _ => pg_name (i := 3) nd rfl (Or.inl rfl)) (fun _ _ _ _ _ => pts_nil)
        (fun _ _ _ _ _ => pe_op op_rep (pe_lst (pa_cons pe_int pa_nil)) (pv 1)))
      (pss_cons (ps_for PassesOwn.never rfl (pi_rng T (pv 1)) (pg_name (i := 3) nd rfl (Or.inl rfl)) (pss_one (ps_for PassesOwn.never rfl (pi_range2 (by rfl) T.b_range (pa_cons (pv 3) (pa_cons (pv 1) pa_nil))) (pg_name (i := 4) nd rfl (Or.inl rfl))
        (pss_cons (ps_set (i := 5) nd rfl (Or.inl rfl) (pe_cl (ok_law_draw T) hr T.m_law_draw (pa_cons (pv 0) (pa_cons (pv 1) pa_nil))))
        (pss_cons (ps_asg (pv 5) (pg_sub (pe_ixl K (pv 2) (pv 3)) (pv 4) set_list))
        (pss_one (ps_asg (pv 5) (pg_sub (pe_ixl K (pv 2) (pv 4)) (pv 3) set_list))))))))
      (pss_one (ps_ret (pv 2)))), ?_⟩
    obtain ⟨c, s, hps, hcs⟩ := hp
    refine q_asgR (lc_rng (n := k) (ea_cons (ev_var rfl) ea_nil) (by omega) (fun v => rfl) (fun D i zs H1 => H D = none ∧ Ex H H1 ∧ ∃ q : Nat → Addr, zs = (List.range i).map (fun j => V.ref (q j)) ∧ ∀ j, j < i → q j ≠ D ∧ H (q j) = none ∧ H1 (q j) = some (.lst (nF k fun _ => 0)) ∧ ∀ m, m < j → q m ≠ q j)
      (fun D H1 e1 hD => ⟨fresh_back e1 hD, e1.trans (Ex.new hD), fun _ => 0, rfl, fun j hj => by omega⟩) (fun D i zs H1 hi ⟨hD, e1, q, hz, hq'⟩ hl => ?_) (fun l zs H1 ⟨hl0, e1, q, hz, hq'⟩ hl => ?_))
    · refine el_rep ev_c (ev_var rfl) (by omega) H1 (Ex.refl H1) _ fun r H2 nr e2 hr2 => ?_
      obtain ⟨q', q1, q2⟩ : ∃ q' : Nat → Addr, q' i = r ∧ ∀ j, j ≠ i → q' j = q j := ⟨fun j => if j = i then r else q j, if_pos rfl, fun j h => if_neg h⟩
      have nrD : r ≠ D := fun e => by subst e; rw [hl] at nr; cases nr
      have hrep : List.replicate k (V.int 0) = nF k fun _ => 0 := nF_ext (by simp) fun i hi => by rw [List.getElem?_replicate, if_pos hi]; rfl
      refine ⟨zs, e2 _ _ hl, sz_lt (by rw [hz]; simp; omega), zs ++ [.ref r], upd_same, hD, (e1.trans e2).mut hD, q', ?_, fun j hj => ?_⟩
      · rw [hz, List.range_succ, List.map_append]
        congr 1
        · refine List.map_congr_left fun j hj => ?_
          have := List.mem_range.mp hj
          rw [q2 j (by omega)]
        · rw [List.map_cons, q1]
          rfl
      · by_cases e : j = i
        · subst e
          rw [q1]
          refine ⟨nrD, fresh_back e1 nr, by rw [upd_ne nrD, hr2, hrep], fun m hm => ?_⟩
          rw [q2 m (by omega)]
          obtain ⟨_, _, h3, _⟩ := hq' m hm
          exact ne_of_none h3 nr
        · obtain ⟨g1, g2, g3, g4⟩ := hq' j (by omega)
          rw [q2 j e]
          refine ⟨g1, g2, by rw [upd_ne g1]; exact e2 _ _ g3, fun m hm => ?_⟩
          rw [q2 m (by omega)]
          exact g4 m hm
    · have nlp : l ≠ p := (ne_of_none hps hl0).symm
      have X0 : RowsX H H1 p l k (fun _ _ => 0) q := ⟨off_of e1, hl0, nlp, by rw [hl, hz], fun i hi => ⟨(hq' i hi).1, (ne_of_none hps (hq' i hi).2.1).symm, (hq' i hi).2.1, (hq' i hi).2.2.1⟩, fun i j hi hj e => by
        rcases Nat.lt_trichotomy i j with h | h | h
        · exact absurd e ((hq' j hj).2.2.2 i h)
        · exact h
        · exact absurd e.symm ((hq' i hi).2.2.2 j h)⟩
      have G0 : Good k (fun _ _ => 0) := ⟨h1, h8, fun _ _ _ _ => h1, fun _ _ _ _ => rfl⟩
      let Inv : L2.St → Hp → Prop := fun σ' H' => (∃ x y z, σ' = [some (.ref p), some (nV k), some (.ref l), x, y, z]) ∧ PoolAt H' p ∧ ∃ t, RowsX H H' p l k t q ∧ Good k t
      refine q_forR1 (ea_cons (ev_var rfl) ea_nil) (by omega) (fun _ => Inv) (fun H2 e2 => ⟨⟨none, none, none, rfl⟩, ⟨c, s, e2 _ _ (e1 _ _ hps), hcs⟩, _, X0.mono (off_of e2), G0⟩) ?_ ?_
      · rintro i σ' H' hi ⟨⟨x, y, z, rfl⟩, hp', t, X, G⟩
        have hik : i < k := by omega
        refine s_forR2 (lo := (i : Int)) (n := (k : Int)) (ea_cons (ev_var rfl) (ea_cons (ev_var rfl) ea_nil)) (by omega) (fun _ σ' H' => (∃ y z, σ' = [some (.ref p), some (nV k), some (.ref l), some (nV i), y, z]) ∧ PoolAt H' p ∧ ∃ t, RowsX H H' p l k t q ∧ Good k t) (fun H2 e2 => ?_) ?_ ?_
        · obtain ⟨c', s', hps', hcs'⟩ := hp'
          exact ⟨⟨_, _, rfl⟩, ⟨c', s', e2 _ _ hps', hcs'⟩, t, X.mono (off_of e2), G⟩
        · rintro d σ2 H2 hd ⟨⟨y, z, rfl⟩, hp2, t, X, G⟩
          have hjk : i + d < k := by omega
          refine ⟨_, rfl, _, rfl, p, k, rfl, hp2, h1, Nat.lt_of_le_of_lt h8 (by decide), fun v H3 hv of3 hp3 => ?_⟩
          have X3 := X.mono of3
          have hrow := X3.row i hik
          have nb : (i : Int) + (d : Int) = ((i + d : Nat) : Int) := by omega
          refine q_setL (l := q i) (xs := nF k (t i)) (j := i + d) (v := nV v) hrow.2.2.2 (ev_var rfl) (ev_ixl (i := i) (ev_var rfl) (ev_var rfl) X3.at_ (rx_get hik)) (ev_var (by show some (some (V.int ((i : Int) + (d : Int)))) = _; rw [nb])) (by rw [nF_len]; exact hjk) fun H4 e4 => ?_
          have X4 : RowsX H (upd H4 (q i) (.lst ((nF k (t i)).set (i + d) (nV v)))) p l k _ q := (X3.mono (off_of e4)).set hik hjk
          have hrow2 := X4.row (i + d) hjk
          refine s_setL (l := q (i + d)) (j := i) (v := nV v) hrow2.2.2.2 (ev_var rfl) (ev_ixl (i := i + d) (ev_var rfl) (ev_var (by show some (some (V.int ((i : Int) + (d : Int)))) = _; rw [nb])) X4.at_ (rx_get hjk)) (ev_var rfl) (by rw [nF_len]; exact hik) fun H5 e5 => ?_
          have X5 := (X4.mono (off_of e5)).set (v := v) hjk hik
          refine ⟨⟨_, _, rfl⟩, ?_, _, X5, h1, h8, fun x y hx hy => ?_, fun x y hx hy => ?_⟩
          · obtain ⟨c', s', hps', hcs'⟩ := hp3
            exact ⟨c', s', by rw [upd_ne hrow2.2.1.symm]; exact e5 _ _ (by rw [upd_ne hrow.2.1.symm]; exact e4 _ _ hps'), hcs'⟩
          · have := G.lt x y hx hy
            show (if x = i + d ∧ y = i then v else if x = i ∧ y = i + d then v else t x y) < k
            split
            · exact hv
            · split
              · exact hv
              · exact this
          · have := G.sym x y hx hy
            show (if x = i + d ∧ y = i then v else if x = i ∧ y = i + d then v else t x y) = (if y = i + d ∧ x = i then v else if y = i ∧ x = i + d then v else t y x)
            rw [this]
            by_cases c1 : x = i + d ∧ y = i
            · rw [if_pos c1]
              by_cases c3 : y = i + d ∧ x = i
              · rw [if_pos c3]
              · rw [if_neg c3, if_pos ⟨c1.2, c1.1⟩]
            · rw [if_neg c1]
              by_cases c2 : x = i ∧ y = i + d
              · rw [if_pos c2, if_pos ⟨c2.2, c2.1⟩]
              · rw [if_neg c2, if_neg (fun h => c2 ⟨h.2, h.1⟩), if_neg (fun h => c1 ⟨h.2, h.1⟩)]
        · rintro σ2 H2 ⟨⟨y, z, rfl⟩, hp2, t, X, G⟩
          exact ⟨⟨_, _, _, rfl⟩, hp2, t, X, G⟩
      · rintro σ' H' ⟨⟨x, y, z, rfl⟩, hp', t, X, G⟩
        refine s_ret (ev_var rfl) fun H2 e2 => hq l t H2 G (X.off.trans (off_of e2)) ?_ (X.rows.mono e2)
        obtain ⟨c', s', hps', hcs'⟩ := hp'
        exact ⟨c', s', e2 _ _ hps', hcs'⟩)
end
end Bj

namespace Bj
open PySem PySem.Spec
open PyProof.Rows L2 Evl
/-- a pool at p: the same after what only changes p -/
theorem PoolAt.mono {H H' : Hp} {p : Addr} (h : PoolAt H p) (e : Ex H H') : PoolAt H' p := let ⟨c, s, h1, h2⟩ := h; ⟨c, s, e _ _ h1, h2⟩
section
variable {P : Program} {w : World} {K : PySem.W.Frag} {mg : Str → Option Value} {base : Heap} {a : Ad}
def sp_law_kind : Sp := fun vs H Q _ => ∃ p k, vs = [.ref p, nV k] ∧ PoolAt H p ∧ 2 ≤ k ∧ k ≤ 8 ∧ ∀ l t H', Good k t → Off p H H' → PoolAt H' p → RowsAt H' l k t → Q (.ref l) H'
theorem sc_law_kind : FnScope ["_law_pool_here", "_law_size", "_law_way", "_law_a", "_law_b"] ["_law_pool_here", "_law_size"] (defScope s_law_kind) := ⟨rfl, rfl, rfl, by decide +kernel, rfl, by decide +kernel, by decide +kernel⟩
theorem kind_ret {te : TE} {σ : L2.St} {H : Hp} {k : Nat} {f : Nat → Nat → Nat} {p way : Option V} (hσ : σ = [p, some (nV k), way, none, none]) (hk : k ≤ 8) (h : ∀ i j H1, Ex H H1 → i < k → j < k → Ev te [p, some (nV k), way, some (nV i), some (nV j)] H1 (nV (f i j))) :
    EvP (tLcB (iRng1 (tCons (tVar 1) tNil)) (gName 3) tYes (fun D => bEmit D (tLcB (iRng1 (tCons (tVar 1) tNil)) (gName 4) tYes (fun D => bEmit D te) [4])) [3]) σ H (fun H1 v H2 => ∃ l, v = .ref l ∧ RowsAt H2 l k f) := by
  subst hσ
  have ho : outs (fun _ => true) (fun i => [(List.range k).map fun j => f i j]) k = rowsOf k f := outs_map
  refine (lc_as ho (n := k) (S := SIntsF H) (b := fun _ => true) keeps_intsF (wi_range (ea_cons (ev_var rfl) ea_nil) (by omega)) goes_range (fun i hi => rfl) (fun i hi => et_yes) (fun D i hi _ => eb_intsF (Ex.refl H) (el_newof (f := nV) ?_)) (by unfold rowsOf; rw [List.length_map, List.length_range]; omega)).imp fun H1 v H2 e1 e2 hn => ?_
  · have hoi : outs (fun _ => true) (fun j => [f i j]) k = (List.range k).map fun j => f i j := outs_map
    exact lc_as hoi (n := k) (S := SFlat nV) (b := fun _ => true) keeps_flat (wi_range (ea_cons (ev_var rfl) ea_nil) (by omega)) goes_range (fun j hj => rfl) (fun j hj => et_yes) (fun D j hj _ => eb_flat (h i j H (Ex.refl H) hi hj)) (by rw [List.length_map, List.length_range]; omega)
  · obtain ⟨l, h1, _, h3⟩ := newof_intsF hn
    exact ⟨l, h1, intsF_v h3⟩
theorem ok_law_kind (T : Txt K mg a) : Df P w K mg base 3 a.f_law_kind ["_law_pool_here", "_law_size"] sp_law_kind :=
  df_mk T.d_law_kind sc_law_kind (fun _ _ _ _ _ _ us hl => match us, hl with | [_, _], _ => rfl)
    (by rintro vs H Q E ⟨p, k, rfl, _⟩; rfl) (by
    rintro cdv A outer sh H vs Q E hr ⟨p, k, rfl, hp, h2, h8, hq⟩
    have nd := sc_law_kind.nd
    refine ⟨_, pss_cons (ps_set (i := 2) nd rfl (Or.inl rfl) (pe_cl (ok_law_draw T) (hr.mono (by decide)) T.m_law_draw (pa_cons (pv 0) (pa_cons pe_int pa_nil))))
      (pss_cons (ps_if (pt_cmpR op_eq (pv 2) pe_int (nomark _)) (pss_one (ps_ret (pe_c1 (own := [("_law_a", 3)]) (g := gName 3) (tt := tYes) rfl nd (pi_rng T (pv 1)) (blkOk_by (N := ["_law_pool_here", "_law_size", "_law_way", "_law_a", "_law_b"]) (sc := defScope s_law_kind) (by decide +kernel)) (fun _ _ _ _ _ => pg_name (i := 3) nd rfl (Or.inr rfl)) (fun _ _ _ _ _ => pts_nil)
        (fun _ _ _ _ _ => pe_c1 (own := [("_law_b", 4)]) (g := gName 4) (tt := tYes) rfl nd (pi_rng T (pv 1)) (blkOk_by (by rfl)) (fun _ _ _ _ _ => pg_name (i := 4) nd rfl (Or.inl rfl)) (fun _ _ _ _ _ => pts_nil)
          (fun _ _ _ _ _ => pe_op op_mod (pe_op op_add (pv 3) (pv 4)) (pv 1)))))) pss_nil)
      (pss_cons (ps_if (pt_cmpR op_eq (pv 2) pe_int (nomark _)) (pss_one (ps_ret (pe_c1 (own := [("_law_a", 3)]) (g := gName 3) (tt := tYes) rfl nd (pi_rng T (pv 1)) (blkOk_by (N := ["_law_pool_here", "_law_size", "_law_way", "_law_a", "_law_b"]) (sc := defScope s_law_kind) (by decide +kernel)) (fun _ _ _ _ _ => pg_name (i := 3) nd rfl (Or.inr rfl)) (fun _ _ _ _ _ => pts_nil)
        (fun _ _ _ _ _ => pe_c1 (own := [("_law_b", 4)]) (g := gName 4) (tt := tYes) rfl nd (pi_rng T (pv 1)) (blkOk_by (by rfl)) (fun _ _ _ _ _ => pg_name (i := 4) nd rfl (Or.inl rfl)) (fun _ _ _ _ _ => pts_nil)
          (fun _ _ _ _ _ => pe_max2 T (pv 3) (pv 4)))))) pss_nil)
      (pss_cons (ps_if (pt_cmpR op_eq (pv 2) pe_int (nomark _)) (pss_one (ps_ret (pe_c1 (own := [("_law_a", 3)]) (g := gName 3) (tt := tYes) rfl nd (pi_rng T (pv 1)) (blkOk_by (N := ["_law_pool_here", "_law_size", "_law_way", "_law_a", "_law_b"]) (sc := defScope s_law_kind) (by decide +kernel)) (fun _ _ _ _ _ => pg_name (i := 3) nd rfl (Or.inr rfl)) (fun _ _ _ _ _ => pts_nil)
        (fun _ _ _ _ _ => pe_c1 (own := [("_law_b", 4)]) (g := gName 4) (tt := tYes) rfl nd (pi_rng T (pv 1)) (blkOk_by (by rfl)) (fun _ _ _ _ _ => pg_name (i := 4) nd rfl (Or.inl rfl)) (fun _ _ _ _ _ => pts_nil)
          (fun _ _ _ _ _ => pe_min2 T (pe_op op_add (pv 3) (pv 4)) (pe_op op_sub (pv 1) pe_int)))))) pss_nil)
      (pss_cons (ps_if (pt_cmpR op_eq (pv 2) pe_int (nomark _)) (pss_one (ps_ret (pe_c1 (own := [("_law_a", 3)]) (g := gName 3) (tt := tYes) rfl nd (pi_rng T (pv 1)) (blkOk_by (N := ["_law_pool_here", "_law_size", "_law_way", "_law_a", "_law_b"]) (sc := defScope s_law_kind) (by decide +kernel)) (fun _ _ _ _ _ => pg_name (i := 3) nd rfl (Or.inr rfl)) (fun _ _ _ _ _ => pts_nil)
        (fun _ _ _ _ _ => pe_c1 (own := [("_law_b", 4)]) (g := gName 4) (tt := tYes) rfl nd (pi_rng T (pv 1)) (blkOk_by (by rfl)) (fun _ _ _ _ _ => pg_name (i := 4) nd rfl (Or.inl rfl)) (fun _ _ _ _ _ => pts_nil)
          (fun _ _ _ _ _ => pe_op op_mod (pe_op op_mul (pv 3) (pv 4)) (pv 1)))))) pss_nil)
      (pss_one (ps_ret (pe_cl (ok_law_rows T) hr T.m_law_rows (pa_cons (pv 0) (pa_cons (pv 1) pa_nil))))))))), ?_⟩
    refine ⟨_, rfl, ⟨p, 6, rfl, hp, by decide, by decide, fun d H1 hd of1 hp1 => ?_⟩⟩
    have hk' : (0 : Int) < (k : Int) := by omega
    have key : ∀ (f : Nat → Nat → Nat) (H2 : Hp) (v : V), Good k f → Ex H1 H2 → (∃ l, v = .ref l ∧ RowsAt H2 l k f) → Q v H2 := fun f H2 v G e2 ⟨l, hv, hR⟩ => by
      subst hv
      exact hq l f H2 G (of1.trans (off_of e2)) (hp1.mono e2) hR
    refine q_when (b := decide (nV d = .int 0)) (et_test (ev_op (ev_var rfl) ev_c (rv_eq rfl))) (fun hb H2 e2 => ?_) fun hb H2 e2 => ?_
    · refine s_retP (kind_ret (f := fun i j => (i + j) % k) (way := some (nV d)) (p := some (.ref p)) rfl h8 fun i j H3 e3 hi hj => ?_) fun v H3 e3 h3 => key _ H3 v ⟨by omega, h8, fun x y _ _ => Nat.mod_lt _ (by omega), fun x y _ _ => by rw [Nat.add_comm]⟩ (e2.trans e3) h3
      exact ev_is (ev_op (ev_op (ev_var rfl) (ev_var rfl) rv_I0) (ev_var rfl) (rv_I (show (0 : Int) < (k : Int) from hk'))) (by show V.int _ = V.int _; simp)
    refine q_when (b := decide (nV d = .int 1)) (et_test (ev_op (ev_var rfl) ev_c (rv_eq rfl))) (fun hb H3 e3 => ?_) fun hb H3 e3 => ?_
    · refine s_retP (kind_ret (f := fun i j => max i j) (way := some (nV d)) (p := some (.ref p)) rfl h8 fun i j H3 e3 hi hj => ?_) fun v H4 e4 h3 => key _ H4 v ⟨by omega, h8, fun x y _ _ => by omega, fun x y _ _ => by omega⟩ ((e2.trans e3).trans e4) h3
      refine ev_is (ev_max2 (ev_var rfl) (ev_var rfl)) ?_
      show V.int _ = V.int _
      congr 1
      rw [Nat.max_def]
      split <;> split <;> omega
    refine q_when (b := decide (nV d = .int 2)) (et_test (ev_op (ev_var rfl) ev_c (rv_eq rfl))) (fun hb H4 e4 => ?_) fun hb H4 e4 => ?_
    · refine s_retP (kind_ret (f := fun i j => min (i + j) (k - 1)) (way := some (nV d)) (p := some (.ref p)) rfl h8 fun i j H3 e3 hi hj => ?_) fun v H5 e5 h3 => key _ H5 v ⟨by omega, h8, fun x y _ _ => by omega, fun x y _ _ => by omega⟩ (((e2.trans e3).trans e4).trans e5) h3
      refine ev_is (ev_min2 (ev_op (ev_var rfl) (ev_var rfl) rv_I0) (ev_op (ev_var rfl) ev_c rv_I0)) ?_
      show V.int _ = V.int _
      congr 1
      rw [Nat.min_def]
      split <;> split <;> omega
    refine q_when (b := decide (nV d = .int 3)) (et_test (ev_op (ev_var rfl) ev_c (rv_eq rfl))) (fun hb H5 e5 => ?_) fun hb H5 e5 => ?_
    · refine s_retP (kind_ret (f := fun i j => i * j % k) (way := some (nV d)) (p := some (.ref p)) rfl h8 fun i j H3 e3 hi hj => ?_) fun v H6 e6 h3 => key _ H6 v ⟨by omega, h8, fun x y _ _ => Nat.mod_lt _ (by omega), fun x y _ _ => by rw [Nat.mul_comm]⟩ ((((e2.trans e3).trans e4).trans e5).trans e6) h3
      exact ev_is (ev_op (ev_op (ev_var rfl) (ev_var rfl) (rv_I (.inl ⟨by omega, by omega⟩))) (ev_var rfl) (rv_I (show (0 : Int) < (k : Int) from hk'))) (by show V.int _ = V.int _; simp)
    have e25 := ((e2.trans e3).trans e4).trans e5
    exact ⟨_, rfl, _, rfl, p, k, rfl, hp1.mono e25, by omega, h8, fun l t H' G of' hp' hR => hq l t H' G (of1.trans ((off_of e25).trans of')) hp' hR⟩)
def sp_law_reduced (a : Ad) : Sp := spP fun vs H R => ∃ tb k t c n, vs = [.ref tb, nV c, nV n] ∧ TabAt a H tb k t ∧ Assoc k t ∧ c < k ∧ R = fun v _ => ∃ L s, PowOk k t c L s ∧ v = nV (red s L n)
theorem sc_law_reduced : FnScope ["_law_small", "_law_number", "_law_count", "_law_values", "_law_start"] ["_law_small", "_law_number", "_law_count"] (defScope s_law_reduced) := ⟨rfl, rfl, rfl, by decide +kernel, rfl, by decide +kernel, by decide +kernel⟩
theorem ok_law_reduced (T : Txt K mg a) : Df P w K mg base 10 a.f_law_reduced ["_law_small", "_law_number", "_law_count"] (sp_law_reduced a) :=
  df_mk T.d_law_reduced sc_law_reduced (fun _ _ _ _ _ _ us hl => match us, hl with | [_, _, _], _ => rfl)
    (by rintro vs H Q E ⟨z, ⟨tb, k, t, c, n, rfl, _⟩, _⟩; rfl) (by
    rintro cdv A outer sh H vs Q E hr ⟨R, ⟨tb, k, t, c, n, rfl, hT, hA, hc, rfl⟩, hq⟩
    have nd := sc_law_reduced.nd
    refine ⟨_, pss_cons (ps_asg (pe_cl (ok_powers T) hr T.m_powers (pa_cons (pv 0) (pa_cons (pv 1) pa_nil))) (pg_tupK K rfl (pgs_cons (pg_name (i := 3) nd rfl (Or.inl rfl)) (pgs_cons (pg_name (i := 4) nd rfl (Or.inl rfl)) pgs_nil))))
      (pss_cons (ps_if (pt_cmpR op_lt (pv 2) (pv 4) (nomark _)) (pss_one (ps_ret (pv 2))) pss_nil)
      (pss_one (ps_ret (pe_op op_add (pv 4) (pe_op op_mod (pe_op op_sub (pv 2) (pv 4)) (pe_op op_add (pe_op op_sub (pe_len T (pv 3)) (pv 4)) pe_int)))))), ?_⟩
    refine evp_cl (ea_cons (ev_var rfl) (ea_cons (ev_var rfl) ea_nil)) (use_powers hT hA hc) H (Ex.refl H) _ fun v H1 e1 ⟨H0, e0, q, l, s, ls, hv, hq1, hl, hP⟩ => ?_
    subst hv
    refine ⟨q, _, rfl, st_of hq1, rfl, _, _, rfl, _, _, rfl, rfl, ?_⟩
    refine q_when (b := decide (n < s)) (et_is (et_test (ev_op (ev_var rfl) (ev_var rfl) rv_I0)) (by simp)) (fun hb H2 e2 => s_ret (ev_var rfl) fun H3 e3 => ?_) fun hb H2 e2 => ?_
    · refine hq _ H3 ((e1.trans e2).trans e3) ⟨ls.length, s, hP, ?_⟩
      unfold red
      rw [if_pos (of_decide_eq_true hb)]
    · have hns := of_decide_eq_false hb
      have hl2 := e2 _ _ hl
      have hsL := hP.sL
      have hlen : (nVs ls).length = ls.length := by simp
      refine s_ret (v := nV (red s ls.length n)) (ev_is (ev_op (ev_var rfl) (ev_op (ev_op (ev_var rfl) (ev_var rfl) rv_I0) (ev_op (ev_op (ev_lenS (ev_var rfl) (.inl (sq_of hl2))) (ev_var rfl) rv_I0) ev_c rv_I0) (rv_I (show (0 : Int) < ((nVs ls).length : Int) - (s : Int) + 1 by rw [hlen]; omega))) rv_I0) ?_) fun H3 e3 => hq _ H3 ((e1.trans e2).trans e3) ⟨ls.length, s, hP, rfl⟩
      unfold red
      rw [if_neg hns, hlen]
      show V.int _ = V.int _
      congr 1
      have h1 : (n : Int) - (s : Int) = ((n - s : Nat) : Int) := by omega
      have h2 : (ls.length : Int) - (s : Int) + 1 = ((ls.length - s + 1 : Nat) : Int) := by omega
      rw [h1, h2, ← Int.natCast_emod]
      omega)
theorem use_law_reduced {H : Hp} {tb : Addr} {k c n : Nat} {t : Nat → Nat → Nat} (hT : TabAt a H tb k t) (A : Assoc k t) (hc : c < k) : SpP (sp_law_reduced a) [.ref tb, nV c, nV n] H (fun _ v _ => ∃ L s, PowOk k t c L s ∧ v = nV (red s L n)) := spp_use fun H1 e => ⟨tb, k, t, c, n, rfl, hT.mono e, A, hc, rfl⟩
end
end Bj

namespace Bj
open PySem PySem.Spec
open PyProof.Rows L2 Evl
theorem tot_none {k : Nat} {n : Nat → Nat} (h : tot k n = 0) {i : Nat} (hi : i < k) : n i = 0 := by
  refine Nat.eq_zero_of_not_pos fun hp => ?_
  have := tot_bump (k := k) (c := i) (n := drop1 n i) hi
  rw [bump_drop hp] at this
  omega
theorem tot_one {k c : Nat} {n : Nat → Nat} (h : tot k n = 1) (hc : c < k) (hp : 0 < n c) : ∀ i, i < k → n i = bump (fun _ => 0) c i := fun i hi => by
  have h1 := tot_bump (k := k) (c := c) (n := drop1 n c) hc
  rw [bump_drop hp] at h1
  have h2 := tot_none (k := k) (n := drop1 n c) (by omega) hi
  unfold drop1 at h2
  unfold bump
  by_cases e : i = c
  · subst e
    rw [if_pos rfl] at h2 ⊢
    show n i = 0 + 1
    omega
  · rw [if_neg e] at h2 ⊢
    exact h2
theorem tot_aft {k x y : Nat} {t : Nat → Nat → Nat} {n : Nat → Nat} (G : Good k t) (hx : x < k) (hy : y < k) (hc : canD n x y = true) : tot k (aft t n x y) + 1 = tot k n := by
  obtain ⟨n0, h1, h2, _⟩ := aft_bump (t := t) hc
  rw [h2, h1, tot_bump (G.lt _ _ hx hy), tot_bump hy, tot_bump hx]
theorem phi_aft {k x y : Nat} {t : Nat → Nat → Nat} {n : Nat → Nat} (G : Good k t) (hx : x < k) (hy : y < k) (hc : canD n x y = true) : Phi (quo k t) (gn k t) (aft t n x y) k = Phi (quo k t) (gn k t) n k := by
  obtain ⟨n0, h1, h2, _⟩ := aft_bump (t := t) hc
  rw [h2, h1]
  exact (phi_draw (quot_ok G) G hx hy).symm
section
variable {P : Program} {w : World} {K : PySem.W.Frag} {mg : Str → Option Value} {base : Heap} {a : Ad}
def sp_law_drawn (a : Ad) : Sp := fun vs H Q _ => ∃ p tb j k t n, vs = [.ref p, .ref tb, .ref j] ∧ PoolAt H p ∧ TabX a H p tb k t ∧ JarX a H p j k n ∧ 1 ≤ tot k n ∧ tot k n ≤ 1000 ∧
  ∀ c H', c < k → Phi (quo k t) (gn k t) n k = some (gn k t c) → Off p H H' → PoolAt H' p → Q (nV c) H'
theorem sc_law_drawn : FnScope ["_law_pool_here", "_law_table", "_law_jar", "_law_turn"] ["_law_pool_here", "_law_table", "_law_jar"] (defScope s_law_drawn) := ⟨rfl, rfl, rfl, by decide +kernel, rfl, by decide +kernel, by decide +kernel⟩
theorem ok_law_drawn (T : Txt K mg a) : Df P w K mg base 7 a.f_law_drawn ["_law_pool_here", "_law_table", "_law_jar"] (sp_law_drawn a) :=
  df_mk T.d_law_drawn sc_law_drawn (fun _ _ _ _ _ _ us hl => match us, hl with | [_, _, _], _ => rfl)
    (by rintro vs H Q E ⟨p, tb, j, k, t, n, rfl, _⟩; rfl) (by
    rintro cdv A outer sh H vs Q E hr ⟨p, tb, j, k, t, n, rfl, hp, hT, hJ, h1, h1000, hq⟩
    have nd := sc_law_drawn.nd
    refine ⟨_, pss_cons (ps_for PassesOwn.never rfl (pi_rng T (pe_op op_sub (pe_pr (pv 2) T.k_Jar T.p_Jar_total (ok_Jar_total T) (hr.mono (by decide))) pe_int)) (pg_name (i := 3) nd rfl (Or.inl rfl))
        (pss_one (ps_set (i := 2) nd rfl (Or.inl rfl) (pe_cl (ok_after T) hr T.m_after (pa_cons (pv 1) (pa_cons (pv 2) (pa_cons (pe_cl (ok_law_choose T) (hr.mono (by decide)) T.m_law_choose (pa_cons (pv 0) (pa_cons (pe_mt0 (pv 2) T.k_Jar T.h_Jar_draws (ok_Jar_draws T) (hr.mono (by decide))) pa_nil))) pa_nil)))))))
      (pss_one (ps_ret (pe_ixl K (pe_mt0 (pv 2) T.k_Jar T.h_Jar_colours (ok_Jar_colours T) (hr.mono (by decide))) pe_int))), ?_⟩
    have G := hT.good
    have h8 := G.le
    refine q_forR1 (n := ((tot k n - 1 : Nat) : Int)) (ea_cons (ev_is (ev_op (ev_jtotal (ev_var rfl) hJ.n) ev_c rv_I0) (by show V.int _ = V.int _; congr 1; omega)) ea_nil) (by omega)
      (fun i σ' H' => ∃ j n' u, σ' = [some (.ref p), some (.ref tb), some (.ref j), u] ∧ Off p H H' ∧ PoolAt H' p ∧ TabX a H' p tb k t ∧ JarX a H' p j k n' ∧ tot k n' + i = tot k n ∧ Phi (quo k t) (gn k t) n' k = Phi (quo k t) (gn k t) n k)
      (fun H1 e1 => ⟨j, n, none, rfl, off_of e1, hp.mono e1, hT.mono e1, hJ.mono e1, by omega, rfl⟩) ?_ ?_
    · rintro i σ' H' hi ⟨j, n', u, rfl, of, hp', hT', hJ', ht, hphi⟩
      have hi' : i < tot k n - 1 := by omega
      obtain ⟨cc, ss, hps, hcs⟩ := hp'
      obtain ⟨dx, lj, hj1, _, _⟩ := hJ'.at_
      refine ⟨_, rfl, _, rfl, _, rfl, ?_⟩
      refine evp_mt (ev_var (v := .ref j) rfl) hj1 rfl ea_nil (use_draws hJ'.n) H' (Ex.refl H') _ fun v H1 e1 ⟨H0, e0, l, hv, nl, ys, hys, ha⟩ => ?_
      subst hv
      have npl : p ≠ l := ne_of_none (e0 _ _ hps) nl
      have hdl := draws_len (k := k) (n := n') h8
      obtain ⟨x0, hx0⟩ := draws_any (k := k) (n := n') (by omega)
      have hpos : 0 < ys.length := by
        rw [ha.1]
        cases h : drawsOf k n' with
        | nil => rw [h] at hx0; cases hx0
        | cons x l => simp
      refine ⟨p, l, ys, rfl, ⟨cc, ss, e1 _ _ hps, hcs⟩, npl, hys, hpos, by rw [ha.1]; omega, fun i2 v H2 hv of2 hp2 => ?_⟩
      obtain ⟨⟨x, y⟩, hb, q, rfl, hq'⟩ := ha.get hv
      obtain ⟨hx, hy, hc⟩ := mem_draws.mp (List.mem_of_getElem? hb)
      have hps1 := e1 _ _ hps
      have nqp : q ≠ p := fun e => by subst e; rw [hps1] at hq'; cases hq'
      have hT2 := (hT'.mono e1).off hps1 of2
      have hJ2 := (hJ'.mono e1).off hps1 of2
      refine ⟨_, ⟨tb, j, q, k, t, n', x, y, rfl, hT2.t, hJ2.n, of2 _ _ nqp hq', hx, hy, hc, rfl⟩, fun v H3 e3 ⟨r, hv, hr'⟩ => ?_⟩
      subst hv
      obtain ⟨c2, s2, hps2, hcs2⟩ := hp2
      refine ⟨r, aft t n' x y, _, rfl, ((of.trans (off_of e1)).trans of2).trans (off_of e3), ⟨c2, s2, e3 _ _ hps2, hcs2⟩, hT2.mono e3, hr'.x hps2, ?_, ?_⟩
      · have h5 : tot k (aft t n' x y) + 1 = tot k n' := tot_aft G hx hy hc
        show tot k (aft t n' x y) + (i + 1) = tot k n
        omega
      · rw [phi_aft G hx hy hc]
        exact hphi
    · rintro σ' H' ⟨j, n', u, rfl, of, hp', hT', hJ', ht, hphi⟩
      have ht1 : tot k n' = 1 := by omega
      obtain ⟨c0, hc0, hcp0⟩ := tot_pos (k := k) (n := n') (by omega)
      have hpos : 0 < (colsOf n' k).length := by
        cases h : colsOf n' k with
        | nil =>
          have := mem_cols.mpr ⟨hc0, hcp0⟩
          rw [h] at this
          cases this
        | cons x l => simp
      obtain ⟨hc, hcp⟩ := colAt_ok hpos
      refine s_retR ?_
      refine evp_colours (ev_var rfl) hJ'.n H' (Ex.refl H') _ fun v H1 e1 ⟨l, hv, nl, hl⟩ => ?_
      subst hv
      refine ⟨l, _, 0, _, rfl, rfl, sq_of hl, atI_nat (j := 0) (nVs_get (colAt_get hpos)), ?_⟩
      refine hq _ H1 hc ?_ (of.trans (off_of e1)) (hp'.mono e1)
      rw [← hphi, phi_congr (g' := gn k t) (n' := bump (fun _ => 0) (colAt n' k 0)) k (fun i hi => by rw [tot_one ht1 hc hcp i hi])]
      exact phi_single (quot_ok G) G hc)
end
end Bj

namespace Bj
open PySem PySem.Spec
open PyProof.Rows L2 Evl
/-! lists of ints, compared -/
abbrev dI (g : List Nat) : List PyData := g.map fun x : Nat => PyData.int (x : Int)
theorem can_dI : ∀ g : List Nat, PyData.canLayAll0 (dI g) = true
  | [] => by simp only [dI, List.map_nil, PyData.canLayAll0]
  | x :: g => by
    have := can_dI g
    simp only [dI, List.map_cons, PyData.canLayAll0, PyData.canLay0, Bool.true_and] at this ⊢
    exact this
theorem depth_dI : ∀ g : List Nat, PyData.depthAll (dI g) = 0
  | [] => by simp only [dI, List.map_nil, PyData.depthAll]
  | x :: g => by
    have := depth_dI g
    simp only [dI, List.map_cons, PyData.depthAll, PyData.depth] at this ⊢
    omega
theorem eqv_dI : ∀ g : List Nat, PyData.eqvAll (dI g) (dI g) = true
  | [] => by simp only [dI, List.map_nil, PyData.eqvAll]
  | x :: g => by
    have := eqv_dI g
    simp only [dI, List.map_cons, PyData.eqvAll, PyData.eqv] at this ⊢
    rw [this]
    simp
theorem shaped_dI (g : List Nat) : SeqAt.shaped (.list (dI g)) = true := by
  unfold SeqAt.shaped
  simp only [PyData.canLay0, PyData.depth, can_dI, depth_dI, Bool.true_and]
  decide
theorem dpAll_dI {K : PySem.W.Frag} {H : Hp} : ∀ g : List Nat, DpAll K H (nVs g) (dI g)
  | [] => .nil
  | x :: g => .cons (.int _) (dpAll_dI g)
theorem rv_neSame {K : PySem.W.Frag} {H : Hp} {p q : Addr} {g : List Nat} (hp : H p = some (.lst (nVs g))) (hq : H q = some (.lst (nVs g))) : RV (rNeD K) (.ref p) (.ref q) H (.bl false) := fun H1 e Q qq =>
  ⟨.list (dI g), .list (dI g), .lst (sq_of (e _ _ hp)) (dpAll_dI g), .lst (sq_of (e _ _ hq)) (dpAll_dI g), shaped_dI g, shaped_dI g, by
    have : PyData.eqv (.list (dI g)) (.list (dI g)) = true := by
      simp only [PyData.eqv]
      exact eqv_dI g
    rw [this]
    exact qq H1 (Ex.refl H1)⟩
/-! the plain law -/
theorem pw_congr {k : Nat} {t q : Nat → Nat → Nat} (G : Good k t) (h : ∀ i j, i < k → j < k → q i j = t i j) {c : Nat} (hc : c < k) : ∀ n, pw q (some c) n = pw t (some c) n
  | 0 => rfl
  | n + 1 => by
    show mul q (pw q (some c) n) (some c) = mul t (pw t (some c) n) (some c)
    rw [pw_congr G h hc n]
    have hin := pw_in G (show In k (some c) from hc) n
    cases e : pw t (some c) n with
    | none => rfl
    | some y =>
      rw [e] at hin
      show some (q y c) = some (t y c)
      rw [h y c hin hc]
theorem tot_le {k m : Nat} {n : Nat → Nat} (h : ∀ c, c < k → n c ≤ m) : tot k n ≤ k * m := by
  induction k with
  | zero => exact Nat.zero_le _
  | succ k ih =>
    rw [tot_succ, Nat.succ_mul]
    have := ih fun c hc => h c (by omega)
    have := h k (by omega)
    omega
theorem tot_ge {k c : Nat} {n : Nat → Nat} (hc : c < k) (h : 0 < n c) : 0 < tot k n := by
  have := tot_bump (k := k) (c := c) (n := drop1 n c) hc
  rw [bump_drop h] at this
  omega
/-- counts and what is left of them -/
def LessOk (k : Nat) (t : Nat → Nat → Nat) (n r : Nat → Nat) (i : Nat) : Prop := ∀ c, c < i → ∃ L s, PowOk (ng k t) (quo k t) (gn k t c) L s ∧ r c = red s L (n c)
theorem less_quo {k : Nat} {t : Nat → Nat → Nat} (G : Good k t) {n r : Nat → Nat} (h : LessOk k t n r k) : Phi (quo k t) (gn k t) r k = Phi (quo k t) (gn k t) n k := by
  have Qt := quot_ok G
  refine phi_congr k fun c hc => ?_
  obtain ⟨L, s, hP, hr⟩ := h c hc
  rw [hr]
  exact pw_red (Qt.good G) (Qt.assoc G) (show In (ng k t) (some (gn k t c)) from gn_lt G hc) hP.s1 hP.sL hP.eq (n c)
theorem less_own {k : Nat} {t : Nat → Nat → Nat} (G : Good k t) (A : Assoc k t) {n r : Nat → Nat} (h : LessOk k t n r k) : Phi t (fun c => c) r k = Phi t (fun c => c) n k := by
  refine phi_congr k fun c hc => ?_
  obtain ⟨L, s, hP, hr⟩ := h c hc
  have e1 := hP.eq
  rw [gn_assoc A hc, pw_congr G (fun i j hi hj => quo_assoc G A hi hj) hc, pw_congr G (fun i j hi hj => quo_assoc G A hi hj) hc] at e1
  rw [hr]
  exact pw_red G A (show In k (some c) from hc) hP.s1 hP.sL e1 (n c)
theorem less_pos {k : Nat} {t : Nat → Nat → Nat} {n r : Nat → Nat} (hk : 0 < k) (h : LessOk k t n r k) (hn : 0 < n 0) : 0 < r 0 := by
  obtain ⟨L, s, hP, hr⟩ := h 0 hk
  rw [hr]
  exact red_pos hP.s1 hn
theorem less_le {k : Nat} {t : Nat → Nat → Nat} (h8 : k ≤ 8) {n r : Nat → Nat} (h : LessOk k t n r k) : tot k r ≤ 64 := by
  refine Nat.le_trans (tot_le (m := 8) fun c hc => ?_) (by omega)
  obtain ⟨L, s, hP, hr⟩ := h c hc
  have h1 := red_le (s := s) (L := L) (n := n c) hP.sL
  have h2 := hP.Lk
  have h3 : ng k t ≤ k := ng_le
  rw [hr]
  omega
section
variable {P : Program} {w : World} {K : PySem.W.Frag} {mg : Str → Option Value} {base : Heap} {a : Ad}
theorem evp_mkJarV {σ : L2.St} {H : Hp} {te : TE} {l : Addr} {k : Nat} {n : Nat → Nat} (h : Ev te σ H (.ref l)) (hl : H l = some (.lst (nF k n))) (h1 : 1 ≤ k) (h8 : k ≤ 8) : EvP (tMake a.c_Jar (sp_Jar_init a) [] E0 (tCons te tNil)) σ H (NewJ a k n) := fun H1 e Q q =>
  h H1 e _ fun H2 e2 => by
    intro x dx nx ndx ne
    have e3 : Ex H2 (upd (upd H2 dx (.own x)) x (.ins a.c_Jar dx [])) := (Ex.new ndx).mut nx
    exact ⟨x, l, dx, k, n, rfl, upd_same, e3 _ _ (e2 _ _ (e _ _ hl)), h1, h8, fun H' l' of hx' nl' hl' => ⟨rfl, q (.ref x) H' (e2.trans fun b o hb => of b o (ne_of_none hb nx) (e3 b o hb)) ⟨x, rfl, fresh_back e2 nx, h1, h8, dx, l', hx', fresh_back (e2.trans e3) nl', hl'⟩⟩⟩
theorem evp_lg {σ : L2.St} {H : Hp} {t1 te : TE} {tb : Addr} {k : Nat} {t : Nat → Nat → Nat} {n : Nat → Nat} (h1 : Ev t1 σ H (.ref tb)) (hT : TabAt a H tb k t) (h : EvP te σ H (NewJ a k n)) (hp : 0 < tot k n) :
    EvP (tCall (sp_last_group a) [] E0 (tCons t1 (tCons te tNil))) σ H (fun H1 v H2 => ∃ q i, v = .ref q ∧ Phi (quo k t) (gn k t) n k = some i ∧ i < ng k t ∧ H1 q = none ∧ H2 q = some (.lst (nVs ((grps k t).getD i [])))) := fun H1 e Q q =>
  h1 H1 e _ fun H2 e2 => h H2 (e.trans e2) _ fun v H3 e3 ⟨j, hv, _, hJ⟩ => by
    subst hv
    exact ⟨_, ⟨tb, j, k, t, n, rfl, hT.mono ((e.trans e2).trans e3), hJ.n, hp, rfl⟩, fun v H4 e4 ⟨r, i, g1, g2, g3, g4, g5⟩ => q v H4 ((e2.trans e3).trans e4) ⟨r, i, g1, g2, g3, fresh_back (e2.trans e3) g4, g5⟩⟩
theorem ev_lb {σ : L2.St} {H : Hp} {t1 te : TE} {tb : Addr} {k : Nat} {t : Nat → Nat → Nat} {n : Nat → Nat} (h1 : Ev t1 σ H (.ref tb)) (hT : TabAt a H tb k t) (A : Assoc k t) (h : EvP te σ H (NewJ a k n)) (hp : 0 < tot k n) :
    Ev (tCall (sp_last_bean a) [] E0 (tCons t1 (tCons te tNil))) σ H (optV (Phi t (fun c => c) n k)) := fun H1 e Q q =>
  h1 H1 e _ fun H2 e2 => h H2 (e.trans e2) _ fun v H3 e3 ⟨j, hv, _, hJ⟩ => by
    subst hv
    exact ⟨_, ⟨tb, j, k, t, n, rfl, hT.mono ((e.trans e2).trans e3), A, hJ.n, hp, rfl⟩, fun H4 e4 => q H4 ((e2.trans e3).trans e4)⟩
end
end Bj

namespace Bj
open PySem PySem.Spec
open PyProof.Rows L2 Evl
theorem q_twoP {K : PySem.W.Frag} {σ : L2.St} {H : Hp} {t1 t2 : TE} {D : Ends} {tz : TS} {i j : Nat} {R1 R2 : Hp → V → Hp → Prop} (h1 : EvP t1 σ H R1) (h2 : EvP t2 σ H R2) (k : ∀ x y H1 H2 H3, Ex H H1 → Ex H1 H2 → Ex H2 H3 → R1 H x H1 → R2 H1 y H2 → tz D ((σ.set i (some x)).set j (some y)) H3) :
    tSeq (tAsg (tTup (tCons t1 (tCons t2 tNil))) (gTup K 2 (gCons (gName i) (gCons (gName j) gNil)))) tz D σ H :=
  h1 H (Ex.refl H) _ fun x H1 e1 r1 => h2 H1 e1 _ fun y H2 e2 r2 => ⟨sz_of (by show 2 ≤ 100000; decide), fun p np => ⟨p, [x, y], rfl, st_of upd_same, rfl, x, _, rfl, y, _, rfl, rfl, k x y H1 H2 _ e1 e2 (Ex.new np) r1 r2⟩⟩
theorem et_opP {σ : L2.St} {H : Hp} {ta tb : TE} {r : R2} {y : V} {b : Bool} {R : Hp → V → Hp → Prop} (h : EvP ta σ H R) (hb : Ev tb σ H y) (hr : ∀ v H0 H1, Ex H H0 → Ex H0 H1 → R H0 v H1 → ∀ H2, Ex H1 H2 → RV r v y H2 (.bl b)) : EvT (tTest (tOp r ta tb)) σ H b := fun H1 e Q q =>
  h H1 e _ fun v H2 e2 hv => hb H2 (e.trans e2) _ fun H3 e3 => hr v H1 H2 e e2 hv H3 e3 H3 (Ex.refl H3) _ fun H4 e4 => ⟨b, rfl, q H4 ((e2.trans e3).trans e4)⟩
theorem scal_opt (x y : Option Nat) : scal (optV x) (optV y) = true := by cases x <;> cases y <;> rfl
theorem nF_snoc {i z : Nat} {n : Nat → Nat} : nF i n ++ [nV z] = nF (i + 1) (fun j => if j = i then z else n j) := by
  unfold nF nVs
  rw [List.range_succ, List.map_append, List.map_append]
  congr 1
  · rw [List.map_map, List.map_map]
    refine List.map_congr_left fun j hj => ?_
    have := List.mem_range.mp hj
    show nV (n j) = nV (if j = i then z else n j)
    rw [if_neg (by omega)]
  · simp
theorem tSeq_at {t u : TS} {D : Ends} {σ σ' : L2.St} {H : Hp} (e : σ = σ') (h : tSeq t u D σ' H) : tSeq t u D σ H := by
  subst e
  exact h
theorem ite_no2 {p q : Prop} (h : q) : if (!true) = true then p else q := h
section
variable {P : Program} {w : World} {K : PySem.W.Frag} {mg : Str → Option Value} {base : Heap} {a : Ad}
theorem use_law_pool {H : Hp} {l : Addr} {ns : List Int} {k : Nat} (h : SqL K H l (ns.map V.int)) (hk : k ≤ 6) : SpP (sp_law_pool K) [.ref l, nV k] H (fun H1 v H' => ∃ p, v = .ref p ∧ H1 p = none ∧ PoolAt H' p) := spp_use fun H1 e => ⟨l, ns, k, rfl, ex_l e h, hk, rfl⟩
theorem use_passes {H : Hp} {tb : Addr} {k : Nat} {t : Nat → Nat → Nat} (hT : TabAt a H tb k t) : SpV (sp_passes a) [.ref tb] H (.bl (assocB k t)) := spv_use fun H1 e => ⟨tb, k, t, rfl, hT.mono e, rfl⟩
def sp_law (K : PySem.W.Frag) : Sp := fun vs H Q _ => ∃ (a : Addr) (ns : List Int), vs = [.ref a] ∧ SqL K H a (ns.map V.int) ∧ ns.length ≤ 63 ∧ ∀ H', Q (.bl true) H'
theorem sc_law : FnScope ["_law_script", "_law_k", "_law_pool_here", "_law_size", "_law_table", "_law_parts", "_law_small", "_law_counts", "_law_colour", "_law_less", "_law_number", "_law_at", "_law_part"] ["_law_script"] (defScope s_law) := ⟨rfl, rfl, rfl, by decide +kernel, rfl, by decide +kernel, by decide +kernel⟩
theorem law_body (T : Txt K mg a) : Body P w K mg base ["_law_script", "_law_k", "_law_pool_here", "_law_size", "_law_table", "_law_parts", "_law_small", "_law_counts", "_law_colour", "_law_less", "_law_number", "_law_at", "_law_part"] "law" s_law a.f_law 12 (sp_law K) := by
    rintro cdv A outer sh H vs Q E hr ⟨l, ns, rfl, hl, hn, hq⟩
    have nd := sc_law.nd
    refine ⟨_, pss_cons (ps_for PassesOwn.never rfl (pi_rng T (pe_max2 T pe_int (pe_min2 T (pe_len T (pv 0)) pe_int))) (pg_name (i := 1) nd rfl (Or.inl rfl))
        (pss_cons (ps_set (i := 2) nd rfl (Or.inr rfl) (pe_cl (ok_law_pool T) (hr.mono (by decide)) T.m_law_pool (pa_cons (pv 0) (pa_cons (pv 1) pa_nil))))
        (pss_cons (ps_set (i := 3) nd rfl (Or.inl rfl) (pe_op op_add pe_int (pe_cl (ok_law_draw T) (hr.mono (by decide)) T.m_law_draw (pa_cons (pv 2) (pa_cons pe_int pa_nil)))))
        (pss_cons (ps_set (i := 4) nd rfl (Or.inl rfl) (pe_mk T.i_Table (ok_Table_init T) (hr.mono (by decide)) T.m_Table (pa_cons (pe_cl (ok_law_kind T) (hr.mono (by decide)) T.m_law_kind (pa_cons (pv 2) (pa_cons (pv 3) pa_nil))) pa_nil)))
        (pss_cons (ps_asg (pe_tup (pa_cons (pe_cl (ok_groups T) (hr.mono (by decide)) T.m_groups (pa_cons (pv 4) pa_nil)) (pa_cons (pe_cl (ok_quotient T) (hr.mono (by decide)) T.m_quotient (pa_cons (pv 4) pa_nil)) pa_nil)))
          (pg_tupK K rfl (pgs_cons (pg_name (i := 5) nd rfl (Or.inr rfl)) (pgs_cons (pg_name (i := 6) nd rfl (Or.inl rfl)) pgs_nil))))
        (pss_cons (ps_c1 (i := 7) (own := [("_law_colour", 8)]) (g := gName 8) (tt := tYes) rfl nd rfl rfl (sw_true rfl rfl rfl (by decide +kernel)) (pi_rng T (pv 3))
          (blkOk_by (N := ["_law_script", "_law_k", "_law_pool_here", "_law_size", "_law_table", "_law_parts", "_law_small", "_law_counts", "_law_colour", "_law_less", "_law_number", "_law_at", "_law_part"]) (sc := defScope s_law) (by decide +kernel))
          (fun _ _ _ _ _ => pg_name (i := 8) nd rfl (Or.inl rfl)) (fun _ _ _ _ _ => pts_nil)
          (fun _ _ _ _ _ => pe_cl (ok_law_choose T) (hr.mono (by decide)) T.m_law_choose (pa_cons (pv 2) (pa_cons (pe_lst (pa_cons pe_int (pa_cons pe_int (pa_cons pe_int (pa_cons (pe_cl (ok_law_draw T) (hr.mono (by decide)) T.m_law_draw (pa_cons (pv 2) (pa_cons (pe_op op_pow pe_int pe_int) pa_nil))) pa_nil))))) pa_nil))))
        (pss_cons (ps_asg (pe_op op_add (pe_ixl K (pv 7) pe_int) pe_int) (pg_sub (pv 7) pe_int set_list))
        (pss_cons (ps_set (i := 9) nd rfl (Or.inl rfl) (pe_lst pa_nil))
        (pss_cons (ps_for PassesOwn.never rfl (pi_rng T (pv 3)) (pg_name (i := 8) nd rfl (Or.inr rfl))
          (pss_cons (ps_set (i := 10) nd rfl (Or.inl rfl) (pe_ixl K (pe_c1 (own := [("_law_at", 11)]) (g := gName 11) rfl nd (pi_rng T (pe_len T (pv 5)))
              (blkOk_by (N := ["_law_script", "_law_k", "_law_pool_here", "_law_size", "_law_table", "_law_parts", "_law_small", "_law_counts", "_law_colour", "_law_less", "_law_number", "_law_at", "_law_part"]) (sc := defScope s_law) (by decide +kernel))
              (fun _ _ _ _ _ => pg_name (i := 11) nd rfl (Or.inl rfl)) (fun _ _ _ _ _ => pts_one (pt_cmpR (op_inK K) (pv 8) (pe_ixl K (pv 5) (pv 11)) rfl)) (fun _ _ _ _ _ => pv 11)) pe_int))
          (pss_one (ps_expr (pe_bm PySem.F.plainAttrs_list PySem.F.slot_list_append PySem.F.type_list_append mt_append (pv 9) (pa_cons (pe_cl (ok_law_reduced T) (hr.mono (by decide)) T.m_law_reduced (pa_cons (pv 6) (pa_cons (pv 10) (pa_cons (pe_ixl K (pv 7) (pv 8)) pa_nil)))) pa_nil))))))
        (pss_cons (ps_set (i := 12) nd rfl (Or.inl rfl) (pe_cl (ok_last_group T) hr T.m_last_group (pa_cons (pv 4) (pa_cons (pe_mk T.i_Jar (ok_Jar_init T) (hr.mono (by decide)) T.m_Jar (pa_cons (pv 7) pa_nil)) pa_nil))))
        (pss_cons (ps_if (pt_cmpR (op_neD hr.units) (pe_cl (ok_last_group T) hr T.m_last_group (pa_cons (pv 4) (pa_cons (pe_mk T.i_Jar (ok_Jar_init T) (hr.mono (by decide)) T.m_Jar (pa_cons (pv 9) pa_nil)) pa_nil))) (pv 12) (nomark _)) (pss_one (ps_ret pe_bl)) pss_nil)
        (pss_cons (ps_if (pt_cmpR op_notIn_seq (pe_cl (ok_law_drawn T) (hr.mono (by decide)) T.m_law_drawn (pa_cons (pv 2) (pa_cons (pv 4) (pa_cons (pe_mk T.i_Jar (ok_Jar_init T) (hr.mono (by decide)) T.m_Jar (pa_cons (pv 9) pa_nil)) pa_nil)))) (pv 12) rfl) (pss_one (ps_ret pe_bl)) pss_nil)
        (pss_one (ps_if (PW.pt (pw_and (pt_val (pe_cl (ok_passes T) (hr.mono (by decide)) T.m_passes (pa_cons (pv 4) pa_nil))) (pw_and1 (pt_cmpR op_ne (pe_cl (ok_last_bean T) (hr.mono (by decide)) T.m_last_bean (pa_cons (pv 4) (pa_cons (pe_mk T.i_Jar (ok_Jar_init T) (hr.mono (by decide)) T.m_Jar (pa_cons (pv 7) pa_nil)) pa_nil)))
          (pe_cl (ok_last_bean T) (hr.mono (by decide)) T.m_last_bean (pa_cons (pv 4) (pa_cons (pe_mk T.i_Jar (ok_Jar_init T) (hr.mono (by decide)) T.m_Jar (pa_cons (pv 9) pa_nil)) pa_nil))) (nomark _))))) (pss_one (ps_ret pe_bl)) pss_nil))))))))))))))
      (pss_one (ps_ret pe_bl)), ?_⟩
    have hlen : (ns.map V.int).length = ns.length := by simp
    refine q_forR1 (n := ((max 1 (min ns.length 6) : Nat) : Int)) (ea_cons (ev_is (ev_max2 ev_c (ev_min2 (ev_lenS (ev_var rfl) (.inl hl)) ev_c)) ?_) ea_nil) (by omega)
      (fun _ σ' H' => Ex H H' ∧ ∃ x1 x2 x3 x4 x5 x6 x7 x8 x9 x10 x11 x12, σ' = [some (.ref l), x1, x2, x3, x4, x5, x6, x7, x8, x9, x10, x11, x12]) (fun H1 e1 => ⟨e1, none, none, none, none, none, none, none, none, none, none, none, none, rfl⟩) ?_ (by
      rintro σ' H' ⟨e', x1, x2, x3, x4, x5, x6, x7, x8, x9, x10, x11, x12, rfl⟩
      exact s_ret ev_c fun H1 _ => hq H1)
    · show V.int _ = V.int _
      congr 1
      rw [hlen, Nat.max_def, Nat.min_def]
      split <;> split <;> split <;> split <;> omega
    rintro i σ' H1 hi ⟨e1, x1, x2, x3, x4, x5, x6, x7, x8, x9, x10, x11, x12, rfl⟩
    have hl1 := ex_l e1 hl
    -- the pool
    refine q_asgP (evp_cl (ea_cons (ev_var rfl) (ea_cons (ev_var rfl) ea_nil)) (use_law_pool hl1 (by omega))) fun v H2 e2 ⟨H0, e0, p, hv, np0, hp2⟩ => ?_
    subst hv
    have np : H p = none := fresh_back (e1.trans e0) np0
    have e12 := e1.trans e2
    -- the size
    refine q_asgR ⟨_, rfl, p, 5, rfl, hp2, by decide, by decide, fun d H3 hd of3 hp3 => ⟨2, (d : Int), rfl, rfl, ?_⟩⟩
    have ek : V.int (2 + (d : Int)) = nV (2 + d) := by show V.int _ = V.int _; congr 1
    obtain ⟨k, hk⟩ : ∃ k, k = 2 + d := ⟨_, rfl⟩
    rw [← hk] at ek
    refine tSeq_at (congrArg (fun z => [some (V.ref l), some (nV i), some (V.ref p), some z, x4, x5, x6, x7, x8, x9, x10, x11, x12]) ek) ?_
    have h2 : 2 ≤ k := by omega
    have h8 : k ≤ 8 := by omega
    -- the table
    refine q_asgR ⟨_, rfl, _, rfl, p, k, rfl, hp3, h2, h8, fun lt t H4 G of4 hp4 hR => ?_⟩
    obtain ⟨c4, s4, hps4, hcs4⟩ := hp4
    refine fun tb dx ntb ndx ne => ?_
    have e45 : Ex H4 (upd (upd H4 dx (.own tb)) tb (.ins a.c_Table dx [])) := (Ex.new ndx).mut ntb
    refine ⟨tb, lt, dx, k, t, rfl, upd_same, hR.mono e45, G, fun H5 l' of5 hx' nl' hR' => ⟨rfl, ?_⟩⟩
    have e5 : Ex H4 H5 := fun b o hb => of5 b o (ne_of_none hb ntb) (e45 b o hb)
    have hTF : TabF a H4 H5 tb k t := ⟨G, dx, l', hx', fresh_back e45 nl', intsF_back e45 hR'⟩
    have eH5 : Ex H H5 := (Off.ex np (Off.ex np e12 of3) of4).trans e5
    have hT5 := hTF.x hps4
    -- groups and quotient
    refine q_twoP (evp_cl (ea_cons (ev_var rfl) ea_nil) (use_groups hT5.t)) (evp_cl (ea_cons (ev_var rfl) ea_nil) (use_quotient hT5.t)) fun x y H6 H7 Hc e6 e7 e8 r1 r2 => ?_
    obtain ⟨Hg, eg, f, rfl, nf, hF6⟩ := r1
    obtain ⟨Hq, eq, sm, rfl, hS7⟩ := r2
    have hps5 := e5 _ _ hps4
    have hpsg := eg _ _ hps5
    have nfp : f ≠ p := (ne_of_none hpsg nf).symm
    have hFc : ListAt (IntsX p) Hc f (grps k t) := (intsF_x hpsg hF6).mono grows_intsX (e7.trans e8)
    have hSc : TabX a Hc p sm (ng k t) (quo k t) := (hS7.x (eq _ _ (e6 _ _ hps5))).mono e8
    have e58 := (e6.trans e7).trans e8
    have hTc : TabX a Hc p tb k t := hT5.mono e58
    have hpsc := e58 _ _ hps5
    have hpc : PoolAt Hc p := ⟨c4, s4, hpsc, hcs4⟩
    have eHc : Ex H Hc := eH5.trans e58
    have Qt := quot_ok G
    have G' := Qt.good G
    have A' := Qt.assoc G
    -- the counts
    refine q_asgR (lc_rng (n := k) (ea_cons (ev_var rfl) ea_nil) (by omega) (fun v => rfl) (fun D i zs H' => Hc D = none ∧ Off p Hc H' ∧ PoolAt H' p ∧ ∃ n : Nat → Nat, zs = nF i n)
      (fun D H' e' hD => ⟨fresh_back e' hD, (off_of e').trans (off_of (Ex.new hD)), (hpc.mono e').mono (Ex.new hD), fun _ => 0, rfl⟩) (fun D i zs H' hi ⟨hD, of, hp', n, hz⟩ hlz => ?_) (fun cl zs H8 ⟨hcl, of8, hp8, n, hz⟩ hlz => ?_))
    · have nDp : D ≠ p := (ne_of_none hpsc hD).symm
      refine ⟨_, rfl, ⟨_, rfl, 10, 30, rfl, rfl, ⟨by decide, by decide, by decide⟩, p, 10 ^ 30, congrArg (fun z => [V.ref p, V.int z]) (by decide), hp', by decide, by decide, fun d H9 hd of9 hp9 => ⟨sz_of (by show 4 ≤ 100000; decide), fun r nr => ?_⟩⟩⟩
      obtain ⟨c9, s9, hps9, hcs9⟩ := hp9
      have npr : p ≠ r := ne_of_none hps9 nr
      refine ⟨p, r, _, rfl, ⟨c9, s9, Ex.new nr _ _ hps9, hcs9⟩, npr, upd_same, by show 0 < 4; decide, by show 4 < 1000; decide, fun m v H10 hv of10 hp10 => ?_⟩
      obtain ⟨z, hzv⟩ : ∃ z : Nat, v = nV z := by
        match m, hv with
        | 0, hv => exact ⟨0, (Option.some.inj hv).symm⟩
        | 1, hv => exact ⟨1, (Option.some.inj hv).symm⟩
        | 2, hv => exact ⟨3, (Option.some.inj hv).symm⟩
        | 3, hv => exact ⟨d, (Option.some.inj hv).symm⟩
      subst hzv
      have hl9 := of9 _ _ nDp hlz
      have hl10 := of10 _ _ nDp (Ex.new nr _ _ hl9)
      refine ⟨zs, hl10, sz_lt (by rw [hz, nF_len]; omega), zs ++ [nV z], upd_same, hD, fun b o nb h => ?_, ?_, fun j => if j = i then z else n j, ?_⟩
      · rw [upd_ne (ne_of_none h hD)]
        exact of10 _ _ nb (Ex.new nr _ _ (of9 _ _ nb (of _ _ nb h)))
      · obtain ⟨c10, s10, hps10, hcs10⟩ := hp10
        exact ⟨c10, s10, by rw [upd_ne nDp.symm]; exact hps10, hcs10⟩
      · rw [hz]
        exact nF_snoc
    have ncp : cl ≠ p := (ne_of_none hpsc hcl).symm
    rw [hz] at hlz
    -- one bean more of the first colour
    refine q_setL (j := 0) (v := nV (n 0 + 1)) hlz (ev_is (ev_op (ev_ixl (i := 0) (ev_var rfl) ev_c hlz (nF_get (by omega))) ev_c rv_I0) rfl) (ev_var rfl) ev_c (by rw [nF_len]; omega) fun H9 e9 => ?_
    rw [nF_set (show 0 < k by omega)]
    generalize hn1 : (fun j => if j = 0 then n 0 + 1 else n j) = n1
    have hn10 : 0 < n1 0 := by rw [← hn1]; simp
    generalize hH10 : upd H9 cl (.lst (nF k n1)) = H10
    have hc10 : H10 cl = some (.lst (nF k n1)) := by rw [← hH10]; exact upd_same
    have of10 : Off p Hc H10 := fun b o nb h => by rw [← hH10, upd_ne (ne_of_none h hcl)]; exact e9 _ _ (of8 _ _ nb h)
    have hp10 : PoolAt H10 p := by
      obtain ⟨c, s, h, hcs⟩ := hp8
      exact ⟨c, s, by rw [← hH10, upd_ne ncp.symm]; exact e9 _ _ h, hcs⟩
    -- what is left of the counts
    refine q_asgL (el_lst ea_nil (by show 0 ≤ 100000; decide)) fun ls H11 nls e11 hls => ?_
    have nlsp : ls ≠ p := by
      obtain ⟨c, s, h, _⟩ := hp10
      exact (ne_of_none h nls).symm
    have nlsc : cl ≠ ls := ne_of_none hc10 nls
    have hlsc : Hc ls = none := by
      cases h : Hc ls with
      | none => rfl
      | some o => rw [of10 _ _ nlsp h] at nls; cases nls
    refine q_forR1 (n := (k : Int)) (ea_cons (ev_var rfl) ea_nil) (by omega) (fun c σ' H' => (∃ u8 u10, σ' = [some (.ref l), some (nV i), some (.ref p), some (nV k), some (.ref tb), some (.ref f), some (.ref sm), some (.ref cl), u8, some (.ref ls), u10, x11, x12]) ∧ Off p Hc H' ∧ PoolAt H' p ∧ H' cl = some (.lst (nF k n1)) ∧ ∃ r : Nat → Nat, H' ls = some (.lst (nF c r)) ∧ LessOk k t n1 r c)
      (fun H12 e12 => ⟨⟨_, _, rfl⟩, (of10.trans (off_of e11)).trans (off_of e12), (hp10.mono e11).mono e12, e12 _ _ (e11 _ _ hc10), fun _ => 0, e12 _ _ hls, fun c hc => by omega⟩) ?_ ?_
    · rintro c σ' H' hc ⟨⟨u8, u10, rfl⟩, of', hp', hcl', r, hls', hL⟩
      have hck : c < k := by omega
      have hg := gn_lt G hck
      have hngk : ng k t ≤ k := ng_le
      obtain ⟨ys, hys, ha⟩ := intsX_off hFc nfp of'
      have hyl : ys.length = ng k t := by rw [ha.1, grps_len]
      have ho : outs (fun i => decide (gn k t c = i)) (fun i => [i]) (ng k t) = [gn k t c] := by
        rw [outs_filter, filter_eq hg]
        rfl
      refine q_asg (v := nV (gn k t c)) (ev_opL1 (xs := nVs [gn k t c]) (el_newof (f := nV) (lc_as ho (n := ng k t) (S := SFlat nV) (b := fun i => decide (gn k t c = i)) (bs := fun i => [i]) keeps_flat (wi_range (n := ng k t) (ea_cons (ev_is (ev_lenS (ev_var rfl) (.inl (sq_of hys))) (by rw [hyl])) ea_nil) (by omega)) goes_range (fun i hi => rfl)
        (fun j hj => ?_) (fun D j hj _ => eb_flat (ev_var rfl)) (by show 1 < 100000; decide))) (fun H1 e => ev_c) (fun p H1 hp e => rv_ixL (sq_of hp) (atI_nat (j := 0) rfl))) fun H12 e12 => ?_
      · obtain ⟨y, hy, q, hqv, _, hq'⟩ := ha.2 j _ (grp_at hj)
        subst hqv
        refine et_is (et_test (ev_op (x := nV c) (ev_var rfl) (ev_ixl (i := j) (ev_var rfl) (ev_var rfl) hys hy) (rv_isL (sq_of hq') rfl (flat_nVs _)))) ?_
        rw [inV_nat, decide_eq_decide]
        exact in_group G (grp_at hj) hck
      · have hS12 : TabAt a H12 sm (ng k t) (quo k t) := (hSc.off hpsc (of'.trans (off_of e12))).t
        refine s_appP (l := ls) (xs := nF c r) (e12 _ _ hls') (ev_var rfl) (evp_cl (ea_cons (ev_var rfl) (ea_cons (ev_var rfl) (ea_cons (ev_ixl (i := c) (ev_var rfl) (ev_var rfl) (e12 _ _ hcl') (nF_get hck)) ea_nil))) (use_law_reduced hS12 A' hg)) (by rw [nF_len]; omega) fun v H13 e13 ⟨_, _, _, _, L, s, hP, hv⟩ => ?_
        subst hv
        have e123 := e12.trans e13
        refine ⟨⟨_, _, rfl⟩, fun b o nb h => ?_, ?_, ?_, fun j => if j = c then red s L (n1 c) else r j, ?_, fun j hj => ?_⟩
        · rw [upd_ne (ne_of_none h hlsc)]
          exact e123 _ _ (of' _ _ nb h)
        · obtain ⟨c', s', h, hcs⟩ := hp'
          exact ⟨c', s', by rw [upd_ne nlsp.symm]; exact e123 _ _ h, hcs⟩
        · rw [upd_ne nlsc]
          exact e123 _ _ hcl'
        · rw [upd_same, nF_snoc]
        · by_cases e : j = c
          · subst e
            exact ⟨L, s, hP, if_pos rfl⟩
          · obtain ⟨L', s', hP', hr'⟩ := hL j (by omega)
            exact ⟨L', s', hP', (if_neg e).trans hr'⟩
    rintro σ' H12 ⟨⟨u8, u10, rfl⟩, of12, hp12, hc12, r, hls12, hL⟩
    have hls12' : H12 ls = some (.lst (nF k r)) := hls12
    have hL' : LessOk k t n1 r k := hL
    have k1 : 1 ≤ k := by omega
    have hr0 := less_pos (show 0 < k by omega) hL' hn10
    have ht1 : 0 < tot k n1 := tot_ge (c := 0) (by omega) hn10
    have htr : 0 < tot k r := tot_ge (c := 0) (by omega) hr0
    have htl := less_le h8 hL'
    have hT12 := hTc.off hpsc of12
    refine q_asgP (evp_lg (ev_var rfl) hT12.t (evp_mkJarV (ev_var rfl) hc12 k1 h8) ht1) fun v H13 e13 ⟨q, i1, hv, hphi, hi1, nq, hqv⟩ => ?_
    subst hv
    have hls13 := e13 _ _ hls12'
    refine q_when (b := false) (et_opP (evp_lg (ev_var rfl) (hT12.mono e13).t (evp_mkJarV (ev_var rfl) hls13 k1 h8) htr) (ev_var rfl) (fun v H0 H1 e0 e1 ⟨q2, i2, hv, hphi2, _, _, hq2⟩ H2 e2 => ?_)) (fun h => nomatch h) fun _ H14 e14 => ?_
    · subst hv
      rw [less_quo G hL', hphi] at hphi2
      obtain rfl := Option.some.inj hphi2
      exact rv_neSame (e2 _ _ hq2) (((e0.trans e1).trans e2) _ _ hqv)
    have e24 := e13.trans e14
    have hls14 := e24 _ _ hls12'
    obtain ⟨cp, sp', hps12, hcs12⟩ := hp12
    have hps14 := e24 _ _ hps12
    have nqp : q ≠ p := (ne_of_none hps12 nq).symm
    refine ⟨_, rfl, _, rfl, evp_mkJarV (a := a) (ev_var rfl) hls14 k1 h8 H14 (Ex.refl H14) _ fun v H15 e15 ⟨j, hv, _, hJF⟩ => ?_⟩
    subst hv
    have e25 := e24.trans e15
    have of15 : Off p Hc H15 := of12.trans (off_of e25)
    refine ⟨p, tb, j, k, t, r, rfl, ⟨cp, sp', e25 _ _ hps12, hcs12⟩, hTc.off hpsc of15, hJF.x hps14, htr, by omega, fun c H16 hck hphi3 of16 hp16 => ⟨_, rfl, ?_⟩⟩
    have hq16 := of16 _ _ nqp (e15 _ _ (e14 _ _ hqv))
    rw [less_quo G hL', hphi] at hphi3
    have hin : inV (nV c) (nVs ((grps k t).getD i1 [])) = true := by
      rw [inV_nat]
      exact decide_eq_true ((in_group G (grp_at hi1) hck).mpr (Option.some.inj hphi3).symm)
    refine rv_niL (sq_of hq16) rfl (flat_nVs _) H16 (Ex.refl H16) _ fun H17 e17 => ⟨_, rfl, ?_⟩
    rw [hin]
    refine ite_no2 ?_
    dsimp only [tNext]
    have of17 : Off p Hc H17 := (of15.trans of16).trans (off_of e17)
    have hT17 := (hTc.off hpsc of17).t
    have hc17 : H17 cl = some (.lst (nF k n1)) := e17 _ _ (of16 _ _ ncp (e25 _ _ hc12))
    have hls17 : H17 ls = some (.lst (nF k r)) := e17 _ _ (of16 _ _ nlsp (e25 _ _ hls12'))
    refine s_when (b := false) (et_is (et_and (et_B (ev_cl (ea_cons (ev_var rfl) ea_nil) (use_passes hT17))) (fun hA => et_test (ev_op (ev_lb (ev_var rfl) hT17 (assocB_iff.mp hA) (evp_mkJarV (ev_var rfl) hc17 k1 h8) ht1) (ev_lb (ev_var rfl) hT17 (assocB_iff.mp hA) (evp_mkJarV (ev_var rfl) hls17 k1 h8) htr) (rv_ne (scal_opt _ _))))) ?_) (fun h => nomatch h) fun _ H18 e18 => ⟨(Off.ex np eHc of17).trans e18, _, _, _, _, _, _, _, _, _, _, _, _, rfl⟩
    cases hA : assocB k t with
    | false => rfl
    | true =>
      rw [less_own G (assocB_iff.mp hA) hL']
      simp
end
end Bj

open PySem PySem.W
open PyProof.Rows
set_option maxHeartbeats 0
open_top bjhead for PySem.Challenge.rw_beanjars_k87_whole_counts_reduced

namespace Bj
open PySem PySem.W
open PyProof.Rows L2
theorem txt_mk {K : PySem.W.Frag} {h : Heap} {mg : Str → Option Value} {t8 : Tok} (X : K.In h) (G : h.Ns mainGlobals mg)
    {c_Table c_Jar c_Forest f_is_integer f_is_colour f_has_shape f_places f_first_wrong_place f_are_counts f_validate_beans f_after f_is_disputed f_first_dispute f_passes f_test_steps f_put_steps f_group_names f_groups f_quotient f_group_number f_validate_passes f_product f_times f_last_bean f_last_group f_powers f_law_pool f_law_draw f_law_choose f_law_rows f_law_kind f_law_reduced f_law_drawn f_law f_Table_init f_Table_size f_Table_validate_colour f_Table_getitem p_Table_size f_Jar_init f_Jar_of_beans f_Jar_size f_Jar_total f_Jar_colours f_Jar_getitem f_Jar_contains f_Jar_bool f_Jar_validate_size f_Jar_add f_Jar_sub f_Jar_can_draw f_Jar_draws p_Jar_of_beans p_Jar_size p_Jar_total f_Forest_init f_Forest_join f_Forest_names : Addr}
    {oc1 kV1 dc1 pm1 cd1 ct1 oc5 kV5 dc5 pm5 cd5 ct5 oc9 kV9 dc9 pm9 cd9 ct9 oc13 kV13 dc13 pm13 cd13 ct13 oc17 kV17 dc17 pm17 cd17 ct17 oc21 kV21 dc21 pm21 cd21 ct21 oc25 kV25 dc25 pm25 cd25 ct25 oc29 kV29 dc29 pm29 cd29 ct29 oc33 kV33 dc33 pm33 cd33 ct33 oc37 kV37 dc37 pm37 cd37 ct37 oc41 kV41 dc41 pm41 cd41 ct41 oc45 kV45 dc45 pm45 cd45 ct45 oc49 kV49 dc49 pm49 cd49 ct49 oc53 kV53 dc53 pm53 cd53 ct53 oc57 kV57 dc57 pm57 cd57 ct57 oc61 kV61 dc61 pm61 cd61 ct61 oc65 kV65 dc65 pm65 cd65 ct65 oc69 kV69 dc69 pm69 cd69 ct69 oc73 kV73 dc73 pm73 cd73 ct73 oc77 kV77 dc77 pm77 cd77 ct77 oc81 kV81 dc81 pm81 cd81 ct81 oc85 kV85 dc85 pm85 cd85 ct85 oc89 kV89 dc89 pm89 cd89 ct89 oc93 kV93 dc93 pm93 cd93 ct93 oc97 kV97 dc97 pm97 cd97 ct97 oc101 kV101 dc101 pm101 cd101 ct101 oc105 kV105 dc105 pm105 cd105 ct105 oc109 kV109 dc109 pm109 cd109 ct109 oc113 kV113 dc113 pm113 cd113 ct113 oc117 kV117 dc117 pm117 cd117 ct117 oc121 kV121 dc121 pm121 cd121 ct121 oc133 kV133 dc133 pm133 cd133 ct133 oc142 kV142 dc142 pm142 cd142 ct142 oc147 kV147 dc147 pm147 cd147 ct147 oc152 kV152 dc152 pm152 cd152 ct152 oc165 kV165 dc165 pm165 cd165 ct165 oc175 kV175 dc175 pm175 cd175 ct175 oc182 kV182 dc182 pm182 cd182 ct182 oc189 kV189 dc189 pm189 cd189 ct189 oc194 kV194 dc194 pm194 cd194 ct194 oc199 kV199 dc199 pm199 cd199 ct199 oc205 kV205 dc205 pm205 cd205 ct205 oc210 kV210 dc210 pm210 cd210 ct210 oc215 kV215 dc215 pm215 cd215 ct215 oc220 kV220 dc220 pm220 cd220 ct220 oc225 kV225 dc225 pm225 cd225 ct225 oc230 kV230 dc230 pm230 cd230 ct230 oc235 kV235 dc235 pm235 cd235 ct235 oc249 kV249 dc249 pm249 cd249 ct249 oc256 kV256 dc256 pm256 cd256 ct256 oc261 kV261 dc261 pm261 cd261 ct261 : Value}
    {od1 an1 od5 an5 od9 an9 od13 an13 od17 an17 od21 an21 od25 an25 od29 an29 od33 an33 od37 an37 od41 an41 od45 an45 od49 an49 od53 an53 od57 an57 od61 an61 od65 an65 od69 an69 od73 an73 od77 an77 od81 an81 od85 an85 od89 an89 od93 an93 od97 an97 od101 an101 od105 an105 od109 an109 od113 an113 od117 an117 od121 an121 od133 an133 od142 an142 od147 an147 od152 an152 od165 an165 od175 an175 od182 an182 od189 an189 od194 an194 od199 an199 od205 an205 od210 an210 od215 an215 od220 an220 od225 an225 od230 an230 od235 an235 od249 an249 od256 an256 od261 an261 : Option Addr}
    {sl1 sl5 sl9 sl13 sl17 sl21 sl25 sl29 sl33 sl37 sl41 sl45 sl49 sl53 sl57 sl61 sl65 sl69 sl73 sl77 sl81 sl85 sl89 sl93 sl97 sl101 sl105 sl109 sl113 sl117 sl121 sl133 sl142 sl147 sl152 sl165 sl175 sl182 sl189 sl194 sl199 sl205 sl210 sl215 sl220 sl225 sl230 sl235 sl249 sl256 sl261 : Array (Option Value)} {rs141 rs173 rs181 rs188 : List Value}
    (z1 : PySem.W.nsIn K mainGlobals "is_integer" = some (some (.ref f_is_integer)))
    (z2 : K.lookup f_is_integer = some ⟨oc1, od1, .func (PySem.W.fnOf "is_integer" "is_integer" (defArgs s_is_integer) (defBody s_is_integer) (defScope s_is_integer) .none kV1 dc1 pm1 an1 cd1 ct1), sl1⟩)
    (z3 : PySem.W.codeIn K cd1 "is_integer" = true)
    (z4 : PySem.W.keepIn K (.ref f_is_integer) = true)
    (z5 : PySem.W.nsIn K mainGlobals "is_colour" = some (some (.ref f_is_colour)))
    (z6 : K.lookup f_is_colour = some ⟨oc5, od5, .func (PySem.W.fnOf "is_colour" "is_colour" (defArgs s_is_colour) (defBody s_is_colour) (defScope s_is_colour) .none kV5 dc5 pm5 an5 cd5 ct5), sl5⟩)
    (z7 : PySem.W.codeIn K cd5 "is_colour" = true)
    (z8 : PySem.W.keepIn K (.ref f_is_colour) = true)
    (z9 : PySem.W.nsIn K mainGlobals "has_shape" = some (some (.ref f_has_shape)))
    (z10 : K.lookup f_has_shape = some ⟨oc9, od9, .func (PySem.W.fnOf "has_shape" "has_shape" (defArgs s_has_shape) (defBody s_has_shape) (defScope s_has_shape) .none kV9 dc9 pm9 an9 cd9 ct9), sl9⟩)
    (z11 : PySem.W.codeIn K cd9 "has_shape" = true)
    (z12 : PySem.W.keepIn K (.ref f_has_shape) = true)
    (z13 : PySem.W.nsIn K mainGlobals "places" = some (some (.ref f_places)))
    (z14 : K.lookup f_places = some ⟨oc13, od13, .func (PySem.W.fnOf "places" "places" (defArgs s_places) (defBody s_places) (defScope s_places) .none kV13 dc13 pm13 an13 cd13 ct13), sl13⟩)
    (z15 : PySem.W.codeIn K cd13 "places" = true)
    (z16 : PySem.W.keepIn K (.ref f_places) = true)
    (z17 : PySem.W.nsIn K mainGlobals "first_wrong_place" = some (some (.ref f_first_wrong_place)))
    (z18 : K.lookup f_first_wrong_place = some ⟨oc17, od17, .func (PySem.W.fnOf "first_wrong_place" "first_wrong_place" (defArgs s_first_wrong_place) (defBody s_first_wrong_place) (defScope s_first_wrong_place) .none kV17 dc17 pm17 an17 cd17 ct17), sl17⟩)
    (z19 : PySem.W.codeIn K cd17 "first_wrong_place" = true)
    (z20 : PySem.W.keepIn K (.ref f_first_wrong_place) = true)
    (z21 : PySem.W.nsIn K mainGlobals "are_counts" = some (some (.ref f_are_counts)))
    (z22 : K.lookup f_are_counts = some ⟨oc21, od21, .func (PySem.W.fnOf "are_counts" "are_counts" (defArgs s_are_counts) (defBody s_are_counts) (defScope s_are_counts) .none kV21 dc21 pm21 an21 cd21 ct21), sl21⟩)
    (z23 : PySem.W.codeIn K cd21 "are_counts" = true)
    (z24 : PySem.W.keepIn K (.ref f_are_counts) = true)
    (z25 : PySem.W.nsIn K mainGlobals "validate_beans" = some (some (.ref f_validate_beans)))
    (z26 : K.lookup f_validate_beans = some ⟨oc25, od25, .func (PySem.W.fnOf "validate_beans" "validate_beans" (defArgs s_validate_beans) (defBody s_validate_beans) (defScope s_validate_beans) .none kV25 dc25 pm25 an25 cd25 ct25), sl25⟩)
    (z27 : PySem.W.codeIn K cd25 "validate_beans" = true)
    (z28 : PySem.W.keepIn K (.ref f_validate_beans) = true)
    (z29 : PySem.W.nsIn K mainGlobals "after" = some (some (.ref f_after)))
    (z30 : K.lookup f_after = some ⟨oc29, od29, .func (PySem.W.fnOf "after" "after" (defArgs s_after) (defBody s_after) (defScope s_after) .none kV29 dc29 pm29 an29 cd29 ct29), sl29⟩)
    (z31 : PySem.W.codeIn K cd29 "after" = true)
    (z32 : PySem.W.keepIn K (.ref f_after) = true)
    (z33 : PySem.W.nsIn K mainGlobals "is_disputed" = some (some (.ref f_is_disputed)))
    (z34 : K.lookup f_is_disputed = some ⟨oc33, od33, .func (PySem.W.fnOf "is_disputed" "is_disputed" (defArgs s_is_disputed) (defBody s_is_disputed) (defScope s_is_disputed) .none kV33 dc33 pm33 an33 cd33 ct33), sl33⟩)
    (z35 : PySem.W.codeIn K cd33 "is_disputed" = true)
    (z36 : PySem.W.keepIn K (.ref f_is_disputed) = true)
    (z37 : PySem.W.nsIn K mainGlobals "first_dispute" = some (some (.ref f_first_dispute)))
    (z38 : K.lookup f_first_dispute = some ⟨oc37, od37, .func (PySem.W.fnOf "first_dispute" "first_dispute" (defArgs s_first_dispute) (defBody s_first_dispute) (defScope s_first_dispute) .none kV37 dc37 pm37 an37 cd37 ct37), sl37⟩)
    (z39 : PySem.W.codeIn K cd37 "first_dispute" = true)
    (z40 : PySem.W.keepIn K (.ref f_first_dispute) = true)
    (z41 : PySem.W.nsIn K mainGlobals "passes" = some (some (.ref f_passes)))
    (z42 : K.lookup f_passes = some ⟨oc41, od41, .func (PySem.W.fnOf "passes" "passes" (defArgs s_passes) (defBody s_passes) (defScope s_passes) .none kV41 dc41 pm41 an41 cd41 ct41), sl41⟩)
    (z43 : PySem.W.codeIn K cd41 "passes" = true)
    (z44 : PySem.W.keepIn K (.ref f_passes) = true)
    (z45 : PySem.W.nsIn K mainGlobals "test_steps" = some (some (.ref f_test_steps)))
    (z46 : K.lookup f_test_steps = some ⟨oc45, od45, .func (PySem.W.fnOf "test_steps" "test_steps" (defArgs s_test_steps) (defBody s_test_steps) (defScope s_test_steps) .none kV45 dc45 pm45 an45 cd45 ct45), sl45⟩)
    (z47 : PySem.W.codeIn K cd45 "test_steps" = true)
    (z48 : PySem.W.keepIn K (.ref f_test_steps) = true)
    (z49 : PySem.W.nsIn K mainGlobals "put_steps" = some (some (.ref f_put_steps)))
    (z50 : K.lookup f_put_steps = some ⟨oc49, od49, .func (PySem.W.fnOf "put_steps" "put_steps" (defArgs s_put_steps) (defBody s_put_steps) (defScope s_put_steps) .none kV49 dc49 pm49 an49 cd49 ct49), sl49⟩)
    (z51 : PySem.W.codeIn K cd49 "put_steps" = true)
    (z52 : PySem.W.keepIn K (.ref f_put_steps) = true)
    (z53 : PySem.W.nsIn K mainGlobals "group_names" = some (some (.ref f_group_names)))
    (z54 : K.lookup f_group_names = some ⟨oc53, od53, .func (PySem.W.fnOf "group_names" "group_names" (defArgs s_group_names) (defBody s_group_names) (defScope s_group_names) .none kV53 dc53 pm53 an53 cd53 ct53), sl53⟩)
    (z55 : PySem.W.codeIn K cd53 "group_names" = true)
    (z56 : PySem.W.keepIn K (.ref f_group_names) = true)
    (z57 : PySem.W.nsIn K mainGlobals "groups" = some (some (.ref f_groups)))
    (z58 : K.lookup f_groups = some ⟨oc57, od57, .func (PySem.W.fnOf "groups" "groups" (defArgs s_groups) (defBody s_groups) (defScope s_groups) .none kV57 dc57 pm57 an57 cd57 ct57), sl57⟩)
    (z59 : PySem.W.codeIn K cd57 "groups" = true)
    (z60 : PySem.W.keepIn K (.ref f_groups) = true)
    (z61 : PySem.W.nsIn K mainGlobals "quotient" = some (some (.ref f_quotient)))
    (z62 : K.lookup f_quotient = some ⟨oc61, od61, .func (PySem.W.fnOf "quotient" "quotient" (defArgs s_quotient) (defBody s_quotient) (defScope s_quotient) .none kV61 dc61 pm61 an61 cd61 ct61), sl61⟩)
    (z63 : PySem.W.codeIn K cd61 "quotient" = true)
    (z64 : PySem.W.keepIn K (.ref f_quotient) = true)
    (z65 : PySem.W.nsIn K mainGlobals "group_number" = some (some (.ref f_group_number)))
    (z66 : K.lookup f_group_number = some ⟨oc65, od65, .func (PySem.W.fnOf "group_number" "group_number" (defArgs s_group_number) (defBody s_group_number) (defScope s_group_number) .none kV65 dc65 pm65 an65 cd65 ct65), sl65⟩)
    (z67 : PySem.W.codeIn K cd65 "group_number" = true)
    (z68 : PySem.W.keepIn K (.ref f_group_number) = true)
    (z69 : PySem.W.nsIn K mainGlobals "validate_passes" = some (some (.ref f_validate_passes)))
    (z70 : K.lookup f_validate_passes = some ⟨oc69, od69, .func (PySem.W.fnOf "validate_passes" "validate_passes" (defArgs s_validate_passes) (defBody s_validate_passes) (defScope s_validate_passes) .none kV69 dc69 pm69 an69 cd69 ct69), sl69⟩)
    (z71 : PySem.W.codeIn K cd69 "validate_passes" = true)
    (z72 : PySem.W.keepIn K (.ref f_validate_passes) = true)
    (z73 : PySem.W.nsIn K mainGlobals "product" = some (some (.ref f_product)))
    (z74 : K.lookup f_product = some ⟨oc73, od73, .func (PySem.W.fnOf "product" "product" (defArgs s_product) (defBody s_product) (defScope s_product) .none kV73 dc73 pm73 an73 cd73 ct73), sl73⟩)
    (z75 : PySem.W.codeIn K cd73 "product" = true)
    (z76 : PySem.W.keepIn K (.ref f_product) = true)
    (z77 : PySem.W.nsIn K mainGlobals "times" = some (some (.ref f_times)))
    (z78 : K.lookup f_times = some ⟨oc77, od77, .func (PySem.W.fnOf "times" "times" (defArgs s_times) (defBody s_times) (defScope s_times) .none kV77 dc77 pm77 an77 cd77 ct77), sl77⟩)
    (z79 : PySem.W.codeIn K cd77 "times" = true)
    (z80 : PySem.W.keepIn K (.ref f_times) = true)
    (z81 : PySem.W.nsIn K mainGlobals "last_bean" = some (some (.ref f_last_bean)))
    (z82 : K.lookup f_last_bean = some ⟨oc81, od81, .func (PySem.W.fnOf "last_bean" "last_bean" (defArgs s_last_bean) (defBody s_last_bean) (defScope s_last_bean) .none kV81 dc81 pm81 an81 cd81 ct81), sl81⟩)
    (z83 : PySem.W.codeIn K cd81 "last_bean" = true)
    (z84 : PySem.W.keepIn K (.ref f_last_bean) = true)
    (z85 : PySem.W.nsIn K mainGlobals "last_group" = some (some (.ref f_last_group)))
    (z86 : K.lookup f_last_group = some ⟨oc85, od85, .func (PySem.W.fnOf "last_group" "last_group" (defArgs s_last_group) (defBody s_last_group) (defScope s_last_group) .none kV85 dc85 pm85 an85 cd85 ct85), sl85⟩)
    (z87 : PySem.W.codeIn K cd85 "last_group" = true)
    (z88 : PySem.W.keepIn K (.ref f_last_group) = true)
    (z89 : PySem.W.nsIn K mainGlobals "powers" = some (some (.ref f_powers)))
    (z90 : K.lookup f_powers = some ⟨oc89, od89, .func (PySem.W.fnOf "powers" "powers" (defArgs s_powers) (defBody s_powers) (defScope s_powers) .none kV89 dc89 pm89 an89 cd89 ct89), sl89⟩)
    (z91 : PySem.W.codeIn K cd89 "powers" = true)
    (z92 : PySem.W.keepIn K (.ref f_powers) = true)
    (z93 : PySem.W.nsIn K mainGlobals "_law_pool" = some (some (.ref f_law_pool)))
    (z94 : K.lookup f_law_pool = some ⟨oc93, od93, .func (PySem.W.fnOf "_law_pool" "_law_pool" (defArgs s_law_pool) (defBody s_law_pool) (defScope s_law_pool) .none kV93 dc93 pm93 an93 cd93 ct93), sl93⟩)
    (z95 : PySem.W.codeIn K cd93 "_law_pool" = true)
    (z96 : PySem.W.keepIn K (.ref f_law_pool) = true)
    (z97 : PySem.W.nsIn K mainGlobals "_law_draw" = some (some (.ref f_law_draw)))
    (z98 : K.lookup f_law_draw = some ⟨oc97, od97, .func (PySem.W.fnOf "_law_draw" "_law_draw" (defArgs s_law_draw) (defBody s_law_draw) (defScope s_law_draw) .none kV97 dc97 pm97 an97 cd97 ct97), sl97⟩)
    (z99 : PySem.W.codeIn K cd97 "_law_draw" = true)
    (z100 : PySem.W.keepIn K (.ref f_law_draw) = true)
    (z101 : PySem.W.nsIn K mainGlobals "_law_choose" = some (some (.ref f_law_choose)))
    (z102 : K.lookup f_law_choose = some ⟨oc101, od101, .func (PySem.W.fnOf "_law_choose" "_law_choose" (defArgs s_law_choose) (defBody s_law_choose) (defScope s_law_choose) .none kV101 dc101 pm101 an101 cd101 ct101), sl101⟩)
    (z103 : PySem.W.codeIn K cd101 "_law_choose" = true)
    (z104 : PySem.W.keepIn K (.ref f_law_choose) = true)
    (z105 : PySem.W.nsIn K mainGlobals "_law_rows" = some (some (.ref f_law_rows)))
    (z106 : K.lookup f_law_rows = some ⟨oc105, od105, .func (PySem.W.fnOf "_law_rows" "_law_rows" (defArgs s_law_rows) (defBody s_law_rows) (defScope s_law_rows) .none kV105 dc105 pm105 an105 cd105 ct105), sl105⟩)
    (z107 : PySem.W.codeIn K cd105 "_law_rows" = true)
    (z108 : PySem.W.keepIn K (.ref f_law_rows) = true)
    (z109 : PySem.W.nsIn K mainGlobals "_law_kind" = some (some (.ref f_law_kind)))
    (z110 : K.lookup f_law_kind = some ⟨oc109, od109, .func (PySem.W.fnOf "_law_kind" "_law_kind" (defArgs s_law_kind) (defBody s_law_kind) (defScope s_law_kind) .none kV109 dc109 pm109 an109 cd109 ct109), sl109⟩)
    (z111 : PySem.W.codeIn K cd109 "_law_kind" = true)
    (z112 : PySem.W.keepIn K (.ref f_law_kind) = true)
    (z113 : PySem.W.nsIn K mainGlobals "_law_reduced" = some (some (.ref f_law_reduced)))
    (z114 : K.lookup f_law_reduced = some ⟨oc113, od113, .func (PySem.W.fnOf "_law_reduced" "_law_reduced" (defArgs s_law_reduced) (defBody s_law_reduced) (defScope s_law_reduced) .none kV113 dc113 pm113 an113 cd113 ct113), sl113⟩)
    (z115 : PySem.W.codeIn K cd113 "_law_reduced" = true)
    (z116 : PySem.W.keepIn K (.ref f_law_reduced) = true)
    (z117 : PySem.W.nsIn K mainGlobals "_law_drawn" = some (some (.ref f_law_drawn)))
    (z118 : K.lookup f_law_drawn = some ⟨oc117, od117, .func (PySem.W.fnOf "_law_drawn" "_law_drawn" (defArgs s_law_drawn) (defBody s_law_drawn) (defScope s_law_drawn) .none kV117 dc117 pm117 an117 cd117 ct117), sl117⟩)
    (z119 : PySem.W.codeIn K cd117 "_law_drawn" = true)
    (z120 : PySem.W.keepIn K (.ref f_law_drawn) = true)
    (z121 : PySem.W.nsIn K mainGlobals "law" = some (some (.ref f_law)))
    (z122 : K.lookup f_law = some ⟨oc121, od121, .func (PySem.W.fnOf "law" "law" (defArgs s_law) (defBody s_law) (defScope s_law) .none kV121 dc121 pm121 an121 cd121 ct121), sl121⟩)
    (z123 : PySem.W.codeIn K cd121 "law" = true)
    (z124 : PySem.W.keepIn K (.ref f_law) = true)
    (z125 : PySem.W.nsIn K mainGlobals "Table" = some (some (.ref c_Table)))
    (z126 : PySem.W.plainGet K c_Table Str.empty = true)
    (z127 : PySem.W.hasDictIn K c_Table = true)
    (z128 : PySem.W.plainOver K c_Table = true)
    (z129 : PySem.W.findIn K (.ref c_Table) "__setattr__" = some (some (.builtin "object.__setattr__")))
    (z130 : PySem.W.selfFirst K c_Table = true)
    (z131 : PySem.W.findIn K (.ref c_Table) "own_rows" = some none)
    (z132 : PySem.W.findIn K (.ref c_Table) "__init__" = some (some (.ref f_Table_init)))
    (z133 : PySem.W.isFn K (.ref f_Table_init) = true)
    (z134 : K.lookup f_Table_init = some ⟨oc133, od133, .func (PySem.W.fnOf "__init__" "Table.__init__" (defArgs s_Table_init) (defBody s_Table_init) (defScope s_Table_init) .none kV133 dc133 pm133 an133 cd133 ct133), sl133⟩)
    (z135 : PySem.W.codeIn K cd133 "Table.__init__" = true)
    (z136 : PySem.W.keepIn K (.ref f_Table_init) = true)
    (z137 : PySem.W.makesIn K c_Table = true)
    (z138 : PySem.W.keepIn K (.ref c_Table) = true)
    (z139 : PySem.W.findIn K (.ref c_Table) "size" = some (some (.ref p_Table_size)))
    (z140 : PySem.W.specialIn K (.ref p_Table_size) "__get__" = some (some (.builtin "property.__get__")))
    (z141 : PySem.W.takesIn K (.ref p_Table_size) = some true)
    (z142 : PySem.W.recIn K p_Table_size "property" = some (.ref f_Table_size :: rs141))
    (z143 : K.lookup f_Table_size = some ⟨oc142, od142, .func (PySem.W.fnOf "size" "Table.size" (defArgs s_Table_size) (defBody s_Table_size) (defScope s_Table_size) .none kV142 dc142 pm142 an142 cd142 ct142), sl142⟩)
    (z144 : PySem.W.codeIn K cd142 "Table.size" = true)
    (z145 : PySem.W.keepIn K (.ref f_Table_size) = true)
    (z146 : PySem.W.findIn K (.ref c_Table) "validate_colour" = some (some (.ref f_Table_validate_colour)))
    (z147 : PySem.W.isFn K (.ref f_Table_validate_colour) = true)
    (z148 : K.lookup f_Table_validate_colour = some ⟨oc147, od147, .func (PySem.W.fnOf "validate_colour" "Table.validate_colour" (defArgs s_Table_validate_colour) (defBody s_Table_validate_colour) (defScope s_Table_validate_colour) .none kV147 dc147 pm147 an147 cd147 ct147), sl147⟩)
    (z149 : PySem.W.codeIn K cd147 "Table.validate_colour" = true)
    (z150 : PySem.W.keepIn K (.ref f_Table_validate_colour) = true)
    (z151 : PySem.W.findIn K (.ref c_Table) "__getitem__" = some (some (.ref f_Table_getitem)))
    (z152 : PySem.W.isFn K (.ref f_Table_getitem) = true)
    (z153 : K.lookup f_Table_getitem = some ⟨oc152, od152, .func (PySem.W.fnOf "__getitem__" "Table.__getitem__" (defArgs s_Table_getitem) (defBody s_Table_getitem) (defScope s_Table_getitem) .none kV152 dc152 pm152 an152 cd152 ct152), sl152⟩)
    (z154 : PySem.W.codeIn K cd152 "Table.__getitem__" = true)
    (z155 : PySem.W.keepIn K (.ref f_Table_getitem) = true)
    (z156 : PySem.W.fnIn K f_Table_getitem = true)
    (z157 : PySem.W.nsIn K mainGlobals "Jar" = some (some (.ref c_Jar)))
    (z158 : PySem.W.plainGet K c_Jar Str.empty = true)
    (z159 : PySem.W.hasDictIn K c_Jar = true)
    (z160 : PySem.W.plainOver K c_Jar = true)
    (z161 : PySem.W.findIn K (.ref c_Jar) "__setattr__" = some (some (.builtin "object.__setattr__")))
    (z162 : PySem.W.selfFirst K c_Jar = true)
    (z163 : PySem.W.findIn K (.ref c_Jar) "own_counts" = some none)
    (z164 : PySem.W.findIn K (.ref c_Jar) "__init__" = some (some (.ref f_Jar_init)))
    (z165 : PySem.W.isFn K (.ref f_Jar_init) = true)
    (z166 : K.lookup f_Jar_init = some ⟨oc165, od165, .func (PySem.W.fnOf "__init__" "Jar.__init__" (defArgs s_Jar_init) (defBody s_Jar_init) (defScope s_Jar_init) .none kV165 dc165 pm165 an165 cd165 ct165), sl165⟩)
    (z167 : PySem.W.codeIn K cd165 "Jar.__init__" = true)
    (z168 : PySem.W.keepIn K (.ref f_Jar_init) = true)
    (z169 : PySem.W.makesIn K c_Jar = true)
    (z170 : PySem.W.keepIn K (.ref c_Jar) = true)
    (z171 : PySem.W.readsIn K c_Jar (.type "type") = true)
    (z172 : PySem.W.specialIn K (.ref c_Jar) "__getattribute__" = some (some (.builtin "type.__getattribute__")))
    (z173 : PySem.W.findCls K (.ref c_Jar) (.type "type") "of_beans" = some (.get (.builtin "classmethod.__get__") (.ref p_Jar_of_beans) .none (.ref c_Jar)))
    (z174 : PySem.W.recIn K p_Jar_of_beans "classmethod" = some (.ref f_Jar_of_beans :: rs173))
    (z175 : PySem.W.fnIn K f_Jar_of_beans = true)
    (z176 : K.lookup f_Jar_of_beans = some ⟨oc175, od175, .func (PySem.W.fnOf "of_beans" "Jar.of_beans" (defArgs s_Jar_of_beans) (defBody s_Jar_of_beans) (defScope s_Jar_of_beans) .none kV175 dc175 pm175 an175 cd175 ct175), sl175⟩)
    (z177 : PySem.W.codeIn K cd175 "Jar.of_beans" = true)
    (z178 : PySem.W.keepIn K (.ref f_Jar_of_beans) = true)
    (z179 : PySem.W.findIn K (.ref c_Jar) "size" = some (some (.ref p_Jar_size)))
    (z180 : PySem.W.specialIn K (.ref p_Jar_size) "__get__" = some (some (.builtin "property.__get__")))
    (z181 : PySem.W.takesIn K (.ref p_Jar_size) = some true)
    (z182 : PySem.W.recIn K p_Jar_size "property" = some (.ref f_Jar_size :: rs181))
    (z183 : K.lookup f_Jar_size = some ⟨oc182, od182, .func (PySem.W.fnOf "size" "Jar.size" (defArgs s_Jar_size) (defBody s_Jar_size) (defScope s_Jar_size) .none kV182 dc182 pm182 an182 cd182 ct182), sl182⟩)
    (z184 : PySem.W.codeIn K cd182 "Jar.size" = true)
    (z185 : PySem.W.keepIn K (.ref f_Jar_size) = true)
    (z186 : PySem.W.findIn K (.ref c_Jar) "total" = some (some (.ref p_Jar_total)))
    (z187 : PySem.W.specialIn K (.ref p_Jar_total) "__get__" = some (some (.builtin "property.__get__")))
    (z188 : PySem.W.takesIn K (.ref p_Jar_total) = some true)
    (z189 : PySem.W.recIn K p_Jar_total "property" = some (.ref f_Jar_total :: rs188))
    (z190 : K.lookup f_Jar_total = some ⟨oc189, od189, .func (PySem.W.fnOf "total" "Jar.total" (defArgs s_Jar_total) (defBody s_Jar_total) (defScope s_Jar_total) .none kV189 dc189 pm189 an189 cd189 ct189), sl189⟩)
    (z191 : PySem.W.codeIn K cd189 "Jar.total" = true)
    (z192 : PySem.W.keepIn K (.ref f_Jar_total) = true)
    (z193 : PySem.W.findIn K (.ref c_Jar) "colours" = some (some (.ref f_Jar_colours)))
    (z194 : PySem.W.isFn K (.ref f_Jar_colours) = true)
    (z195 : K.lookup f_Jar_colours = some ⟨oc194, od194, .func (PySem.W.fnOf "colours" "Jar.colours" (defArgs s_Jar_colours) (defBody s_Jar_colours) (defScope s_Jar_colours) .none kV194 dc194 pm194 an194 cd194 ct194), sl194⟩)
    (z196 : PySem.W.codeIn K cd194 "Jar.colours" = true)
    (z197 : PySem.W.keepIn K (.ref f_Jar_colours) = true)
    (z198 : PySem.W.findIn K (.ref c_Jar) "__getitem__" = some (some (.ref f_Jar_getitem)))
    (z199 : PySem.W.isFn K (.ref f_Jar_getitem) = true)
    (z200 : K.lookup f_Jar_getitem = some ⟨oc199, od199, .func (PySem.W.fnOf "__getitem__" "Jar.__getitem__" (defArgs s_Jar_getitem) (defBody s_Jar_getitem) (defScope s_Jar_getitem) .none kV199 dc199 pm199 an199 cd199 ct199), sl199⟩)
    (z201 : PySem.W.codeIn K cd199 "Jar.__getitem__" = true)
    (z202 : PySem.W.keepIn K (.ref f_Jar_getitem) = true)
    (z203 : PySem.W.fnIn K f_Jar_getitem = true)
    (z204 : PySem.W.findIn K (.ref c_Jar) "__contains__" = some (some (.ref f_Jar_contains)))
    (z205 : PySem.W.isFn K (.ref f_Jar_contains) = true)
    (z206 : K.lookup f_Jar_contains = some ⟨oc205, od205, .func (PySem.W.fnOf "__contains__" "Jar.__contains__" (defArgs s_Jar_contains) (defBody s_Jar_contains) (defScope s_Jar_contains) .none kV205 dc205 pm205 an205 cd205 ct205), sl205⟩)
    (z207 : PySem.W.codeIn K cd205 "Jar.__contains__" = true)
    (z208 : PySem.W.keepIn K (.ref f_Jar_contains) = true)
    (z209 : PySem.W.findIn K (.ref c_Jar) "__bool__" = some (some (.ref f_Jar_bool)))
    (z210 : PySem.W.isFn K (.ref f_Jar_bool) = true)
    (z211 : K.lookup f_Jar_bool = some ⟨oc210, od210, .func (PySem.W.fnOf "__bool__" "Jar.__bool__" (defArgs s_Jar_bool) (defBody s_Jar_bool) (defScope s_Jar_bool) .none kV210 dc210 pm210 an210 cd210 ct210), sl210⟩)
    (z212 : PySem.W.codeIn K cd210 "Jar.__bool__" = true)
    (z213 : PySem.W.keepIn K (.ref f_Jar_bool) = true)
    (z214 : PySem.W.findIn K (.ref c_Jar) "validate_size" = some (some (.ref f_Jar_validate_size)))
    (z215 : PySem.W.isFn K (.ref f_Jar_validate_size) = true)
    (z216 : K.lookup f_Jar_validate_size = some ⟨oc215, od215, .func (PySem.W.fnOf "validate_size" "Jar.validate_size" (defArgs s_Jar_validate_size) (defBody s_Jar_validate_size) (defScope s_Jar_validate_size) .none kV215 dc215 pm215 an215 cd215 ct215), sl215⟩)
    (z217 : PySem.W.codeIn K cd215 "Jar.validate_size" = true)
    (z218 : PySem.W.keepIn K (.ref f_Jar_validate_size) = true)
    (z219 : PySem.W.findIn K (.ref c_Jar) "__add__" = some (some (.ref f_Jar_add)))
    (z220 : PySem.W.isFn K (.ref f_Jar_add) = true)
    (z221 : K.lookup f_Jar_add = some ⟨oc220, od220, .func (PySem.W.fnOf "__add__" "Jar.__add__" (defArgs s_Jar_add) (defBody s_Jar_add) (defScope s_Jar_add) .none kV220 dc220 pm220 an220 cd220 ct220), sl220⟩)
    (z222 : PySem.W.codeIn K cd220 "Jar.__add__" = true)
    (z223 : PySem.W.keepIn K (.ref f_Jar_add) = true)
    (z224 : PySem.W.findIn K (.ref c_Jar) "__sub__" = some (some (.ref f_Jar_sub)))
    (z225 : PySem.W.isFn K (.ref f_Jar_sub) = true)
    (z226 : K.lookup f_Jar_sub = some ⟨oc225, od225, .func (PySem.W.fnOf "__sub__" "Jar.__sub__" (defArgs s_Jar_sub) (defBody s_Jar_sub) (defScope s_Jar_sub) .none kV225 dc225 pm225 an225 cd225 ct225), sl225⟩)
    (z227 : PySem.W.codeIn K cd225 "Jar.__sub__" = true)
    (z228 : PySem.W.keepIn K (.ref f_Jar_sub) = true)
    (z229 : PySem.W.findIn K (.ref c_Jar) "can_draw" = some (some (.ref f_Jar_can_draw)))
    (z230 : PySem.W.isFn K (.ref f_Jar_can_draw) = true)
    (z231 : K.lookup f_Jar_can_draw = some ⟨oc230, od230, .func (PySem.W.fnOf "can_draw" "Jar.can_draw" (defArgs s_Jar_can_draw) (defBody s_Jar_can_draw) (defScope s_Jar_can_draw) .none kV230 dc230 pm230 an230 cd230 ct230), sl230⟩)
    (z232 : PySem.W.codeIn K cd230 "Jar.can_draw" = true)
    (z233 : PySem.W.keepIn K (.ref f_Jar_can_draw) = true)
    (z234 : PySem.W.findIn K (.ref c_Jar) "draws" = some (some (.ref f_Jar_draws)))
    (z235 : PySem.W.isFn K (.ref f_Jar_draws) = true)
    (z236 : K.lookup f_Jar_draws = some ⟨oc235, od235, .func (PySem.W.fnOf "draws" "Jar.draws" (defArgs s_Jar_draws) (defBody s_Jar_draws) (defScope s_Jar_draws) .none kV235 dc235 pm235 an235 cd235 ct235), sl235⟩)
    (z237 : PySem.W.codeIn K cd235 "Jar.draws" = true)
    (z238 : PySem.W.keepIn K (.ref f_Jar_draws) = true)
    (z239 : PySem.W.nsIn K mainGlobals "Forest" = some (some (.ref c_Forest)))
    (z240 : PySem.W.plainGet K c_Forest Str.empty = true)
    (z241 : PySem.W.hasDictIn K c_Forest = true)
    (z242 : PySem.W.plainOver K c_Forest = true)
    (z243 : PySem.W.findIn K (.ref c_Forest) "__setattr__" = some (some (.builtin "object.__setattr__")))
    (z244 : PySem.W.selfFirst K c_Forest = true)
    (z245 : PySem.W.findIn K (.ref c_Forest) "own_table" = some none)
    (z246 : PySem.W.findIn K (.ref c_Forest) "own_steps" = some none)
    (z247 : PySem.W.findIn K (.ref c_Forest) "own_names" = some none)
    (z248 : PySem.W.findIn K (.ref c_Forest) "__init__" = some (some (.ref f_Forest_init)))
    (z249 : PySem.W.isFn K (.ref f_Forest_init) = true)
    (z250 : K.lookup f_Forest_init = some ⟨oc249, od249, .func (PySem.W.fnOf "__init__" "Forest.__init__" (defArgs s_Forest_init) (defBody s_Forest_init) (defScope s_Forest_init) .none kV249 dc249 pm249 an249 cd249 ct249), sl249⟩)
    (z251 : PySem.W.codeIn K cd249 "Forest.__init__" = true)
    (z252 : PySem.W.keepIn K (.ref f_Forest_init) = true)
    (z253 : PySem.W.makesIn K c_Forest = true)
    (z254 : PySem.W.keepIn K (.ref c_Forest) = true)
    (z255 : PySem.W.findIn K (.ref c_Forest) "join" = some (some (.ref f_Forest_join)))
    (z256 : PySem.W.isFn K (.ref f_Forest_join) = true)
    (z257 : K.lookup f_Forest_join = some ⟨oc256, od256, .func (PySem.W.fnOf "join" "Forest.join" (defArgs s_Forest_join) (defBody s_Forest_join) (defScope s_Forest_join) .none kV256 dc256 pm256 an256 cd256 ct256), sl256⟩)
    (z258 : PySem.W.codeIn K cd256 "Forest.join" = true)
    (z259 : PySem.W.keepIn K (.ref f_Forest_join) = true)
    (z260 : PySem.W.findIn K (.ref c_Forest) "names" = some (some (.ref f_Forest_names)))
    (z261 : PySem.W.isFn K (.ref f_Forest_names) = true)
    (z262 : K.lookup f_Forest_names = some ⟨oc261, od261, .func (PySem.W.fnOf "names" "Forest.names" (defArgs s_Forest_names) (defBody s_Forest_names) (defScope s_Forest_names) .none kV261 dc261 pm261 an261 cd261 ct261), sl261⟩)
    (z263 : PySem.W.codeIn K cd261 "Forest.names" = true)
    (z264 : PySem.W.keepIn K (.ref f_Forest_names) = true)
    (z265 : PySem.W.nsIn K mainGlobals "MAX_COLOURS" = some (some (.int 8 t8)))
    (z266 : PySem.W.nsIn K mainGlobals "isinstance" = some none)
    (z267 : PySem.W.nsIn K mainGlobals "int" = some none)
    (z268 : PySem.W.nsIn K mainGlobals "bool" = some none)
    (z269 : PySem.W.nsIn K mainGlobals "list" = some none)
    (z270 : PySem.W.nsIn K mainGlobals "tuple" = some none)
    (z271 : PySem.W.nsIn K mainGlobals "len" = some none)
    (z272 : PySem.W.nsIn K mainGlobals "all" = some none)
    (z273 : PySem.W.nsIn K mainGlobals "range" = some none)
    (z274 : PySem.W.nsIn K mainGlobals "sum" = some none)
    (z275 : PySem.W.nsIn K mainGlobals "enumerate" = some none)
    (z276 : PySem.W.nsIn K mainGlobals "zip" = some none)
    (z277 : PySem.W.nsIn K mainGlobals "min" = some none)
    (z278 : PySem.W.nsIn K mainGlobals "max" = some none)
    (z279 : PySem.W.nsIn K mainGlobals "sorted" = some none)
    (z280 : PySem.W.nsIn K mainGlobals "set" = some none) : Txt K mg ⟨c_Table, c_Jar, c_Forest, f_is_integer, f_is_colour, f_has_shape, f_places, f_first_wrong_place, f_are_counts, f_validate_beans, f_after, f_is_disputed, f_first_dispute, f_passes, f_test_steps, f_put_steps, f_group_names, f_groups, f_quotient, f_group_number, f_validate_passes, f_product, f_times, f_last_bean, f_last_group, f_powers, f_law_pool, f_law_draw, f_law_choose, f_law_rows, f_law_kind, f_law_reduced, f_law_drawn, f_law, f_Table_init, f_Table_size, f_Table_validate_colour, f_Table_getitem, p_Table_size, f_Jar_init, f_Jar_of_beans, f_Jar_size, f_Jar_total, f_Jar_colours, f_Jar_getitem, f_Jar_contains, f_Jar_bool, f_Jar_validate_size, f_Jar_add, f_Jar_sub, f_Jar_can_draw, f_Jar_draws, p_Jar_of_beans, p_Jar_size, p_Jar_total, f_Forest_init, f_Forest_join, f_Forest_names⟩ :=
  { m_is_integer := PySem.W.mg_of X G z1,
    d_is_integer := ⟨_, fun_mk (st := s_is_integer) z2 z3 z4⟩,
    m_is_colour := PySem.W.mg_of X G z5,
    d_is_colour := ⟨_, fun_mk (st := s_is_colour) z6 z7 z8⟩,
    m_has_shape := PySem.W.mg_of X G z9,
    d_has_shape := ⟨_, fun_mk (st := s_has_shape) z10 z11 z12⟩,
    m_places := PySem.W.mg_of X G z13,
    d_places := ⟨_, fun_mk (st := s_places) z14 z15 z16⟩,
    m_first_wrong_place := PySem.W.mg_of X G z17,
    d_first_wrong_place := ⟨_, fun_mk (st := s_first_wrong_place) z18 z19 z20⟩,
    m_are_counts := PySem.W.mg_of X G z21,
    d_are_counts := ⟨_, fun_mk (st := s_are_counts) z22 z23 z24⟩,
    m_validate_beans := PySem.W.mg_of X G z25,
    d_validate_beans := ⟨_, fun_mk (st := s_validate_beans) z26 z27 z28⟩,
    m_after := PySem.W.mg_of X G z29,
    d_after := ⟨_, fun_mk (st := s_after) z30 z31 z32⟩,
    m_is_disputed := PySem.W.mg_of X G z33,
    d_is_disputed := ⟨_, fun_mk (st := s_is_disputed) z34 z35 z36⟩,
    m_first_dispute := PySem.W.mg_of X G z37,
    d_first_dispute := ⟨_, fun_mk (st := s_first_dispute) z38 z39 z40⟩,
    m_passes := PySem.W.mg_of X G z41,
    d_passes := ⟨_, fun_mk (st := s_passes) z42 z43 z44⟩,
    m_test_steps := PySem.W.mg_of X G z45,
    d_test_steps := ⟨_, fun_mk (st := s_test_steps) z46 z47 z48⟩,
    m_put_steps := PySem.W.mg_of X G z49,
    d_put_steps := ⟨_, fun_mk (st := s_put_steps) z50 z51 z52⟩,
    m_group_names := PySem.W.mg_of X G z53,
    d_group_names := ⟨_, fun_mk (st := s_group_names) z54 z55 z56⟩,
    m_groups := PySem.W.mg_of X G z57,
    d_groups := ⟨_, fun_mk (st := s_groups) z58 z59 z60⟩,
    m_quotient := PySem.W.mg_of X G z61,
    d_quotient := ⟨_, fun_mk (st := s_quotient) z62 z63 z64⟩,
    m_group_number := PySem.W.mg_of X G z65,
    d_group_number := ⟨_, fun_mk (st := s_group_number) z66 z67 z68⟩,
    m_validate_passes := PySem.W.mg_of X G z69,
    d_validate_passes := ⟨_, fun_mk (st := s_validate_passes) z70 z71 z72⟩,
    m_product := PySem.W.mg_of X G z73,
    d_product := ⟨_, fun_mk (st := s_product) z74 z75 z76⟩,
    m_times := PySem.W.mg_of X G z77,
    d_times := ⟨_, fun_mk (st := s_times) z78 z79 z80⟩,
    m_last_bean := PySem.W.mg_of X G z81,
    d_last_bean := ⟨_, fun_mk (st := s_last_bean) z82 z83 z84⟩,
    m_last_group := PySem.W.mg_of X G z85,
    d_last_group := ⟨_, fun_mk (st := s_last_group) z86 z87 z88⟩,
    m_powers := PySem.W.mg_of X G z89,
    d_powers := ⟨_, fun_mk (st := s_powers) z90 z91 z92⟩,
    m_law_pool := PySem.W.mg_of X G z93,
    d_law_pool := ⟨_, fun_mk (st := s_law_pool) z94 z95 z96⟩,
    m_law_draw := PySem.W.mg_of X G z97,
    d_law_draw := ⟨_, fun_mk (st := s_law_draw) z98 z99 z100⟩,
    m_law_choose := PySem.W.mg_of X G z101,
    d_law_choose := ⟨_, fun_mk (st := s_law_choose) z102 z103 z104⟩,
    m_law_rows := PySem.W.mg_of X G z105,
    d_law_rows := ⟨_, fun_mk (st := s_law_rows) z106 z107 z108⟩,
    m_law_kind := PySem.W.mg_of X G z109,
    d_law_kind := ⟨_, fun_mk (st := s_law_kind) z110 z111 z112⟩,
    m_law_reduced := PySem.W.mg_of X G z113,
    d_law_reduced := ⟨_, fun_mk (st := s_law_reduced) z114 z115 z116⟩,
    m_law_drawn := PySem.W.mg_of X G z117,
    d_law_drawn := ⟨_, fun_mk (st := s_law_drawn) z118 z119 z120⟩,
    m_law := PySem.W.mg_of X G z121,
    d_law := ⟨_, fun_mk (st := s_law) z122 z123 z124⟩,
    m_Table := PySem.W.mg_of X G z125,
    k_Table := ⟨⟨z126, z127, z128, z129⟩, z130⟩,
    n_own_rows := z131,
    d_Table_init := ⟨_, fun_mk (st := s_Table_init) z134 z135 z136⟩,
    i_Table := ⟨z137, z132, z133, z138⟩,
    p_Table_size := ⟨z139, z140, z141, ⟨_, z142⟩⟩,
    d_Table_size := ⟨_, fun_mk (st := s_Table_size) z143 z144 z145⟩,
    d_Table_validate_colour := ⟨_, fun_mk (st := s_Table_validate_colour) z148 z149 z150⟩,
    h_Table_validate_colour := ⟨z146, z147, z150⟩,
    d_Table_getitem := ⟨_, fun_mk (st := s_Table_getitem) z153 z154 z155⟩,
    u_Table_getitem := ⟨z151, z152⟩,
    e_Table := z156,
    m_Jar := PySem.W.mg_of X G z157,
    k_Jar := ⟨⟨z158, z159, z160, z161⟩, z162⟩,
    n_own_counts := z163,
    d_Jar_init := ⟨_, fun_mk (st := s_Jar_init) z166 z167 z168⟩,
    i_Jar := ⟨z169, z164, z165, z170⟩,
    r_Jar := ⟨z171, z172⟩,
    q_Jar_of_beans := ⟨z173, ⟨_, z174⟩, z175⟩,
    d_Jar_of_beans := ⟨_, fun_mk (st := s_Jar_of_beans) z176 z177 z178⟩,
    p_Jar_size := ⟨z179, z180, z181, ⟨_, z182⟩⟩,
    d_Jar_size := ⟨_, fun_mk (st := s_Jar_size) z183 z184 z185⟩,
    p_Jar_total := ⟨z186, z187, z188, ⟨_, z189⟩⟩,
    d_Jar_total := ⟨_, fun_mk (st := s_Jar_total) z190 z191 z192⟩,
    d_Jar_colours := ⟨_, fun_mk (st := s_Jar_colours) z195 z196 z197⟩,
    h_Jar_colours := ⟨z193, z194, z197⟩,
    d_Jar_getitem := ⟨_, fun_mk (st := s_Jar_getitem) z200 z201 z202⟩,
    u_Jar_getitem := ⟨z198, z199⟩,
    e_Jar := z203,
    d_Jar_contains := ⟨_, fun_mk (st := s_Jar_contains) z206 z207 z208⟩,
    u_Jar_contains := ⟨z204, z205⟩,
    d_Jar_bool := ⟨_, fun_mk (st := s_Jar_bool) z211 z212 z213⟩,
    u_Jar_bool := ⟨z209, z210⟩,
    d_Jar_validate_size := ⟨_, fun_mk (st := s_Jar_validate_size) z216 z217 z218⟩,
    h_Jar_validate_size := ⟨z214, z215, z218⟩,
    d_Jar_add := ⟨_, fun_mk (st := s_Jar_add) z221 z222 z223⟩,
    u_Jar_add := ⟨z219, z220⟩,
    d_Jar_sub := ⟨_, fun_mk (st := s_Jar_sub) z226 z227 z228⟩,
    u_Jar_sub := ⟨z224, z225⟩,
    d_Jar_can_draw := ⟨_, fun_mk (st := s_Jar_can_draw) z231 z232 z233⟩,
    h_Jar_can_draw := ⟨z229, z230, z233⟩,
    d_Jar_draws := ⟨_, fun_mk (st := s_Jar_draws) z236 z237 z238⟩,
    h_Jar_draws := ⟨z234, z235, z238⟩,
    m_Forest := PySem.W.mg_of X G z239,
    k_Forest := ⟨⟨z240, z241, z242, z243⟩, z244⟩,
    n_own_table := z245,
    n_own_steps := z246,
    n_own_names := z247,
    d_Forest_init := ⟨_, fun_mk (st := s_Forest_init) z250 z251 z252⟩,
    i_Forest := ⟨z253, z248, z249, z254⟩,
    d_Forest_join := ⟨_, fun_mk (st := s_Forest_join) z257 z258 z259⟩,
    h_Forest_join := ⟨z255, z256, z259⟩,
    d_Forest_names := ⟨_, fun_mk (st := s_Forest_names) z262 z263 z264⟩,
    h_Forest_names := ⟨z260, z261, z264⟩,
    m_max := ⟨_, PySem.W.mg_of X G z265⟩,
    b_isinstance := PySem.W.mg_none_of X G z266,
    b_int := PySem.W.mg_none_of X G z267,
    b_bool := PySem.W.mg_none_of X G z268,
    b_list := PySem.W.mg_none_of X G z269,
    b_tuple := PySem.W.mg_none_of X G z270,
    b_len := PySem.W.mg_none_of X G z271,
    b_all := PySem.W.mg_none_of X G z272,
    b_range := PySem.W.mg_none_of X G z273,
    b_sum := PySem.W.mg_none_of X G z274,
    b_enumerate := PySem.W.mg_none_of X G z275,
    b_zip := PySem.W.mg_none_of X G z276,
    b_min := PySem.W.mg_none_of X G z277,
    b_max := PySem.W.mg_none_of X G z278,
    b_sorted := PySem.W.mg_none_of X G z279,
    b_set := PySem.W.mg_none_of X G z280 }
theorem law_last {l : PySem.W.OpenLaw} {w : World} {K : PySem.W.Frag} {mg : Str → Option Value} {fa : Addr} {a : Ad} (T : Txt K mg a) (hmg : mg "law" = some (.ref fa)) :
    ∃ fd : FuncData, (∀ (s : Shared) (u : Value), BindsTo s fd ⟨[u], []⟩ [("_law_script", u)]) ∧ ∀ base : Heap, K.In base → base.Ns mainGlobals mg → FnOk l.prog w K mg base CX0 200 fa fd ["_law_script"] (sp_law K) := by
  have e := hmg.symm.trans T.m_law
  cases e
  obtain ⟨fd, F⟩ := T.d_law.ex
  have F' := F
  obtain ⟨oc, od, kV, doc, pm, an, cdv, ct, osl, rfl, lk, hcd⟩ := F.ex
  exact ⟨_, fun s u => .of_eq rfl, fun base _ _ => (F'.ok sc_law (by rintro vs H Q E ⟨l, ns, rfl, _⟩; rfl) (law_body T)).mono (by decide)⟩
theorem walk {l : PySem.W.OpenLaw} {q : Program} {loose : List Str} {XP : (Str → Option Value) → Heap → Prop} {YP : World → Heap → Prop} {d : DefRec} {K : Params → PySem.W.Frag} (hn : l.most = some 63) (hdf : d.params.defaults = [])
    (hY : ∀ (w : World) (h : Heap), YP w h → (K w.params).In h)
    (F : ∀ (w : World) (mg : Str → Option Value) (fa : Addr) (h : Heap), (K w.params).In h → h.Ns mainGlobals mg → mg d.name = some (.ref fa) →
      ∃ fd : FuncData, (∀ (s : Shared) (u : Value), BindsTo s fd ⟨[u], []⟩ [("_law_script", u)]) ∧ ∀ base : Heap, (K w.params).In base → base.Ns mainGlobals mg → FnOk l.prog w (K w.params) mg base CX0 200 fa fd ["_law_script"] (sp_law (K w.params))) :
    PySem.W.WalkO q loose XP YP l.row.toRowW d [] (fun f vs => PySem.call f vs) :=
  L2.walk_of (n := 63) (k := 200) (x := "_law_script") (CX := fun _ => CX0) (sp := fun w => sp_law (K w.params)) hn (by decide) hdf ⟨rfl, by decide, by decide⟩ hY F (fun _ _ a ns hl _ hS => ⟨a, ns, rfl, hS, hl, fun _ => rfl⟩) fun _ _ _ _ _ z => z
end Bj
set_option maxHeartbeats 0 in
theorem PySem.Challenge.cw_beanjars_k87_whole_counts_reduced_holds : PySem.Challenge.rw_beanjars_k87_whole_counts_reduced.Holds := by
  refine bjhead ?_
  k_fill
  refine Bj.walk (l := PySem.Challenge.rw_beanjars_k87_whole_counts_reduced) rfl rfl (fun w h Y => PySem.W.kIn_of Y) ?F
  case F =>
    intro w mg fa h KX G hmg
    refine' Bj.law_last (Bj.txt_mk KX G ?z1 ?z2 ?z3 ?z4 ?z5 ?z6 ?z7 ?z8 ?z9 ?z10 ?z11 ?z12 ?z13 ?z14 ?z15 ?z16 ?z17 ?z18 ?z19 ?z20 ?z21 ?z22 ?z23 ?z24 ?z25 ?z26 ?z27 ?z28 ?z29 ?z30 ?z31 ?z32 ?z33 ?z34 ?z35 ?z36 ?z37 ?z38 ?z39 ?z40 ?z41 ?z42 ?z43 ?z44 ?z45 ?z46 ?z47 ?z48 ?z49 ?z50 ?z51 ?z52 ?z53 ?z54 ?z55 ?z56 ?z57 ?z58 ?z59 ?z60 ?z61 ?z62 ?z63 ?z64 ?z65 ?z66 ?z67 ?z68 ?z69 ?z70 ?z71 ?z72 ?z73 ?z74 ?z75 ?z76 ?z77 ?z78 ?z79 ?z80 ?z81 ?z82 ?z83 ?z84 ?z85 ?z86 ?z87 ?z88 ?z89 ?z90 ?z91 ?z92 ?z93 ?z94 ?z95 ?z96 ?z97 ?z98 ?z99 ?z100 ?z101 ?z102 ?z103 ?z104 ?z105 ?z106 ?z107 ?z108 ?z109 ?z110 ?z111 ?z112 ?z113 ?z114 ?z115 ?z116 ?z117 ?z118 ?z119 ?z120 ?z121 ?z122 ?z123 ?z124 ?z125 ?z126 ?z127 ?z128 ?z129 ?z130 ?z131 ?z132 ?z133 ?z134 ?z135 ?z136 ?z137 ?z138 ?z139 ?z140 ?z141 ?z142 ?z143 ?z144 ?z145 ?z146 ?z147 ?z148 ?z149 ?z150 ?z151 ?z152 ?z153 ?z154 ?z155 ?z156 ?z157 ?z158 ?z159 ?z160 ?z161 ?z162 ?z163 ?z164 ?z165 ?z166 ?z167 ?z168 ?z169 ?z170 ?z171 ?z172 ?z173 ?z174 ?z175 ?z176 ?z177 ?z178 ?z179 ?z180 ?z181 ?z182 ?z183 ?z184 ?z185 ?z186 ?z187 ?z188 ?z189 ?z190 ?z191 ?z192 ?z193 ?z194 ?z195 ?z196 ?z197 ?z198 ?z199 ?z200 ?z201 ?z202 ?z203 ?z204 ?z205 ?z206 ?z207 ?z208 ?z209 ?z210 ?z211 ?z212 ?z213 ?z214 ?z215 ?z216 ?z217 ?z218 ?z219 ?z220 ?z221 ?z222 ?z223 ?z224 ?z225 ?z226 ?z227 ?z228 ?z229 ?z230 ?z231 ?z232 ?z233 ?z234 ?z235 ?z236 ?z237 ?z238 ?z239 ?z240 ?z241 ?z242 ?z243 ?z244 ?z245 ?z246 ?z247 ?z248 ?z249 ?z250 ?z251 ?z252 ?z253 ?z254 ?z255 ?z256 ?z257 ?z258 ?z259 ?z260 ?z261 ?z262 ?z263 ?z264 ?z265 ?z266 ?z267 ?z268 ?z269 ?z270 ?z271 ?z272 ?z273 ?z274 ?z275 ?z276 ?z277 ?z278 ?z279 ?z280) hmg
    (case z1 => k_is)
    (case z2 => k_is)
    (case z3 => k_is)
    (case z4 => k_is)
    (case z5 => k_is)
    (case z6 => k_is)
    (case z7 => k_is)
    (case z8 => k_is)
    (case z9 => k_is)
    (case z10 => k_is)
    (case z11 => k_is)
    (case z12 => k_is)
    (case z13 => k_is)
    (case z14 => k_is)
    (case z15 => k_is)
    (case z16 => k_is)
    (case z17 => k_is)
    (case z18 => k_is)
    (case z19 => k_is)
    (case z20 => k_is)
    (case z21 => k_is)
    (case z22 => k_is)
    (case z23 => k_is)
    (case z24 => k_is)
    (case z25 => k_is)
    (case z26 => k_is)
    (case z27 => k_is)
    (case z28 => k_is)
    (case z29 => k_is)
    (case z30 => k_is)
    (case z31 => k_is)
    (case z32 => k_is)
    (case z33 => k_is)
    (case z34 => k_is)
    (case z35 => k_is)
    (case z36 => k_is)
    (case z37 => k_is)
    (case z38 => k_is)
    (case z39 => k_is)
    (case z40 => k_is)
    (case z41 => k_is)
    (case z42 => k_is)
    (case z43 => k_is)
    (case z44 => k_is)
    (case z45 => k_is)
    (case z46 => k_is)
    (case z47 => k_is)
    (case z48 => k_is)
    (case z49 => k_is)
    (case z50 => k_is)
    (case z51 => k_is)
    (case z52 => k_is)
    (case z53 => k_is)
    (case z54 => k_is)
    (case z55 => k_is)
    (case z56 => k_is)
    (case z57 => k_is)
    (case z58 => k_is)
    (case z59 => k_is)
    (case z60 => k_is)
    (case z61 => k_is)
    (case z62 => k_is)
    (case z63 => k_is)
    (case z64 => k_is)
    (case z65 => k_is)
    (case z66 => k_is)
    (case z67 => k_is)
    (case z68 => k_is)
    (case z69 => k_is)
    (case z70 => k_is)
    (case z71 => k_is)
    (case z72 => k_is)
    (case z73 => k_is)
    (case z74 => k_is)
    (case z75 => k_is)
    (case z76 => k_is)
    (case z77 => k_is)
    (case z78 => k_is)
    (case z79 => k_is)
    (case z80 => k_is)
    (case z81 => k_is)
    (case z82 => k_is)
    (case z83 => k_is)
    (case z84 => k_is)
    (case z85 => k_is)
    (case z86 => k_is)
    (case z87 => k_is)
    (case z88 => k_is)
    (case z89 => k_is)
    (case z90 => k_is)
    (case z91 => k_is)
    (case z92 => k_is)
    (case z93 => k_is)
    (case z94 => k_is)
    (case z95 => k_is)
    (case z96 => k_is)
    (case z97 => k_is)
    (case z98 => k_is)
    (case z99 => k_is)
    (case z100 => k_is)
    (case z101 => k_is)
    (case z102 => k_is)
    (case z103 => k_is)
    (case z104 => k_is)
    (case z105 => k_is)
    (case z106 => k_is)
    (case z107 => k_is)
    (case z108 => k_is)
    (case z109 => k_is)
    (case z110 => k_is)
    (case z111 => k_is)
    (case z112 => k_is)
    (case z113 => k_is)
    (case z114 => k_is)
    (case z115 => k_is)
    (case z116 => k_is)
    (case z117 => k_is)
    (case z118 => k_is)
    (case z119 => k_is)
    (case z120 => k_is)
    (case z121 => k_is)
    (case z122 => k_is)
    (case z123 => k_is)
    (case z124 => k_is)
    (case z125 => k_is)
    (case z126 => k_is)
    (case z127 => k_is)
    (case z128 => k_is)
    (case z129 => k_is)
    (case z130 => k_is)
    (case z131 => k_is)
    (case z132 => k_is)
    (case z133 => k_is)
    (case z134 => k_is)
    (case z135 => k_is)
    (case z136 => k_is)
    (case z137 => k_is)
    (case z138 => k_is)
    (case z139 => k_is)
    (case z140 => k_is)
    (case z141 => k_is)
    (case z142 => k_is)
    (case z143 => k_is)
    (case z144 => k_is)
    (case z145 => k_is)
    (case z146 => k_is)
    (case z147 => k_is)
    (case z148 => k_is)
    (case z149 => k_is)
    (case z150 => k_is)
    (case z151 => k_is)
    (case z152 => k_is)
    (case z153 => k_is)
    (case z154 => k_is)
    (case z155 => k_is)
    (case z156 => k_is)
    (case z157 => k_is)
    (case z158 => k_is)
    (case z159 => k_is)
    (case z160 => k_is)
    (case z161 => k_is)
    (case z162 => k_is)
    (case z163 => k_is)
    (case z164 => k_is)
    (case z165 => k_is)
    (case z166 => k_is)
    (case z167 => k_is)
    (case z168 => k_is)
    (case z169 => k_is)
    (case z170 => k_is)
    (case z171 => k_is)
    (case z172 => k_is)
    (case z173 => k_is)
    (case z174 => k_is)
    (case z175 => k_is)
    (case z176 => k_is)
    (case z177 => k_is)
    (case z178 => k_is)
    (case z179 => k_is)
    (case z180 => k_is)
    (case z181 => k_is)
    (case z182 => k_is)
    (case z183 => k_is)
    (case z184 => k_is)
    (case z185 => k_is)
    (case z186 => k_is)
    (case z187 => k_is)
    (case z188 => k_is)
    (case z189 => k_is)
    (case z190 => k_is)
    (case z191 => k_is)
    (case z192 => k_is)
    (case z193 => k_is)
    (case z194 => k_is)
    (case z195 => k_is)
    (case z196 => k_is)
    (case z197 => k_is)
    (case z198 => k_is)
    (case z199 => k_is)
    (case z200 => k_is)
    (case z201 => k_is)
    (case z202 => k_is)
    (case z203 => k_is)
    (case z204 => k_is)
    (case z205 => k_is)
    (case z206 => k_is)
    (case z207 => k_is)
    (case z208 => k_is)
    (case z209 => k_is)
    (case z210 => k_is)
    (case z211 => k_is)
    (case z212 => k_is)
    (case z213 => k_is)
    (case z214 => k_is)
    (case z215 => k_is)
    (case z216 => k_is)
    (case z217 => k_is)
    (case z218 => k_is)
    (case z219 => k_is)
    (case z220 => k_is)
    (case z221 => k_is)
    (case z222 => k_is)
    (case z223 => k_is)
    (case z224 => k_is)
    (case z225 => k_is)
    (case z226 => k_is)
    (case z227 => k_is)
    (case z228 => k_is)
    (case z229 => k_is)
    (case z230 => k_is)
    (case z231 => k_is)
    (case z232 => k_is)
    (case z233 => k_is)
    (case z234 => k_is)
    (case z235 => k_is)
    (case z236 => k_is)
    (case z237 => k_is)
    (case z238 => k_is)
    (case z239 => k_is)
    (case z240 => k_is)
    (case z241 => k_is)
    (case z242 => k_is)
    (case z243 => k_is)
    (case z244 => k_is)
    (case z245 => k_is)
    (case z246 => k_is)
    (case z247 => k_is)
    (case z248 => k_is)
    (case z249 => k_is)
    (case z250 => k_is)
    (case z251 => k_is)
    (case z252 => k_is)
    (case z253 => k_is)
    (case z254 => k_is)
    (case z255 => k_is)
    (case z256 => k_is)
    (case z257 => k_is)
    (case z258 => k_is)
    (case z259 => k_is)
    (case z260 => k_is)
    (case z261 => k_is)
    (case z262 => k_is)
    (case z263 => k_is)
    (case z264 => k_is)
    (case z265 => k_is)
    (case z266 => k_is)
    (case z267 => k_is)
    (case z268 => k_is)
    (case z269 => k_is)
    (case z270 => k_is)
    (case z271 => k_is)
    (case z272 => k_is)
    (case z273 => k_is)
    (case z274 => k_is)
    (case z275 => k_is)
    (case z276 => k_is)
    (case z277 => k_is)
    (case z278 => k_is)
    (case z279 => k_is)
    (case z280 => k_is)

