import PyProof.Rows.All
import Wide.All
import OpenK.AllK
import Wide.FinOn
import Open.SpecLaws
import KE.OsHead
import KE.OsGo
import HandS.ForSpec
import HandS.ForMost
import HandS.Walk
import PySem.Challenge.RW_stockblends_s06_most
set_option Elab.async false
/-! The plain law: lists and numbers alone, no program in sight. -/
namespace Sb
open Kza1Neutral (natsOf)
/-- the specification's own: numbers from 0 on as whole numbers -/
abbrev zs (l : List Nat) : List Int := Kza1Neutral.ints l

theorem foldl_add : ∀ (l : List Nat) (a : Nat), l.foldl (· + ·) a = a + Kza1.sum l
  | [], _ => rfl
  | x :: l, a => by
    have e : Kza1.sum (x :: l) = l.foldl (· + ·) (0 + x) := rfl
    rw [e, foldl_add l (0 + x), List.foldl_cons, foldl_add l (a + x)]
    omega
theorem sum_cons (x : Nat) (l : List Nat) : Kza1.sum (x :: l) = x + Kza1.sum l := by
  have e : Kza1.sum (x :: l) = l.foldl (· + ·) (0 + x) := rfl
  rw [e, foldl_add]
  omega
theorem ints_cons (x : Nat) (l : List Nat) : zs (x :: l) = (x : Int) :: zs l := rfl
theorem ints_sum : ∀ ms : List Nat, (zs ms).sum = (Kza1.sum ms : Int)
  | [] => rfl
  | x :: l => by
    rw [ints_cons, List.sum_cons, ints_sum l, sum_cons]
    omega
theorem ints_length (ms : List Nat) : (zs ms).length = ms.length := List.length_map _
theorem ints_get (ms : List Nat) (i : Nat) : (zs ms)[i]? = ms[i]?.map fun (x : Nat) => (x : Int) := List.getElem?_map
theorem natsOf_ints : ∀ ms : List Nat, natsOf (zs ms) = ms
  | [] => rfl
  | x :: l => by
    have h := natsOf_ints l
    show Int.toNat (x : Int) :: natsOf (zs l) = x :: l
    rw [h, Int.toNat_natCast]
theorem ints_natsOf : ∀ ns : List Int, (∀ x ∈ ns, 0 ≤ x) → zs (natsOf ns) = ns
  | [], _ => rfl
  | x :: l, h => by
    have h1 := ints_natsOf l fun y hy => h y (List.mem_cons_of_mem _ hy)
    have h2 : ((Int.toNat x : Nat) : Int) = x := Int.toNat_of_nonneg (h x List.mem_cons_self)
    show ((Int.toNat x : Nat) : Int) :: zs (natsOf l) = x :: l
    rw [h1, h2]
theorem natsOf_length (ns : List Int) : (natsOf ns).length = ns.length := List.length_map _
theorem take_snoc {α : Type} : ∀ {l : List α} {i : Nat} {x : α}, l[i]? = some x → l.take (i + 1) = l.take i ++ [x]
  | [], i, x, h => by simp at h
  | a :: l, 0, x, h => by
    have e : a = x := Option.some.inj h
    subst e
    rfl
  | a :: l, i + 1, x, h => by
    have ih := take_snoc (l := l) (i := i) (x := x) h
    show a :: l.take (i + 1) = a :: l.take i ++ [x]
    rw [ih]
    rfl
theorem sum_take_snoc {l : List Nat} {i x : Nat} (h : l[i]? = some x) : Kza1.sum (l.take (i + 1)) = Kza1.sum (l.take i) + x := by
  rw [take_snoc h]
  show (l.take i ++ [x]).foldl (· + ·) 0 = _
  rw [List.foldl_append]
  rfl
theorem fdiv_nat (a b : Nat) : Int.fdiv (a : Int) (b : Int) = ((a / b : Nat) : Int) := by
  rw [Int.fdiv_eq_ediv_of_nonneg _ (by omega)]
  exact (Int.natCast_ediv a b).symm

/-! ### what is looked at -/
/-- just so many, none above a number -/
def within (ms : List Nat) (many most : Nat) : Bool := ms.length == many && ms.all fun x => decide (x ≤ most)
theorem okChest_is (ms : List Nat) : Kza1.okChest ms = within ms 5 100000 := rfl
theorem okParts_is (ms : List Nat) : Kza1.okParts ms = (within ms 4 100 && decide (0 < Kza1.sum ms)) := rfl
theorem within_len {ms : List Nat} {many most : Nat} (h : within ms many most = true) : ms.length = many := by
  unfold within at h
  rw [Bool.and_eq_true] at h
  exact eq_of_beq h.1
theorem within_le {ms : List Nat} {many most : Nat} (h : within ms many most = true) : ∀ x ∈ ms, x ≤ most := by
  unfold within at h
  rw [Bool.and_eq_true, List.all_eq_true] at h
  exact fun x hx => of_decide_eq_true (h.2 x hx)
theorem sum_le {b : Nat} : ∀ {l : List Nat}, (∀ x ∈ l, x ≤ b) → Kza1.sum l ≤ l.length * b
  | [], _ => Nat.zero_le _
  | x :: l, h => by
    have h1 := sum_le fun y hy => h y (List.mem_cons_of_mem x hy)
    have h2 := h x List.mem_cons_self
    rw [sum_cons, List.length_cons, Nat.add_mul]
    omega
theorem within_sum {ms : List Nat} {many most : Nat} (h : within ms many most = true) : Kza1.sum ms ≤ many * most := by
  have h1 := sum_le (within_le h)
  rwa [within_len h] at h1
theorem fibre_le : ∀ ms : List Nat, Kza1.fibre ms ≤ Kza1.sum ms
  | [] => Nat.le_refl _
  | x :: l => by
    rw [sum_cons]
    show Kza1.sum l ≤ _
    omega
theorem all_take (ms : List Nat) (p : Nat → Bool) : (ms.map p).all id = ms.all p := by
  rw [List.all_map]
  rfl

/-! ### how thick -/
theorem thick_zero {ms : List Nat} (h : Kza1.sum ms = 0) : Kza1.thick ms = 0 := if_pos h
theorem thick_pos {ms : List Nat} (h : ¬ Kza1.sum ms = 0) : Int.fdiv ((Kza1.fibre ms : Int) * 100000) (Kza1.sum ms : Int) = ((Kza1.thick ms : Nat) : Int) := by
  have e : Kza1.thick ms = Kza1.fibre ms * 100000 / Kza1.sum ms := if_neg h
  rw [e, ← fdiv_nat]
  congr 1

/-! ### drawn -/
theorem zip_get (f : Nat → Nat → Nat) : ∀ {c d : List Nat} {i x y : Nat}, c[i]? = some x → d[i]? = some y → (List.zipWith f c d)[i]? = some (f x y)
  | c, d, i, x, y, h1, h2 => by
    rw [List.getElem?_zipWith, h1, h2]
theorem zero_of_sum : ∀ {l : List Nat}, Kza1.sum l = 0 → ∀ x ∈ l, x = 0
  | [], _, x, h => by cases h
  | y :: l, h, x, hx => by
    rw [sum_cons] at h
    rcases List.mem_cons.mp hx with e | hx
    · omega
    · exact zero_of_sum (by omega) x hx
theorem drawOn_length (n all : Nat) : ∀ (l : List Nat) (s : Nat), (Kza1.drawOn n all s l).length = l.length
  | [], _ => rfl
  | x :: l, s => by
    show (Kza1.drawOn n all (s + x) l).length + 1 = l.length + 1
    rw [drawOn_length n all l]
theorem drawOn_get (n all : Nat) : ∀ {l : List Nat} {s i x : Nat}, l[i]? = some x →
    (Kza1.drawOn n all s l)[i]? = some ((s + Kza1.sum (l.take i) + x) * n / all - (s + Kza1.sum (l.take i)) * n / all)
  | [], _, i, x, h => by simp at h
  | y :: l, s, 0, x, h => by
    have e : y = x := Option.some.inj h
    subst e
    rfl
  | y :: l, s, i + 1, x, h => by
    have ih := drawOn_get n all (l := l) (s := s + y) (i := i) (x := x) h
    show (Kza1.drawOn n all (s + y) l)[i]? = some ((s + Kza1.sum (y :: l.take i) + x) * n / all - (s + Kza1.sum (y :: l.take i)) * n / all)
    rw [ih, sum_cons, ← Nat.add_assoc s y]
theorem part_le {n all s x : Nat} (h : n ≤ all) : (s + x) * n / all - s * n / all ≤ x := by
  by_cases h0 : all = 0
  · subst h0
    rw [Nat.div_zero]
    omega
  · have h1 : (s + x) * n ≤ s * n + x * all := by
      rw [Nat.add_mul]
      exact Nat.add_le_add_left (Nat.mul_le_mul_left x h) _
    have h2 : (s + x) * n / all ≤ (s * n + x * all) / all := Nat.div_le_div_right h1
    rw [Nat.add_mul_div_right _ _ (Nat.pos_of_ne_zero h0)] at h2
    omega
theorem drawOn_zero : ∀ (l : List Nat) (n s : Nat), (∀ x ∈ l, x = 0) → Kza1.drawOn n 0 s l = l
  | [], _, _, _ => rfl
  | x :: l, n, s, h => by
    have ih := drawOn_zero l n (s + x) fun y hy => h y (List.mem_cons_of_mem _ hy)
    show ((s + x) * n / 0 - s * n / 0) :: Kza1.drawOn n 0 (s + x) l = x :: l
    rw [ih, Nat.div_zero, Nat.div_zero, h x List.mem_cons_self]
theorem draw_is (c : List Nat) (n : Nat) : Kza1.draw c n = Kza1.drawOn n (Kza1.sum c) 0 c := by
  unfold Kza1.draw
  by_cases h : Kza1.sum c = 0
  · rw [if_pos h, h, drawOn_zero c n 0 (zero_of_sum h)]
  · rw [if_neg h]
theorem drawOn_sum {n all : Nat} (h : n ≤ all) : ∀ (l : List Nat) (s : Nat), Kza1.sum (Kza1.drawOn n all s l) ≤ Kza1.sum l
  | [], _ => Nat.le_refl _
  | x :: l, s => by
    have ih := drawOn_sum h l (s + x)
    show Kza1.sum (((s + x) * n / all - s * n / all) :: Kza1.drawOn n all (s + x) l) ≤ _
    rw [sum_cons, sum_cons]
    have := part_le (s := s) (x := x) h
    omega
theorem drawOn_le {n all : Nat} (h : n ≤ all) {l : List Nat} {s i x y : Nat} (hx : l[i]? = some x) (hy : (Kza1.drawOn n all s l)[i]? = some y) : y ≤ x := by
  rw [drawOn_get n all hx] at hy
  have e := Option.some.inj hy
  rw [← e]
  exact part_le h
/-- a share's part, whole numbers as Python has them -/
theorem part_int (n s x all : Nat) : (((n * (s + x) / all : Nat) : Int) - ((n * s / all : Nat) : Int)) = (((s + x) * n / all - s * n / all : Nat) : Int) := by
  rw [Nat.mul_comm n, Nat.mul_comm n]
  have h : s * n / all ≤ (s + x) * n / all := Nat.div_le_div_right (Nat.mul_le_mul_right n (by omega))
  omega

/-! ### thinned -/
theorem up_int {a b : Nat} (h : 0 < b) : Int.fdiv ((a : Int) + (b : Int) - 1) (b : Int) = (((a + b - 1) / b : Nat) : Int) := by
  rw [← fdiv_nat]
  congr 1
  omega
theorem max_int (u s : Nat) : (if ((u : Int) - (s : Int)) > 0 then ((u : Int) - (s : Int)) else 0) = ((u - s : Nat) : Int) := by
  split <;> omega

/-! ### recipes -/
theorem gap_int (a b : Nat) : (if (a : Int) - (b : Int) < 0 then -((a : Int) - (b : Int)) else (a : Int) - (b : Int)) = ((Kza1.gap a b : Nat) : Int) := by
  unfold Kza1.gap
  split <;> omega
/-- of one kind, as the specification says it -/
def kindKeeps (c p : List Nat) (tol i : Nat) : Bool := decide (Kza1.gap ((c.drop 1).getD i 0 * Kza1.sum p) (p.getD i 0 * Kza1.fibre c) * 1000 ≤ tol * Kza1.fibre c * Kza1.sum p)
theorem keeps_is (c p : List Nat) (tol : Nat) : Kza1.keeps c p tol = (List.range 4).all (kindKeeps c p tol) := rfl
theorem getD_get {l : List Nat} {i x : Nat} (h : l[i]? = some x) : l.getD i 0 = x := by
  rw [List.getD_eq_getElem?_getD, h]
  rfl
theorem kind_int {c p : List Nat} {tol i x y : Nat} (hx : c[1 + i]? = some x) (hy : p[i]? = some y) :
    decide ((if (x : Int) * (Kza1.sum p : Int) - (Kza1.fibre c : Int) * (y : Int) < 0 then -((x : Int) * (Kza1.sum p : Int) - (Kza1.fibre c : Int) * (y : Int)) else (x : Int) * (Kza1.sum p : Int) - (Kza1.fibre c : Int) * (y : Int)) * 1000 ≤ (tol : Int) * ((Kza1.fibre c : Int) * (Kza1.sum p : Int)))
      = kindKeeps c p tol i := by
  have h1 : (c.drop 1).getD i 0 = x := getD_get (by rw [List.getElem?_drop]; exact hx)
  have h2 : p.getD i 0 = y := getD_get hy
  have e1 : (x : Int) * (Kza1.sum p : Int) = ((x * Kza1.sum p : Nat) : Int) := (Int.natCast_mul _ _).symm
  have e2 : (Kza1.fibre c : Int) * (y : Int) = ((y * Kza1.fibre c : Nat) : Int) := by rw [← Int.natCast_mul, Nat.mul_comm]
  have e3 : (tol : Int) * ((Kza1.fibre c : Int) * (Kza1.sum p : Int)) = ((tol * Kza1.fibre c * Kza1.sum p : Nat) : Int) := by rw [← Int.natCast_mul, ← Int.natCast_mul, Nat.mul_assoc]
  unfold kindKeeps
  rw [e1, e2, e3, gap_int, h1, h2]
  exact decide_eq_decide.mpr (by omega)
theorem needs_get {p : List Nat} {n i x : Nat} (h : p[i]? = some x) : (Kza1.needs p n)[i]? = some ((n * x + Kza1.sum p - 1) / Kza1.sum p) := by
  unfold Kza1.needs
  rw [List.getElem?_map, h]
  rfl
/-- what the first i kinds let -/
def lets (a p : List Nat) (i : Nat) : List Nat := ((List.range i).filter fun j => decide (0 < p.getD j 0)).map fun j => a.getD j 0 * Kza1.sum p / p.getD j 0
theorem mostBy_is (a p : List Nat) : Kza1.mostBy a p = (lets a p 4).foldl min (100000 * 400) := rfl
theorem lets_more {a p : List Nat} {i x y : Nat} (hx : a[i]? = some x) (hy : p[i]? = some y) (h : 0 < y) : lets a p (i + 1) = lets a p i ++ [x * Kza1.sum p / y] := by
  have h1 := getD_get hx
  have h2 := getD_get hy
  unfold lets
  rw [List.range_succ, List.filter_append, List.map_append, List.filter_cons, if_pos (by rw [h2]; exact decide_eq_true h), List.filter_nil, List.map_cons, List.map_nil, h1, h2]
theorem lets_same {a p : List Nat} {i y : Nat} (hy : p[i]? = some y) (h : ¬ 0 < y) : lets a p (i + 1) = lets a p i := by
  have h2 := getD_get hy
  unfold lets
  rw [List.range_succ, List.filter_append, List.map_append, List.filter_cons, if_neg (by rw [h2]; simpa using h), List.filter_nil, List.map_nil, List.append_nil]
theorem lets_length (a p : List Nat) (i : Nat) : (lets a p i).length ≤ i := by
  unfold lets
  rw [List.length_map]
  have h := List.length_filter_le (fun j => decide (0 < p.getD j 0)) (List.range i)
  rwa [List.length_range] at h
theorem foldl_min {m : Nat} : ∀ {l : List Nat} {a : Nat}, (∀ y ∈ l, m ≤ y) → m ≤ a → (a = m ∨ m ∈ l) → l.foldl min a = m
  | [], a, _, _, h3 => by
    rcases h3 with e | h
    · exact e
    · cases h
  | x :: l, a, h1, h2, h3 => by
    rw [List.foldl_cons]
    have hx := h1 x List.mem_cons_self
    refine foldl_min (fun y hy => h1 y (List.mem_cons_of_mem _ hy)) (by omega) ?_
    rcases h3 with e | h
    · left; omega
    · rcases List.mem_cons.mp h with e | h
      · left; omega
      · right; exact h
theorem lets_le {a p : List Nat} (ha : ∀ x ∈ a, x ≤ 100000) (hp : Kza1.sum p ≤ 400) {i z : Nat} (h : z ∈ lets a p i) : z ≤ 100000 * 400 := by
  unfold lets at h
  obtain ⟨j, _, rfl⟩ := List.mem_map.mp h
  have h1 : a.getD j 0 ≤ 100000 := by
    rw [List.getD_eq_getElem?_getD]
    cases e : a[j]? with
    | none => exact Nat.zero_le _
    | some x => exact ha x (List.mem_of_getElem? e)
  exact Nat.le_trans (Nat.div_le_self _ _) (Nat.mul_le_mul h1 hp)
theorem mostBy_min {a p : List Nat} (ha : ∀ x ∈ a, x ≤ 100000) (hp : Kza1.sum p ≤ 400) {m : Int} (h1 : m ∈ zs (lets a p 4)) (h2 : ∀ y ∈ zs (lets a p 4), m ≤ y) : m = (Kza1.mostBy a p : Int) := by
  obtain ⟨k, hk, rfl⟩ := List.mem_map.mp h1
  rw [mostBy_is, foldl_min (m := k) (fun y hy => ?_) (lets_le ha hp hk) (.inr hk)]
  have := h2 (y : Int) (List.mem_map.mpr ⟨y, hy, rfl⟩)
  omega
theorem sum_pos : ∀ {l : List Nat}, 0 < Kza1.sum l → ∃ (i y : Nat), l[i]? = some y ∧ 0 < y
  | [], h => absurd h (by decide)
  | x :: l, h => by
    by_cases hx : 0 < x
    · exact ⟨0, x, rfl, hx⟩
    · rw [sum_cons] at h
      obtain ⟨i, y, h1, h2⟩ := sum_pos (l := l) (by omega)
      exact ⟨i + 1, y, h1, h2⟩
theorem lets_some {a p : List Nat} (hl : p.length = 4) (hp : 0 < Kza1.sum p) : 0 < (lets a p 4).length := by
  obtain ⟨i, y, h1, h2⟩ := sum_pos hp
  have hi : i < 4 := by rw [← hl]; exact (List.getElem?_eq_some_iff.mp h1).1
  refine List.length_pos_of_mem (a := a.getD i 0 * Kza1.sum p / p.getD i 0) ?_
  unfold lets
  refine List.mem_map.mpr ⟨i, List.mem_filter.mpr ⟨List.mem_range.mpr hi, ?_⟩, rfl⟩
  rw [getD_get h1]
  exact decide_eq_true h2
theorem mostBy_le {a p : List Nat} : Kza1.mostBy a p ≤ 100000 * 400 := by
  rw [mostBy_is]
  have : ∀ (l : List Nat) (b : Nat), l.foldl min b ≤ b := fun l => by
    induction l with
    | nil => exact fun b => Nat.le_refl _
    | cons x l ih =>
      intro b
      rw [List.foldl_cons]
      exact Nat.le_trans (ih _) (Nat.min_le_left _ _)
  exact this _ _
end Sb
set_option maxRecDepth 100000
set_option maxHeartbeats 2000000
/-! The walk: each def once, by its promise. -/
namespace Sb
open PySem PySem.Spec PyProof.Rows L2
open PySem.W (Codec)
open Kza1Neutral (natsOf)
/-- whole numbers from 0 on as values -/
def iv (ms : List Nat) : List V := (zs ms).map V.int
theorem iv_len (ms : List Nat) : (iv ms).length = ms.length := by
  unfold iv
  rw [List.length_map, ints_length]
theorem iv_get (ms : List Nat) (i : Nat) : (iv ms)[i]? = ms[i]?.map fun (x : Nat) => V.int (x : Int) := by
  unfold iv
  rw [List.getElem?_map, ints_get, Option.map_map]
  rfl
theorem iv_at {ms : List Nat} {i x : Nat} (h : ms[i]? = some x) : (iv ms)[i]? = some (V.int (x : Int)) := by
  rw [iv_get, h]
  rfl
theorem iv_item {ms : List Nat} {i : Nat} {v : V} (h : (iv ms)[i]? = some v) : ∃ x : Nat, ms[i]? = some x ∧ v = V.int (x : Int) := by
  rw [iv_get] at h
  cases e : ms[i]? with
  | none =>
    rw [e] at h
    cases h
  | some x =>
    rw [e] at h
    exact ⟨x, rfl, (Option.some.inj h).symm⟩
theorem iv_append (a b : List Nat) : iv (a ++ b) = iv a ++ iv b := by
  unfold iv zs Kza1Neutral.ints
  rw [List.map_append, List.map_append]
theorem iv_more {l : List Nat} {i x : Nat} (h : l[i]? = some x) : iv (l.take i) ++ [V.int (x : Int)] = iv (l.take (i + 1)) := by
  rw [take_snoc h, iv_append]
  rfl
theorem iv_cut (ms : List Nat) : cutV (iv ms) (some 1) none = iv (ms.drop 1) := by
  have e1 : HT.sIx (iv ms).length 0 (some 1) = min 1 (iv ms).length := HT.sIx_nat _ _ 1
  have e2 : HT.sIx (iv ms).length (iv ms).length none = (iv ms).length := rfl
  unfold cutV
  rw [e1, e2]
  cases ms with
  | nil => rfl
  | cons x l =>
    have e3 : min 1 (iv (x :: l)).length = 1 := by rw [iv_len, List.length_cons]; omega
    rw [e3]
    show ((iv l).take ((iv (x :: l)).length - 1)) = iv l
    exact List.take_of_length_le (by rw [iv_len, iv_len, List.length_cons]; omega)
theorem same_new {H : Hp} {p : Addr} {o : HO} (h : H p = none) : Same H (upd H p o) := fun b u e => by
  rw [upd_ne (ne_of_none e h)]
  exact e
theorem same_upd {H H' : Hp} {p : Addr} {o : HO} (s : Same H H') (h : H p = none) : Same H (upd H' p o) := fun b u e => by
  rw [upd_ne (ne_of_none e h)]
  exact s b u e
theorem ifB {b : Bool} {A B : Prop} (h1 : b = true → A) (h2 : b = false → B) : if b = true then A else B := by
  cases b with
  | true => exact iteT (h1 rfl)
  | false => exact iteF (h2 rfl)
theorem cast_bl {Q : VK} {H : Hp} {b c : Bool} (e : b = c) (h : Q (.bl c) H) : Q (.bl b) H := e ▸ h
theorem cast_int {Q : VK} {H : Hp} {b c : Int} (e : b = c) (h : Q (.int c) H) : Q (.int b) H := e ▸ h
theorem mul_l {a : Nat} {j : Int} (h : a ≤ 4294967295) : CMul (a : Int) j := .inl ⟨by omega, by omega⟩
theorem mul_r {i : Int} {b : Nat} (h : b ≤ 4294967295) : CMul i (b : Int) := .inr ⟨by omega, by omega⟩
theorem div_ok {i : Int} {b : Nat} (h : 0 < b) (h2 : b < 1073741824) : CDivN i (b : Int) := ⟨by omega, by omega⟩
theorem small {n : Nat} (h : n ≤ 64) : n < sizeLine := Nat.lt_of_le_of_lt h (by decide)
theorem small_le {n : Nat} (h : n ≤ 64) : n ≤ sizeLine := Nat.le_of_lt (small h)
theorem dec_nat (a b : Nat) : decide ((a : Int) ≤ (b : Int)) = decide (a ≤ b) := decide_eq_decide.mpr (by omega)
/-- a def that may be called by its name: it keeps its promise -/
structure Cal (P : Program) (w : World) (K : PySem.W.Frag) (mg : Str → Option Value) (base : Heap) (x : Str) (k : Nat) (ps : List Str) (sp : Sp) : Prop where
  ex : ∃ (f : Addr) (fd : FuncData), FnOk P w K mg base CX0 k f fd ps sp ∧ mg x = some (.ref f) ∧ PySem.W.keepIn K (.ref f) = true ∧ Binds K fd ps []
theorem pe_cal {X : Cx} {x : Str} {k : Nat} {ps : List Str} {sp : Sp} {p pos : Pos} {e : Expr} {es : List Expr} {t : TA} (C : Cal X.prog X.w X.K X.mg X.base x k ps sp) (hr : Room k X.A) (hg : Gl X x) (ha : PA X (e :: es) t)
    (hdb : (x == ("__debug__" : Str)) = false := by decide) (he : starEach (e :: es) X.env = (false, eval e X.env) :: starEach es X.env := by rfl) (hpl : (backTo pos (starEach es X.env)).any (·.1) = false := by rfl) :
    PE X (.Call (.Name x p) (e :: es) [] pos) (tCall sp [] E0 t) := by
  obtain ⟨f, fd, F, m, kp, b⟩ := C.ex
  exact pe_call F hr hg m kp b .nil pass0 ha hdb he hpl
theorem cal_of {P : Program} {w : World} {K : PySem.W.Frag} {mg : Str → Option Value} {base h : Heap} {x : Str} {st : Stmt} {f : Addr} {oc : Value} {od an : Option Addr} {osl : Array (Option Value)} {kV doc pm cdv ct : Value} {ps : List Str} {k : Nat} {sp : Sp}
    (X : K.In h) (G : h.Ns mainGlobals mg) (a : PySem.W.nsIn K mainGlobals x = some (some (.ref f))) (l : K.lookup f = some ⟨oc, od, .func (PySem.W.fnOf x x (defArgs st) (defBody st) (defScope st) .none kV doc pm an cdv ct), osl⟩)
    (c : PySem.W.codeIn K cdv x = true) (kp : PySem.W.keepIn K (.ref f) = true)
    (bn : ∀ (kV doc pm : Value) (an : Option Addr) (cdv ct : Value) (us : List Value), us.length = ps.length → bindArgs (PySem.W.fnOf x x (defArgs st) (defBody st) (defScope st) .none kV doc pm an cdv ct) ⟨us, []⟩ = pure (ps.zip us))
    (ok : ∀ fd : FuncData, Fun K x x st f fd → FnOk P w K mg base CX0 k f fd ps sp) : Cal P w K mg base x k ps sp := by
  have F := fun_mk (st := st) l c kp
  exact ⟨f, _, ok _ F, PySem.W.mg_of X G a, kp, F.binds bn⟩
/-- a list of whole numbers from 0 on, at most 8, stands at a -/
def LN (K : PySem.W.Frag) (H : Hp) (a : Addr) (ms : List Nat) : Prop := SqL K H a (iv ms) ∧ ms.length ≤ 8
theorem LN.same {K : PySem.W.Frag} {H H' : Hp} {a : Addr} {ms : List Nat} (h : LN K H a ms) (s : Same H H') : LN K H' a ms := ⟨s.seq h.1, h.2⟩
/-- what is due, as one list -/
def due (x : Kza1.Ans) : List Int := x.value :: zs x.nums
theorem due_nats (v : Nat) (l : List Nat) : (due ⟨(v : Int), l⟩).map V.int = V.int (v : Int) :: iv l := rfl
theorem due_say (v : Int) : (due (Kza1.say v)).map V.int = [V.int v] := rfl
/-! ### the promises -/
def spWithin (K : PySem.W.Frag) : Sp := fun vs H Q _ => ∃ (a : Addr) (ms : List Nat) (many most : Nat), vs = [.ref a, .int (many : Int), .int (most : Int)] ∧ LN K H a ms ∧ ∀ H', Same H H' → Q (.bl (within ms many most)) H'
/-- one list in, a truth value out -/
def spTell (K : PySem.W.Frag) (f : List Nat → Bool) : Sp := fun vs H Q _ => ∃ (a : Addr) (ms : List Nat), vs = [.ref a] ∧ LN K H a ms ∧ ∀ H', Same H H' → Q (.bl (f ms)) H'
/-- one list in, a number out -/
def spNum (K : PySem.W.Frag) (f : List Nat → Nat) : Sp := fun vs H Q _ => ∃ (a : Addr) (ms : List Nat), vs = [.ref a] ∧ LN K H a ms ∧ ∀ H', Same H H' → Q (.int (f ms : Nat)) H'
def spThick (K : PySem.W.Frag) : Sp := fun vs H Q _ => ∃ (a : Addr) (ms : List Nat), vs = [.ref a] ∧ LN K H a ms ∧ Kza1.sum ms < 1073741824 ∧ ∀ H', Same H H' → Q (.int (Kza1.thick ms : Nat)) H'
/-- two lists in, a new one out, part by part -/
def spZip (K : PySem.W.Frag) (f : Nat → Nat → Nat) (ok : List Nat → List Nat → Prop) : Sp := fun vs H Q _ => ∃ (a b : Addr) (cs ds : List Nat), vs = [.ref a, .ref b] ∧ LN K H a cs ∧ LN K H b ds ∧ ok cs ds ∧
  ∀ (H' : Hp) (p : Addr), Same H H' → H' p = some (.lst (iv (List.zipWith f cs ds))) → Q (.ref p) H'
def spShare : Sp := fun vs H Q _ => ∃ (n part whole : Nat), vs = [.int (n : Int), .int (part : Int), .int (whole : Int)] ∧ n ≤ 4294967295 ∧ whole < 1073741824 ∧ ∀ H', Same H H' → Q (.int ((n * part / whole : Nat) : Int)) H'
def spDrawn (K : PySem.W.Frag) : Sp := fun vs H Q _ => ∃ (a : Addr) (cs : List Nat) (n : Nat), vs = [.ref a, .int (n : Int)] ∧ LN K H a cs ∧ n ≤ 4294967295 ∧ Kza1.sum cs < 1073741824 ∧
  ∀ (H' : Hp) (p : Addr), Same H H' → H' p = some (.lst (iv (Kza1.draw cs n))) → Q (.ref p) H'
def spUp : Sp := fun vs H Q _ => ∃ (x b : Nat), vs = [.int (x : Int), .int (b : Int)] ∧ 0 < b ∧ b < 1073741824 ∧ ∀ H', Same H H' → Q (.int (((x + b - 1) / b : Nat) : Int)) H'
def spWater (K : PySem.W.Frag) : Sp := fun vs H Q _ => ∃ (a : Addr) (cs : List Nat) (t : Nat), vs = [.ref a, .int (t : Int)] ∧ LN K H a cs ∧ 0 < t ∧ t < 1073741824 ∧ ∀ H', Same H H' → Q (.int (Kza1.thin cs t : Nat)) H'
def spKind (K : PySem.W.Frag) : Sp := fun vs H Q _ => ∃ (a b : Addr) (cs ps : List Nat) (kind tol : Nat), vs = [.ref a, .ref b, .int (kind : Int), .int (tol : Int)] ∧ LN K H a cs ∧ LN K H b ps ∧ within cs 5 100000 = true ∧ within ps 4 100 = true ∧ kind < 4 ∧ tol ≤ 1000 ∧
  ∀ H', Same H H' → Q (.bl (kindKeeps cs ps tol kind)) H'
def spKeeps (K : PySem.W.Frag) : Sp := fun vs H Q _ => ∃ (a b : Addr) (cs ps : List Nat) (tol : Nat), vs = [.ref a, .ref b, .int (tol : Int)] ∧ LN K H a cs ∧ LN K H b ps ∧ within cs 5 100000 = true ∧ within ps 4 100 = true ∧ tol ≤ 1000 ∧
  ∀ H', Same H H' → Q (.bl (Kza1.keeps cs ps tol)) H'
def spNeeded (K : PySem.W.Frag) : Sp := fun vs H Q _ => ∃ (b : Addr) (ps : List Nat) (n : Nat), vs = [.ref b, .int (n : Int)] ∧ LN K H b ps ∧ within ps 4 100 = true ∧ 0 < Kza1.sum ps ∧
  ∀ (H' : Hp) (p : Addr), Same H H' → H' p = some (.lst (iv (Kza1.needs ps n))) → Q (.ref p) H'
def spMostBy (K : PySem.W.Frag) : Sp := fun vs H Q _ => ∃ (a b : Addr) (xs ps : List Nat), vs = [.ref a, .ref b] ∧ LN K H a xs ∧ LN K H b ps ∧ within xs 4 100000 = true ∧ within ps 4 100 = true ∧ 0 < Kza1.sum ps ∧ ∀ H', Same H H' → Q (.int (Kza1.mostBy xs ps : Nat)) H'
def spTop (K : PySem.W.Frag) : Sp := fun vs H Q _ => ∃ (a b : Addr) (xs ps : List Nat), vs = [.ref a, .ref b] ∧ LN K H a xs ∧ LN K H b ps ∧
  ∀ (H' : Hp) (p : Addr), H' p = some (.lst ((due (Kza1.answer (.mostBy xs ps))).map V.int)) → Q (.ref p) H'
/-! ### the text by places -/
def top (i : Nat) : Stmt := PySem.Challenge.pw_stockblends_s06_most.main.body.getD i (.Pass ⟨0, 0, 0, 0⟩)
abbrev st_are_within : Stmt := top 4
abbrev st_rounded_up : Stmt := top 8
abbrev st_parts_of : Stmt := top 10
abbrev st_is_stock : Stmt := top 5
abbrev st_is_recipe : Stmt := top 6
abbrev st_needed : Stmt := top 11
abbrev st_most_by : Stmt := top 12
abbrev st_most : Stmt := top 15
section
variable {P : Program} {w : World} {K : PySem.W.Frag} {mg : Str → Option Value} {base : Heap}
/-! ### one theorem a def -/
theorem sc_are_within : FnScope ["numbers", "many", "most", "number"] ["numbers", "many", "most"] (defScope st_are_within) := ⟨rfl, rfl, rfl, by decide +kernel, rfl, by decide +kernel, by decide +kernel⟩
theorem ok_are_within {f : Addr} {fd : FuncData} (F : Fun K "are_within" "are_within" st_are_within f fd) (m_len : mg "len" = none) (m_all : mg "all" = none) : FnOk P w K mg base CX0 1 f fd ["numbers", "many", "most"] (spWithin K) := by
  refine F.ok sc_are_within (fun vs H Q E h => ?_) (fun cdv A outer s H vs Q E hr h => ?_)
  · obtain ⟨a, ms, many, most, rfl, hS, k⟩ := h
    rfl
  · obtain ⟨a, ms, many, most, rfl, hS, k⟩ := h
    refine ⟨_, pss_one (ps_ret (pe_and (pe_cmpR op_eq (pe_callB call_len_seq (by rfl) m_len PySem.boot_len (pa_cons (pv 0) pa_nil)) (pv 1) (nomark _))
      (pe_one (pe_callB (cr_all rfl) (by rfl) m_all (by decide +kernel) (pa_cons
        (pe_lc (own := [("number", 3)]) (g := gName 3) (tt := tYes) rfl sc_are_within.nd (pi_list (pv 0)) (blkOk_by (N := ["numbers", "many", "most", "number"]) (sc := defScope st_are_within) (by decide +kernel))
          (fun _ _ _ _ _ => pg_name (i := 3) sc_are_within.nd rfl (Or.inl rfl)) (fun _ _ _ _ _ => pts_nil) (fun _ _ _ _ _ => pe_cmpR op_le (pv 3) (pv 2) (nomark _))) pa_nil))))), ?_⟩
    refine ⟨_, rfl, a, _, rfl, .inl hS.1, _, rfl, rfl, _, rfl, ifB (fun hc => ?_) (fun hc => ?_)⟩
    · have hc : ms.length = many := by
        have e := of_decide_eq_true hc
        rw [V.int.injEq, iv_len] at e
        omega
      refine ⟨_, rfl, a, rfl, ⟨_, hS.1⟩, fun D hD => lc_list (K := K) (a := a) (xs := iv ms) (fun i H' => Same H H' ∧ H' D = some (.lst (((ms.take i).map fun x => decide (x ≤ most)).map V.bl))) ⟨same_new hD, upd_same⟩ (fun i H' _ q => q.1.seq hS.1) ?_ ?_⟩
      · rintro i x H' hx ⟨s, hD'⟩
        obtain ⟨z, hz, rfl⟩ := iv_item hx
        refine ⟨rfl, _, rfl, _, rfl, _, _, rfl, rfl, _, hD', small (by rw [List.length_map, List.length_map, List.length_take]; have := hS.2; omega), same_upd s hD, ?_⟩
        rw [upd_same, take_snoc hz, List.map_append, List.map_append]
        show some (HO.lst (_ ++ [V.bl (decide ((z : Int) ≤ (most : Int)))])) = some (HO.lst (_ ++ [V.bl (decide (z ≤ most))]))
        rw [dec_nat]
      · rintro H' ⟨s, hD'⟩
        rw [iv_len, List.take_length] at hD'
        refine ⟨D, _, rfl, SqL.of hD', ?_⟩
        have e : within ms many most = (ms.map fun x => decide (x ≤ most)).all id := by
          unfold within
          rw [hc, beq_self_eq_true, Bool.true_and, all_take]
        exact cast_bl (Q := Q) e.symm (k H' s)
    · have e : within ms many most = false := by
        unfold within
        have hn : ¬ ms.length = many := fun q => of_decide_eq_false hc (by rw [iv_len, q])
        rw [beq_eq_false_iff_ne.mpr hn, Bool.false_and]
      exact cast_bl (Q := Q) e.symm (k H (Same.refl H))
theorem sc_rounded_up : FnScope ["number", "by"] ["number", "by"] (defScope st_rounded_up) := ⟨rfl, rfl, rfl, by decide +kernel, rfl, by decide +kernel, by decide +kernel⟩
theorem ok_rounded_up {f : Addr} {fd : FuncData} (F : Fun K "rounded_up" "rounded_up" st_rounded_up f fd) : FnOk P w K mg base CX0 1 f fd ["number", "by"] (spUp) := by
  refine F.ok sc_rounded_up (fun vs H Q E h => ?_) (fun cdv A outer s H vs Q E hr h => ?_)
  · obtain ⟨x, b, rfl, hb, hb2, k⟩ := h
    rfl
  · obtain ⟨x, b, rfl, hb, hb2, k⟩ := h
    refine ⟨_, pss_one (ps_ret (pe_op op_fdivN (pe_op op_sub (pe_op op_add (pv 0) (pv 1)) pe_int) (pv 1))), ?_⟩
    refine ⟨_, rfl, _, rfl, _, _, rfl, rfl, _, _, rfl, rfl, _, rfl, _, _, rfl, rfl, div_ok hb hb2, ?_⟩
    exact cast_int (Q := Q) (up_int hb) (k H (Same.refl H))
theorem sc_parts_of : FnScope ["recipe"] ["recipe"] (defScope st_parts_of) := ⟨rfl, rfl, rfl, by decide +kernel, rfl, by decide +kernel, by decide +kernel⟩
theorem ok_parts_of {f : Addr} {fd : FuncData} (F : Fun K "parts_of" "parts_of" st_parts_of f fd) (m_sum : mg "sum" = none) : FnOk P w K mg base CX0 1 f fd ["recipe"] (spNum K Kza1.sum) := by
  refine F.ok sc_parts_of (fun vs H Q E h => ?_) (fun cdv A outer s H vs Q E hr h => ?_)
  · obtain ⟨a, ms, rfl, hS, k⟩ := h
    rfl
  · obtain ⟨a, ms, rfl, hS, k⟩ := h
    refine ⟨_, pss_one (ps_ret (pe_callB (cr_sum rfl) (by rfl) m_sum (by decide +kernel) (pa_cons (pv 0) pa_nil))), ?_⟩
    refine ⟨_, rfl, a, zs ms, rfl, hS.1, ?_⟩
    exact cast_int (Q := Q) (ints_sum ms) (k H (Same.refl H))
theorem sc_is_stock : FnScope ["numbers"] ["numbers"] (defScope st_is_stock) := ⟨rfl, rfl, rfl, by decide +kernel, rfl, by decide +kernel, by decide +kernel⟩
theorem ok_is_stock {f : Addr} {fd : FuncData} (F : Fun K "is_stock" "is_stock" st_is_stock f fd) {t_KINDS : Tok} (g_KINDS : mg "KINDS" = some (.int 4 t_KINDS)) {t_MOST_OF_A_PART : Tok} (g_MOST_OF_A_PART : mg "MOST_OF_A_PART" = some (.int 100000 t_MOST_OF_A_PART))
    (C_are_within : Cal P w K mg base "are_within" 1 ["numbers", "many", "most"] (spWithin K)) : FnOk P w K mg base CX0 2 f fd ["numbers"] (spTell K fun ms => within ms 4 100000) := by
  refine F.ok sc_is_stock (fun vs H Q E h => ?_) (fun cdv A outer s H vs Q E hr h => ?_)
  · obtain ⟨a, ms, rfl, hS, k⟩ := h
    rfl
  · obtain ⟨a, ms, rfl, hS, k⟩ := h
    refine ⟨_, pss_one (ps_ret (pe_cal C_are_within hr (by rfl) (pa_cons (pv 0) (pa_cons (pe_glob (v := .int 4) rfl g_KINDS ⟨_, rfl⟩) (pa_cons (pe_glob (v := .int 100000) rfl g_MOST_OF_A_PART ⟨_, rfl⟩) pa_nil))))), ?_⟩
    exact ⟨_, rfl, a, ms, 4, 100000, rfl, hS, k⟩
theorem sc_is_recipe : FnScope ["numbers"] ["numbers"] (defScope st_is_recipe) := ⟨rfl, rfl, rfl, by decide +kernel, rfl, by decide +kernel, by decide +kernel⟩
theorem ok_is_recipe {f : Addr} {fd : FuncData} (F : Fun K "is_recipe" "is_recipe" st_is_recipe f fd) (m_sum : mg "sum" = none) {t_KINDS : Tok} (g_KINDS : mg "KINDS" = some (.int 4 t_KINDS)) {t_MOST_PARTS : Tok} (g_MOST_PARTS : mg "MOST_PARTS" = some (.int 100 t_MOST_PARTS))
    (C_are_within : Cal P w K mg base "are_within" 1 ["numbers", "many", "most"] (spWithin K)) : FnOk P w K mg base CX0 2 f fd ["numbers"] (spTell K Kza1.okParts) := by
  refine F.ok sc_is_recipe (fun vs H Q E h => ?_) (fun cdv A outer s H vs Q E hr h => ?_)
  · obtain ⟨a, ms, rfl, hS, k⟩ := h
    rfl
  · obtain ⟨a, ms, rfl, hS, k⟩ := h
    refine ⟨_, pss_one (ps_ret (pe_and (pe_cal C_are_within hr (by rfl) (pa_cons (pv 0) (pa_cons (pe_glob (v := .int 4) rfl g_KINDS ⟨_, rfl⟩) (pa_cons (pe_glob (v := .int 100) rfl g_MOST_PARTS ⟨_, rfl⟩) pa_nil))))
      (pe_one (pe_cmpR op_gt (pe_callB (cr_sum rfl) (by rfl) m_sum (by decide +kernel) (pa_cons (pv 0) pa_nil)) pe_int (nomark _))))), ?_⟩
    refine ⟨_, rfl, a, ms, 4, 100, rfl, hS, fun H1 s1 => ⟨_, rfl, ifB (fun hc => ?_) (fun hc => ?_)⟩⟩
    · refine ⟨_, rfl, a, zs ms, rfl, (hS.same s1).1, _, _, rfl, rfl, ?_⟩
      have e : decide ((0 : Int) < (zs ms).sum) = Kza1.okParts ms := by
        rw [okParts_is, hc, Bool.true_and, ints_sum]
        exact decide_eq_decide.mpr (by omega)
      exact cast_bl (Q := Q) e (k H1 s1)
    · have e : Kza1.okParts ms = false := by rw [okParts_is, hc, Bool.false_and]
      exact cast_bl (Q := Q) e.symm (k H1 s1)
theorem sc_needed : FnScope ["recipe", "n", "part"] ["recipe", "n"] (defScope st_needed) := ⟨rfl, rfl, rfl, by decide +kernel, rfl, by decide +kernel, by decide +kernel⟩
theorem ok_needed {f : Addr} {fd : FuncData} (F : Fun K "needed" "needed" st_needed f fd)
    (C_rounded_up : Cal P w K mg base "rounded_up" 1 ["number", "by"] (spUp))
    (C_parts_of : Cal P w K mg base "parts_of" 1 ["recipe"] (spNum K Kza1.sum)) : FnOk P w K mg base CX0 2 f fd ["recipe", "n"] (spNeeded K) := by
  refine F.ok sc_needed (fun vs H Q E h => ?_) (fun cdv A outer s H vs Q E hr h => ?_)
  · obtain ⟨b, ps, n, rfl, hB, hp, hs, k⟩ := h
    rfl
  · obtain ⟨b, ps, n, rfl, hB, hp, hs, k⟩ := h
    refine ⟨_, pss_one (ps_ret (pe_lc (own := [("part", 2)]) (g := gName 2) (tt := tYes) rfl sc_needed.nd (pi_list (pv 0)) (blkOk_by (N := ["recipe", "n", "part"]) (sc := defScope st_needed) (by decide +kernel))
      (fun _ _ _ _ _ => pg_name (i := 2) sc_needed.nd rfl (Or.inl rfl)) (fun _ _ _ _ _ => pts_nil)
      (fun _ _ _ _ _ => pe_cal C_rounded_up hr (by rfl) (pa_cons (pe_op op_mul (pv 1) (pv 2)) (pa_cons (pe_cal C_parts_of hr (by rfl) (pa_cons (pv 0) pa_nil)) pa_nil))))), ?_⟩
    have hb := within_sum hp
    refine ⟨_, rfl, b, rfl, ⟨_, hB.1⟩, fun D hD => lc_list (K := K) (a := b) (xs := iv ps) (fun i H' => Same H H' ∧ H' D = some (.lst (iv ((Kza1.needs ps n).take i)))) ⟨same_new hD, upd_same⟩ (fun i H' _ q => q.1.seq hB.1) ?_ ?_⟩
    · rintro i x H' hx ⟨s, hD'⟩
      obtain ⟨z, hz, rfl⟩ := iv_item hx
      have hz2 := within_le hp z (List.mem_of_getElem? hz)
      refine ⟨rfl, _, rfl, _, rfl, _, _, rfl, rfl, mul_r (by omega), _, rfl, b, ps, rfl, hB.same s, fun H2 s2 => ?_⟩
      refine ⟨n * z, Kza1.sum ps, rfl, hs, by omega, fun H3 s3 => ?_⟩
      have t3 := s2.trans s3
      refine ⟨_, t3 _ _ hD', small (by rw [iv_len, List.length_take]; have := hB.2; unfold Kza1.needs; rw [List.length_map]; omega), same_upd (s.trans t3) hD, ?_⟩
      rw [upd_same, ← iv_more (needs_get hz)]
    · rintro H' ⟨s, hD'⟩
      have e : (iv ps).length = (Kza1.needs ps n).length := by
        unfold Kza1.needs
        rw [iv_len, List.length_map]
      rw [e, List.take_length] at hD'
      exact k H' D s hD'
theorem sc_most_by : FnScope ["stock", "recipe", "have", "part"] ["stock", "recipe"] (defScope st_most_by) := ⟨rfl, rfl, rfl, by decide +kernel, rfl, by decide +kernel, by decide +kernel⟩
theorem ok_most_by {f : Addr} {fd : FuncData} (F : Fun K "most_by" "most_by" st_most_by f fd) (m_min : mg "min" = none) (m_zip : mg "zip" = none)
    (C_parts_of : Cal P w K mg base "parts_of" 1 ["recipe"] (spNum K Kza1.sum)) : FnOk P w K mg base CX0 2 f fd ["stock", "recipe"] (spMostBy K) := by
  refine F.ok sc_most_by (fun vs H Q E h => ?_) (fun cdv A outer s H vs Q E hr h => ?_)
  · obtain ⟨a, b, xs, ps, rfl, hA, hB, hx, hp, hs, k⟩ := h
    rfl
  · obtain ⟨a, b, xs, ps, rfl, hA, hB, hx, hp, hs, k⟩ := h
    refine ⟨_, pss_one (ps_ret (pe_callB (cr_min rfl) (by rfl) m_min (by decide +kernel) (pa_cons
      (pe_lc (own := [("have", 2), ("part", 3)]) (g := gTup K 2 (gCons (gName 2) (gCons (gName 3) gNil))) (tt := tTest (tOp (rI0 fun i j => .bl (decide (j < i))) (tVar 3) (tC (.int 0)))) rfl sc_most_by.nd
        (pi_zip (by rfl) m_zip (pa_cons (pv 0) (pa_cons (pv 1) pa_nil))) (blkOk_by (N := ["stock", "recipe", "have", "part"]) (sc := defScope st_most_by) (by decide +kernel))
        (fun _ _ _ _ _ => pg_tup rfl (pgs_cons (pg_name (i := 2) sc_most_by.nd rfl (Or.inl rfl)) (pgs_cons (pg_name (i := 3) sc_most_by.nd rfl (Or.inl rfl)) pgs_nil)))
        (fun _ _ _ _ _ => pts_one (pt_cmpR op_gt (pv 3) pe_int (nomark _)))
        (fun _ _ _ _ _ => pe_op op_fdivN (pe_op op_mul (pv 2) (pe_cal C_parts_of hr (by rfl) (pa_cons (pv 1) pa_nil))) (pv 3))) pa_nil))), ?_⟩
    have hl : min (iv xs).length (iv ps).length = 4 := by
      rw [iv_len, iv_len, within_len hx, within_len hp]
      rfl
    refine ⟨_, rfl, _, rfl, a, b, iv xs, iv ps, rfl, hA.1, hB.1, fun D hD => lc_it (walk_zip (K := K) (a := a) (b := b) (xs := iv xs) (ys := iv ps) (n := 4) hl.symm)
      (fun i H' => Same H H' ∧ H' D = some (.lst (iv (lets xs ps i)))) ⟨same_new hD, upd_same⟩ (fun i H' _ q => ⟨q.1.seq hA.1, q.1.seq hB.1⟩) ?_ ?_⟩
    · rintro i x H1 H2 hi ⟨s, hD'⟩ ⟨T, u, v, rfl, hT, rfl, hu, hv⟩
      obtain ⟨x, hx', rfl⟩ := iv_item hu
      obtain ⟨y, hy, rfl⟩ := iv_item hv
      have s2 : Same H (upd H1 T (.tup [V.int (x : Int), V.int (y : Int)])) := s.trans (same_new hT)
      have hD2 : upd H1 T (.tup [V.int (x : Int), V.int (y : Int)]) D = some (.lst (iv (lets xs ps i))) := (upd_ne (ne_of_none hD' hT)).trans hD'
      have hx2 := within_le hx x (List.mem_of_getElem? hx')
      have hy2 := within_le hp y (List.mem_of_getElem? hy)
      refine ⟨T, _, rfl, SqT.of upd_same, rfl, _, _, rfl, _, _, rfl, rfl, rfl, _, rfl, _, _, rfl, rfl, _, rfl, ifB (fun hc => ?_) (fun hc => ?_)⟩
      · have h0 : 0 < y := by
          have e := of_decide_eq_true hc
          omega
        refine ⟨_, rfl, _, rfl, b, ps, rfl, hB.same s2, fun H3 s3 => ⟨_, _, rfl, rfl, mul_l (by omega), _, rfl, _, _, rfl, rfl, div_ok h0 (by omega), ?_⟩⟩
        refine ⟨_, s3 _ _ hD2, small (by rw [iv_len]; have := lets_length xs ps i; omega), same_upd (s2.trans s3) hD, ?_⟩
        have e : Int.fdiv ((x : Int) * (Kza1.sum ps : Int)) (y : Int) = ((x * Kza1.sum ps / y : Nat) : Int) := by rw [← Int.natCast_mul, fdiv_nat]
        rw [upd_same, lets_more hx' hy h0, iv_append]
        dsimp only
        rw [e]
        rfl
      · have h0 : ¬ 0 < y := by
          have e := of_decide_eq_false hc
          omega
        refine ⟨s2, ?_⟩
        rw [lets_same hy h0]
        exact hD2
    · rintro H' ⟨s, hD'⟩
      refine ⟨D, zs (lets xs ps 4), rfl, SqL.of hD', (by rw [ints_length]; exact lets_some (within_len hp) hs), fun m h1 h2 => ?_⟩
      have hb := within_sum hp
      exact cast_int (Q := Q) (mostBy_min (within_le hx) (by omega) h1 h2) (k H' s)
theorem sc_most : FnScope ["a", "p", "many"] ["a", "p"] (defScope st_most) := ⟨rfl, rfl, rfl, by decide +kernel, rfl, by decide +kernel, by decide +kernel⟩
theorem ok_most {f : Addr} {fd : FuncData} (F : Fun K "most" "most" st_most f fd) {t_NOT_AS_TOLD : Tok} (g_NOT_AS_TOLD : mg "NOT_AS_TOLD" = some (.int (-22) t_NOT_AS_TOLD))
    (C_is_stock : Cal P w K mg base "is_stock" 2 ["numbers"] (spTell K fun ms => within ms 4 100000))
    (C_is_recipe : Cal P w K mg base "is_recipe" 2 ["numbers"] (spTell K Kza1.okParts))
    (C_most_by : Cal P w K mg base "most_by" 2 ["stock", "recipe"] (spMostBy K))
    (C_needed : Cal P w K mg base "needed" 2 ["recipe", "n"] (spNeeded K)) : FnOk P w K mg base CX0 3 f fd ["a", "p"] (spTop K) := by
  refine F.ok sc_most (fun vs H Q E h => ?_) (fun cdv A outer s H vs Q E hr h => ?_)
  · obtain ⟨a, b, xs, ps, rfl, hA, hB, k⟩ := h
    rfl
  · obtain ⟨a, b, xs, ps, rfl, hA, hB, k⟩ := h
    refine ⟨_, pss_cons (ps_if (PW.pt (pw_or (pt_not (pt_val (pe_cal C_is_stock hr (by rfl) (pa_cons (pv 0) pa_nil)))) (pw_or1 (pt_not (pt_val (pe_cal C_is_recipe hr (by rfl) (pa_cons (pv 1) pa_nil))))))) (pss_one (ps_ret (pe_lst (pa_cons (pe_glob (v := .int (-22)) rfl g_NOT_AS_TOLD ⟨_, rfl⟩) pa_nil)))) pss_nil)
      (pss_cons (ps_set (i := 2) sc_most.nd rfl (Or.inl rfl) (pe_cal C_most_by hr (by rfl) (pa_cons (pv 0) (pa_cons (pv 1) pa_nil))))
      (pss_one (ps_ret (pe_op op_cat (pe_lst (pa_cons (pv 2) pa_nil)) (pe_cal C_needed hr (by rfl) (pa_cons (pv 1) (pa_cons (pv 2) pa_nil))))))), ?_⟩
    have bad : (xs.length ≠ 4 ∨ (xs.all fun x => decide (x ≤ Kza1.most)) = false ∨ Kza1.okParts ps = false) → ∀ (H' : Hp), (1 ≤ sizeLine ∧ ∀ p, H' p = none → Q (.ref p) (upd H' p (.lst [V.int (-22)]))) := fun hc H' => by
      refine ⟨by decide, fun p hp => k _ p ?_⟩
      have e : Kza1.answer (.mostBy xs ps) = Kza1.say (-22) := if_pos hc
      rw [upd_same, e]
      rfl
    have split : within xs 4 100000 = false → xs.length ≠ 4 ∨ (xs.all fun x => decide (x ≤ Kza1.most)) = false := fun z => by
      unfold within at z
      rw [Bool.and_eq_false_iff] at z
      rcases z with z | z
      · exact .inl (ne_of_beq_false z)
      · exact .inr z
    refine ⟨_, rfl, a, xs, rfl, hA, fun H1 s1 => ⟨_, rfl, ifB (fun h1 => bad ((split (by simpa using h1)).elim .inl fun z => .inr (.inl z)) H1) (fun h1 => ?_)⟩⟩
    refine ⟨_, rfl, b, ps, rfl, hB.same s1, fun H2 s2 => ⟨_, rfl, ifB (fun h2 => bad (.inr (.inr (by simpa using h2))) H2) (fun h2 => ?_)⟩⟩
    have t2 := s1.trans s2
    have h1 : within xs 4 100000 = true := by simpa using h1
    have h2 : Kza1.okParts ps = true := by simpa using h2
    have h2' : within ps 4 100 = true ∧ 0 < Kza1.sum ps := by
      rw [okParts_is, Bool.and_eq_true] at h2
      exact ⟨h2.1, of_decide_eq_true h2.2⟩
    refine ⟨_, rfl, _, rfl, a, b, xs, ps, rfl, hA.same t2, hB.same t2, h1, h2'.1, h2'.2, fun H3 s3 => ?_⟩
    have t3 := t2.trans s3
    refine ⟨_, rfl, (by show 1 ≤ sizeLine; decide), fun u hu => ?_⟩
    have t4 := t3.trans (same_new (o := .lst [V.int (Kza1.mostBy xs ps : Nat)]) hu)
    refine ⟨_, rfl, _, rfl, b, ps, Kza1.mostBy xs ps, rfl, hB.same t4, h2'.1, h2'.2, fun H5 r s5 hr5 => ?_⟩
    have hu5 := s5 _ _ (upd_same (H := _) (a := u) (o := .lst [V.int (Kza1.mostBy xs ps : Nat)]))
    refine ⟨u, r, _, _, rfl, rfl, hu5, hr5, small_le (by
      have hl := hB.2
      rw [iv_len]
      unfold Kza1.needs
      rw [List.length_map]
      show 1 + _ ≤ 64
      omega), fun p hp => k _ p ?_⟩
    have e : Kza1.answer (.mostBy xs ps) = ⟨(Kza1.mostBy xs ps : Nat), Kza1.needs ps (Kza1.mostBy xs ps)⟩ := if_neg (by
      rw [h2]
      rintro (z | z | z)
      · exact z (within_len h1)
      · have w : (xs.all fun x => decide (x ≤ Kza1.most)) = true := by
          unfold within at h1
          rw [Bool.and_eq_true] at h1
          exact h1.2
        rw [w] at z
        cases z
      · cases z)
    rw [upd_same, e]
    rfl
end
theorem list_in {l : List Int} (h : (Codec.inLen 0 8 l && l.all (Codec.inInt 0 4294967295)) = true) : l.length ≤ 8 ∧ ∀ x ∈ l, 0 ≤ x := by
  rw [Bool.and_eq_true, List.all_eq_true] at h
  exact ⟨(Codec.inNat_iff.mp h.1).2, fun x hx => (Codec.inInt_iff.mp (h.2 x hx)).1⟩
theorem ln_of {K : PySem.W.Frag} {H : Hp} {p : Addr} {l : List Int} (h : l.length ≤ 8 ∧ ∀ x ∈ l, 0 ≤ x) (hs : SqL K H p (l.map V.int)) : LN K H p (natsOf l) := by
  refine ⟨?_, by rw [natsOf_length]; exact h.1⟩
  unfold iv
  rw [ints_natsOf l h.2]
  exact hs
theorem nat_of {z : Int} (h : Codec.inInt 0 4294967295 z = true) : ((z.toNat : Nat) : Int) = z ∧ z.toNat ≤ 4294967295 := by
  have q := Codec.inInt_iff.mp h
  exact ⟨by omega, by omega⟩
/-! ### the end: what the top has written -/
theorem all_mk {P : Program} {w : World} {K : PySem.W.Frag} {h : Heap} {mg : Str → Option Value} {fa : Addr} {f0 f1 f2 f3 f4 f5 f6 f7 : Addr} (X : K.In h) (G : h.Ns mainGlobals mg) (hfa : mg "most" = some (.ref fa))
    {od0 an0 od1 an1 od2 an2 od3 an3 od4 an4 od5 an5 od6 an6 od7 an7 : Option Addr} {sl0 sl1 sl2 sl3 sl4 sl5 sl6 sl7 : Array (Option Value)}
    {oc0 kV0 dc0 pm0 cd0 ct0 oc1 kV1 dc1 pm1 cd1 ct1 oc2 kV2 dc2 pm2 cd2 ct2 oc3 kV3 dc3 pm3 cd3 ct3 oc4 kV4 dc4 pm4 cd4 ct4 oc5 kV5 dc5 pm5 cd5 ct5 oc6 kV6 dc6 pm6 cd6 ct6 oc7 kV7 dc7 pm7 cd7 ct7 : Value}
    {t_KINDS t_MOST_OF_A_PART t_MOST_PARTS t_NOT_AS_TOLD : Tok}
    (a0 : PySem.W.nsIn K mainGlobals "are_within" = some (some (.ref f0))) (l0 : K.lookup f0 = some ⟨oc0, od0, .func (PySem.W.fnOf "are_within" "are_within" (defArgs st_are_within) (defBody st_are_within) (defScope st_are_within) .none kV0 dc0 pm0 an0 cd0 ct0), sl0⟩) (c0 : PySem.W.codeIn K cd0 "are_within" = true) (k0 : PySem.W.keepIn K (.ref f0) = true)
    (a1 : PySem.W.nsIn K mainGlobals "rounded_up" = some (some (.ref f1))) (l1 : K.lookup f1 = some ⟨oc1, od1, .func (PySem.W.fnOf "rounded_up" "rounded_up" (defArgs st_rounded_up) (defBody st_rounded_up) (defScope st_rounded_up) .none kV1 dc1 pm1 an1 cd1 ct1), sl1⟩) (c1 : PySem.W.codeIn K cd1 "rounded_up" = true) (k1 : PySem.W.keepIn K (.ref f1) = true)
    (a2 : PySem.W.nsIn K mainGlobals "parts_of" = some (some (.ref f2))) (l2 : K.lookup f2 = some ⟨oc2, od2, .func (PySem.W.fnOf "parts_of" "parts_of" (defArgs st_parts_of) (defBody st_parts_of) (defScope st_parts_of) .none kV2 dc2 pm2 an2 cd2 ct2), sl2⟩) (c2 : PySem.W.codeIn K cd2 "parts_of" = true) (k2 : PySem.W.keepIn K (.ref f2) = true)
    (a3 : PySem.W.nsIn K mainGlobals "is_stock" = some (some (.ref f3))) (l3 : K.lookup f3 = some ⟨oc3, od3, .func (PySem.W.fnOf "is_stock" "is_stock" (defArgs st_is_stock) (defBody st_is_stock) (defScope st_is_stock) .none kV3 dc3 pm3 an3 cd3 ct3), sl3⟩) (c3 : PySem.W.codeIn K cd3 "is_stock" = true) (k3 : PySem.W.keepIn K (.ref f3) = true)
    (a4 : PySem.W.nsIn K mainGlobals "is_recipe" = some (some (.ref f4))) (l4 : K.lookup f4 = some ⟨oc4, od4, .func (PySem.W.fnOf "is_recipe" "is_recipe" (defArgs st_is_recipe) (defBody st_is_recipe) (defScope st_is_recipe) .none kV4 dc4 pm4 an4 cd4 ct4), sl4⟩) (c4 : PySem.W.codeIn K cd4 "is_recipe" = true) (k4 : PySem.W.keepIn K (.ref f4) = true)
    (a5 : PySem.W.nsIn K mainGlobals "needed" = some (some (.ref f5))) (l5 : K.lookup f5 = some ⟨oc5, od5, .func (PySem.W.fnOf "needed" "needed" (defArgs st_needed) (defBody st_needed) (defScope st_needed) .none kV5 dc5 pm5 an5 cd5 ct5), sl5⟩) (c5 : PySem.W.codeIn K cd5 "needed" = true) (k5 : PySem.W.keepIn K (.ref f5) = true)
    (a6 : PySem.W.nsIn K mainGlobals "most_by" = some (some (.ref f6))) (l6 : K.lookup f6 = some ⟨oc6, od6, .func (PySem.W.fnOf "most_by" "most_by" (defArgs st_most_by) (defBody st_most_by) (defScope st_most_by) .none kV6 dc6 pm6 an6 cd6 ct6), sl6⟩) (c6 : PySem.W.codeIn K cd6 "most_by" = true) (k6 : PySem.W.keepIn K (.ref f6) = true)
    (a7 : PySem.W.nsIn K mainGlobals "most" = some (some (.ref f7))) (l7 : K.lookup f7 = some ⟨oc7, od7, .func (PySem.W.fnOf "most" "most" (defArgs st_most) (defBody st_most) (defScope st_most) .none kV7 dc7 pm7 an7 cd7 ct7), sl7⟩) (c7 : PySem.W.codeIn K cd7 "most" = true) (k7 : PySem.W.keepIn K (.ref f7) = true)
    (z_len : PySem.W.nsIn K mainGlobals "len" = some none)
    (z_all : PySem.W.nsIn K mainGlobals "all" = some none)
    (z_sum : PySem.W.nsIn K mainGlobals "sum" = some none)
    (z_min : PySem.W.nsIn K mainGlobals "min" = some none)
    (z_zip : PySem.W.nsIn K mainGlobals "zip" = some none)
    (y_KINDS : PySem.W.nsIn K mainGlobals "KINDS" = some (some (.int 4 t_KINDS)))
    (y_MOST_OF_A_PART : PySem.W.nsIn K mainGlobals "MOST_OF_A_PART" = some (some (.int 100000 t_MOST_OF_A_PART)))
    (y_MOST_PARTS : PySem.W.nsIn K mainGlobals "MOST_PARTS" = some (some (.int 100 t_MOST_PARTS)))
    (y_NOT_AS_TOLD : PySem.W.nsIn K mainGlobals "NOT_AS_TOLD" = some (some (.int (-22) t_NOT_AS_TOLD)))
    : ∃ fd : FuncData, (∀ (s : Shared) (us : List Value), us.length = (["a", "p"] : List Str).length → BindsTo s fd ⟨us, []⟩ ((["a", "p"] : List Str).zip us)) ∧ ∀ base : Heap, K.In base → base.Ns mainGlobals mg → FnOk P w K mg base CX0 3 fa fd ["a", "p"] (spTop K) := by
  have e := hfa.symm.trans (PySem.W.mg_of X G a7)
  cases e
  have m_len := PySem.W.mg_none_of X G z_len
  have m_all := PySem.W.mg_none_of X G z_all
  have m_sum := PySem.W.mg_none_of X G z_sum
  have m_min := PySem.W.mg_none_of X G z_min
  have m_zip := PySem.W.mg_none_of X G z_zip
  have g_KINDS := PySem.W.mg_of X G y_KINDS
  have g_MOST_OF_A_PART := PySem.W.mg_of X G y_MOST_OF_A_PART
  have g_MOST_PARTS := PySem.W.mg_of X G y_MOST_PARTS
  have g_NOT_AS_TOLD := PySem.W.mg_of X G y_NOT_AS_TOLD
  refine ⟨PySem.W.fnOf "most" "most" (defArgs st_most) (defBody st_most) (defScope st_most) .none kV7 dc7 pm7 an7 cd7 ct7, fun s us hu => match us, hu with | [_, _], _ => .of_eq rfl, fun base _ _ => ?_⟩
  have C_are_within : Cal P w K mg base "are_within" 1 ["numbers", "many", "most"] (spWithin K) := cal_of (st := st_are_within) X G a0 l0 c0 k0 (fun _ _ _ _ _ _ us hl => match us, hl with | [_, _, _], _ => rfl) fun fd F => ok_are_within F m_len m_all
  have C_rounded_up : Cal P w K mg base "rounded_up" 1 ["number", "by"] (spUp) := cal_of (st := st_rounded_up) X G a1 l1 c1 k1 (fun _ _ _ _ _ _ us hl => match us, hl with | [_, _], _ => rfl) fun fd F => ok_rounded_up F
  have C_parts_of : Cal P w K mg base "parts_of" 1 ["recipe"] (spNum K Kza1.sum) := cal_of (st := st_parts_of) X G a2 l2 c2 k2 (fun _ _ _ _ _ _ us hl => match us, hl with | [_], _ => rfl) fun fd F => ok_parts_of F m_sum
  have C_is_stock : Cal P w K mg base "is_stock" 2 ["numbers"] (spTell K fun ms => within ms 4 100000) := cal_of (st := st_is_stock) X G a3 l3 c3 k3 (fun _ _ _ _ _ _ us hl => match us, hl with | [_], _ => rfl) fun fd F => ok_is_stock F g_KINDS g_MOST_OF_A_PART C_are_within
  have C_is_recipe : Cal P w K mg base "is_recipe" 2 ["numbers"] (spTell K Kza1.okParts) := cal_of (st := st_is_recipe) X G a4 l4 c4 k4 (fun _ _ _ _ _ _ us hl => match us, hl with | [_], _ => rfl) fun fd F => ok_is_recipe F m_sum g_KINDS g_MOST_PARTS C_are_within
  have C_needed : Cal P w K mg base "needed" 2 ["recipe", "n"] (spNeeded K) := cal_of (st := st_needed) X G a5 l5 c5 k5 (fun _ _ _ _ _ _ us hl => match us, hl with | [_, _], _ => rfl) fun fd F => ok_needed F C_rounded_up C_parts_of
  have C_most_by : Cal P w K mg base "most_by" 2 ["stock", "recipe"] (spMostBy K) := cal_of (st := st_most_by) X G a6 l6 c6 k6 (fun _ _ _ _ _ _ us hl => match us, hl with | [_, _], _ => rfl) fun fd F => ok_most_by F m_min m_zip C_parts_of
  exact ok_most (fun_mk (st := st_most) l7 c7 k7) g_NOT_AS_TOLD C_is_stock C_is_recipe C_most_by C_needed
end Sb
open PySem PySem.W PyProof.Rows
set_option maxRecDepth 100000 in
set_option maxHeartbeats 0 in
theorem PySem.Challenge.cw_stockblends_s06_most_holds : PySem.Challenge.rw_stockblends_s06_most.Holds := by
  w_on; k_headS; (case hw => exact ⟨[.list [], .list []], by decide +kernel, by decide +kernel⟩)
  k_fillS
  refine L2.walk_specK (r := PySem.Challenge.rw_stockblends_s06_most) (k := 3) (CX := L2.CX0) (ps := ["a", "p"]) (sp := Sb.spTop) (by decide +kernel) rfl rfl ⟨rfl, by decide, by decide⟩ (fun w h Y => PySem.W.kIn_of Y) ?F ?S (fun _ _ _ _ z => z)
  case F =>
    intro w mg fa h Y KX G hmg
    refine' Sb.all_mk KX G hmg ?a0 ?l0 ?c0 ?k0 ?a1 ?l1 ?c1 ?k1 ?a2 ?l2 ?c2 ?k2 ?a3 ?l3 ?c3 ?k3 ?a4 ?l4 ?c4 ?k4 ?a5 ?l5 ?c5 ?k5 ?a6 ?l6 ?c6 ?k6 ?a7 ?l7 ?c7 ?k7 ?z_len ?z_all ?z_sum ?z_min ?z_zip ?y_KINDS ?y_MOST_OF_A_PART ?y_MOST_PARTS ?y_NOT_AS_TOLD
    (case a0 => k_is)
    (case l0 => k_is)
    (case c0 => k_is)
    (case k0 => k_is)
    (case a1 => k_is)
    (case l1 => k_is)
    (case c1 => k_is)
    (case k1 => k_is)
    (case a2 => k_is)
    (case l2 => k_is)
    (case c2 => k_is)
    (case k2 => k_is)
    (case a3 => k_is)
    (case l3 => k_is)
    (case c3 => k_is)
    (case k3 => k_is)
    (case a4 => k_is)
    (case l4 => k_is)
    (case c4 => k_is)
    (case k4 => k_is)
    (case a5 => k_is)
    (case l5 => k_is)
    (case c5 => k_is)
    (case k5 => k_is)
    (case a6 => k_is)
    (case l6 => k_is)
    (case c6 => k_is)
    (case k6 => k_is)
    (case a7 => k_is)
    (case l7 => k_is)
    (case c7 => k_is)
    (case k7 => k_is)
    (case z_len => k_is)
    (case z_all => k_is)
    (case z_sum => k_is)
    (case z_min => k_is)
    (case z_zip => k_is)
    (case y_KINDS => k_is)
    (case y_MOST_OF_A_PART => k_is)
    (case y_MOST_PARTS => k_is)
    (case y_NOT_AS_TOLD => k_is)
  case S =>
    intro K H xs a hO hwi hask hx
    cases hx with
    | cons h1 h2 =>
      cases h2 with
      | cons h2 h3 =>
        cases h3
        cases h1 with
        | lst hs ha =>
          cases h2 with
          | lst hs2 ha2 =>
            have e := L2.ints_dw a.1 _ ha
            have e2 := L2.ints_dw a.2.1 _ ha2
            subst e e2
            have q : ((Codec.inLen 0 8 a.1 && a.1.all (Codec.inInt 0 4294967295)) && ((Codec.inLen 0 8 a.2.1 && a.2.1.all (Codec.inInt 0 4294967295)) && true)) = true := hwi
            rw [Bool.and_eq_true] at q
            have q2 := Bool.and_eq_true_iff.mp q.2
            exact ⟨_, _, Kza1Neutral.natsOf a.1, Kza1Neutral.natsOf a.2.1, rfl, Sb.ln_of (Sb.list_in q.1) hs, Sb.ln_of (Sb.list_in q2.1) hs2, fun H' p hp => .lst (L2.SqL.of hp) (L2.dw_ints _)⟩
#print axioms PySem.Challenge.cw_stockblends_s06_most_holds
