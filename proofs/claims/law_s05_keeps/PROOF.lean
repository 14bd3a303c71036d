import PyProof.Rows.All
import Wide.All
import OpenK.AllK
import Wide.FinOn
import Open.SpecLaws
import KE.OsHead
import KE.OsGo
import HandS.ForSpec
import HandS.ForMost
import HandS.Walk
import PySem.Challenge.RW_stockblends_s05_keeps
set_option Elab.async false
/-! The plain law: lists and numbers alone, no program in sight. -/
namespace Sb
open Kza1Neutral (natsOf)
/-- the specification's own: numbers from 0 on as whole numbers -/
abbrev zs (l : List Nat) : List Int := Kza1Neutral.ints l

theorem foldl_add : ∀ (l : List Nat) (a : Nat), l.foldl (· + ·) a = a + Kza1.sum l
  | [], _ => rfl
  | x :: l, a => by
    have e : Kza1.sum (x :: l) = l.foldl (· + ·) (0 + x) := rfl
    rw [e, foldl_add l (0 + x), List.foldl_cons, foldl_add l (a + x)]
    omega
theorem sum_cons (x : Nat) (l : List Nat) : Kza1.sum (x :: l) = x + Kza1.sum l := by
  have e : Kza1.sum (x :: l) = l.foldl (· + ·) (0 + x) := rfl
  rw [e, foldl_add]
  omega
theorem ints_cons (x : Nat) (l : List Nat) : zs (x :: l) = (x : Int) :: zs l := rfl
theorem ints_sum : ∀ ms : List Nat, (zs ms).sum = (Kza1.sum ms : Int)
  | [] => rfl
  | x :: l => by
    rw [ints_cons, List.sum_cons, ints_sum l, sum_cons]
    omega
theorem ints_length (ms : List Nat) : (zs ms).length = ms.length := List.length_map _
theorem ints_get (ms : List Nat) (i : Nat) : (zs ms)[i]? = ms[i]?.map fun (x : Nat) => (x : Int) := List.getElem?_map
theorem natsOf_ints : ∀ ms : List Nat, natsOf (zs ms) = ms
  | [] => rfl
  | x :: l => by
    have h := natsOf_ints l
    show Int.toNat (x : Int) :: natsOf (zs l) = x :: l
    rw [h, Int.toNat_natCast]
theorem ints_natsOf : ∀ ns : List Int, (∀ x ∈ ns, 0 ≤ x) → zs (natsOf ns) = ns
  | [], _ => rfl
  | x :: l, h => by
    have h1 := ints_natsOf l fun y hy => h y (List.mem_cons_of_mem _ hy)
    have h2 : ((Int.toNat x : Nat) : Int) = x := Int.toNat_of_nonneg (h x List.mem_cons_self)
    show ((Int.toNat x : Nat) : Int) :: zs (natsOf l) = x :: l
    rw [h1, h2]
theorem natsOf_length (ns : List Int) : (natsOf ns).length = ns.length := List.length_map _
theorem take_snoc {α : Type} : ∀ {l : List α} {i : Nat} {x : α}, l[i]? = some x → l.take (i + 1) = l.take i ++ [x]
  | [], i, x, h => by simp at h
  | a :: l, 0, x, h => by
    have e : a = x := Option.some.inj h
    subst e
    rfl
  | a :: l, i + 1, x, h => by
    have ih := take_snoc (l := l) (i := i) (x := x) h
    show a :: l.take (i + 1) = a :: l.take i ++ [x]
    rw [ih]
    rfl
theorem sum_take_snoc {l : List Nat} {i x : Nat} (h : l[i]? = some x) : Kza1.sum (l.take (i + 1)) = Kza1.sum (l.take i) + x := by
  rw [take_snoc h]
  show (l.take i ++ [x]).foldl (· + ·) 0 = _
  rw [List.foldl_append]
  rfl
theorem fdiv_nat (a b : Nat) : Int.fdiv (a : Int) (b : Int) = ((a / b : Nat) : Int) := by
  rw [Int.fdiv_eq_ediv_of_nonneg _ (by omega)]
  exact (Int.natCast_ediv a b).symm

/-! ### what is looked at -/
/-- just so many, none above a number -/
def within (ms : List Nat) (many most : Nat) : Bool := ms.length == many && ms.all fun x => decide (x ≤ most)
theorem okChest_is (ms : List Nat) : Kza1.okChest ms = within ms 5 100000 := rfl
theorem okParts_is (ms : List Nat) : Kza1.okParts ms = (within ms 4 100 && decide (0 < Kza1.sum ms)) := rfl
theorem within_len {ms : List Nat} {many most : Nat} (h : within ms many most = true) : ms.length = many := by
  unfold within at h
  rw [Bool.and_eq_true] at h
  exact eq_of_beq h.1
theorem within_le {ms : List Nat} {many most : Nat} (h : within ms many most = true) : ∀ x ∈ ms, x ≤ most := by
  unfold within at h
  rw [Bool.and_eq_true, List.all_eq_true] at h
  exact fun x hx => of_decide_eq_true (h.2 x hx)
theorem sum_le {b : Nat} : ∀ {l : List Nat}, (∀ x ∈ l, x ≤ b) → Kza1.sum l ≤ l.length * b
  | [], _ => Nat.zero_le _
  | x :: l, h => by
    have h1 := sum_le fun y hy => h y (List.mem_cons_of_mem x hy)
    have h2 := h x List.mem_cons_self
    rw [sum_cons, List.length_cons, Nat.add_mul]
    omega
theorem within_sum {ms : List Nat} {many most : Nat} (h : within ms many most = true) : Kza1.sum ms ≤ many * most := by
  have h1 := sum_le (within_le h)
  rwa [within_len h] at h1
theorem fibre_le : ∀ ms : List Nat, Kza1.fibre ms ≤ Kza1.sum ms
  | [] => Nat.le_refl _
  | x :: l => by
    rw [sum_cons]
    show Kza1.sum l ≤ _
    omega
theorem all_take (ms : List Nat) (p : Nat → Bool) : (ms.map p).all id = ms.all p := by
  rw [List.all_map]
  rfl

/-! ### how thick -/
theorem thick_zero {ms : List Nat} (h : Kza1.sum ms = 0) : Kza1.thick ms = 0 := if_pos h
theorem thick_pos {ms : List Nat} (h : ¬ Kza1.sum ms = 0) : Int.fdiv ((Kza1.fibre ms : Int) * 100000) (Kza1.sum ms : Int) = ((Kza1.thick ms : Nat) : Int) := by
  have e : Kza1.thick ms = Kza1.fibre ms * 100000 / Kza1.sum ms := if_neg h
  rw [e, ← fdiv_nat]
  congr 1

/-! ### drawn -/
theorem zip_get (f : Nat → Nat → Nat) : ∀ {c d : List Nat} {i x y : Nat}, c[i]? = some x → d[i]? = some y → (List.zipWith f c d)[i]? = some (f x y)
  | c, d, i, x, y, h1, h2 => by
    rw [List.getElem?_zipWith, h1, h2]
theorem zero_of_sum : ∀ {l : List Nat}, Kza1.sum l = 0 → ∀ x ∈ l, x = 0
  | [], _, x, h => by cases h
  | y :: l, h, x, hx => by
    rw [sum_cons] at h
    rcases List.mem_cons.mp hx with e | hx
    · omega
    · exact zero_of_sum (by omega) x hx
theorem drawOn_length (n all : Nat) : ∀ (l : List Nat) (s : Nat), (Kza1.drawOn n all s l).length = l.length
  | [], _ => rfl
  | x :: l, s => by
    show (Kza1.drawOn n all (s + x) l).length + 1 = l.length + 1
    rw [drawOn_length n all l]
theorem drawOn_get (n all : Nat) : ∀ {l : List Nat} {s i x : Nat}, l[i]? = some x →
    (Kza1.drawOn n all s l)[i]? = some ((s + Kza1.sum (l.take i) + x) * n / all - (s + Kza1.sum (l.take i)) * n / all)
  | [], _, i, x, h => by simp at h
  | y :: l, s, 0, x, h => by
    have e : y = x := Option.some.inj h
    subst e
    rfl
  | y :: l, s, i + 1, x, h => by
    have ih := drawOn_get n all (l := l) (s := s + y) (i := i) (x := x) h
    show (Kza1.drawOn n all (s + y) l)[i]? = some ((s + Kza1.sum (y :: l.take i) + x) * n / all - (s + Kza1.sum (y :: l.take i)) * n / all)
    rw [ih, sum_cons, ← Nat.add_assoc s y]
theorem part_le {n all s x : Nat} (h : n ≤ all) : (s + x) * n / all - s * n / all ≤ x := by
  by_cases h0 : all = 0
  · subst h0
    rw [Nat.div_zero]
    omega
  · have h1 : (s + x) * n ≤ s * n + x * all := by
      rw [Nat.add_mul]
      exact Nat.add_le_add_left (Nat.mul_le_mul_left x h) _
    have h2 : (s + x) * n / all ≤ (s * n + x * all) / all := Nat.div_le_div_right h1
    rw [Nat.add_mul_div_right _ _ (Nat.pos_of_ne_zero h0)] at h2
    omega
theorem drawOn_zero : ∀ (l : List Nat) (n s : Nat), (∀ x ∈ l, x = 0) → Kza1.drawOn n 0 s l = l
  | [], _, _, _ => rfl
  | x :: l, n, s, h => by
    have ih := drawOn_zero l n (s + x) fun y hy => h y (List.mem_cons_of_mem _ hy)
    show ((s + x) * n / 0 - s * n / 0) :: Kza1.drawOn n 0 (s + x) l = x :: l
    rw [ih, Nat.div_zero, Nat.div_zero, h x List.mem_cons_self]
theorem draw_is (c : List Nat) (n : Nat) : Kza1.draw c n = Kza1.drawOn n (Kza1.sum c) 0 c := by
  unfold Kza1.draw
  by_cases h : Kza1.sum c = 0
  · rw [if_pos h, h, drawOn_zero c n 0 (zero_of_sum h)]
  · rw [if_neg h]
theorem drawOn_sum {n all : Nat} (h : n ≤ all) : ∀ (l : List Nat) (s : Nat), Kza1.sum (Kza1.drawOn n all s l) ≤ Kza1.sum l
  | [], _ => Nat.le_refl _
  | x :: l, s => by
    have ih := drawOn_sum h l (s + x)
    show Kza1.sum (((s + x) * n / all - s * n / all) :: Kza1.drawOn n all (s + x) l) ≤ _
    rw [sum_cons, sum_cons]
    have := part_le (s := s) (x := x) h
    omega
theorem drawOn_le {n all : Nat} (h : n ≤ all) {l : List Nat} {s i x y : Nat} (hx : l[i]? = some x) (hy : (Kza1.drawOn n all s l)[i]? = some y) : y ≤ x := by
  rw [drawOn_get n all hx] at hy
  have e := Option.some.inj hy
  rw [← e]
  exact part_le h
/-- a share's part, whole numbers as Python has them -/
theorem part_int (n s x all : Nat) : (((n * (s + x) / all : Nat) : Int) - ((n * s / all : Nat) : Int)) = (((s + x) * n / all - s * n / all : Nat) : Int) := by
  rw [Nat.mul_comm n, Nat.mul_comm n]
  have h : s * n / all ≤ (s + x) * n / all := Nat.div_le_div_right (Nat.mul_le_mul_right n (by omega))
  omega

/-! ### thinned -/
theorem up_int {a b : Nat} (h : 0 < b) : Int.fdiv ((a : Int) + (b : Int) - 1) (b : Int) = (((a + b - 1) / b : Nat) : Int) := by
  rw [← fdiv_nat]
  congr 1
  omega
theorem max_int (u s : Nat) : (if ((u : Int) - (s : Int)) > 0 then ((u : Int) - (s : Int)) else 0) = ((u - s : Nat) : Int) := by
  split <;> omega

/-! ### recipes -/
theorem gap_int (a b : Nat) : (if (a : Int) - (b : Int) < 0 then -((a : Int) - (b : Int)) else (a : Int) - (b : Int)) = ((Kza1.gap a b : Nat) : Int) := by
  unfold Kza1.gap
  split <;> omega
/-- of one kind, as the specification says it -/
def kindKeeps (c p : List Nat) (tol i : Nat) : Bool := decide (Kza1.gap ((c.drop 1).getD i 0 * Kza1.sum p) (p.getD i 0 * Kza1.fibre c) * 1000 ≤ tol * Kza1.fibre c * Kza1.sum p)
theorem keeps_is (c p : List Nat) (tol : Nat) : Kza1.keeps c p tol = (List.range 4).all (kindKeeps c p tol) := rfl
theorem getD_get {l : List Nat} {i x : Nat} (h : l[i]? = some x) : l.getD i 0 = x := by
  rw [List.getD_eq_getElem?_getD, h]
  rfl
theorem kind_int {c p : List Nat} {tol i x y : Nat} (hx : c[1 + i]? = some x) (hy : p[i]? = some y) :
    decide ((if (x : Int) * (Kza1.sum p : Int) - (Kza1.fibre c : Int) * (y : Int) < 0 then -((x : Int) * (Kza1.sum p : Int) - (Kza1.fibre c : Int) * (y : Int)) else (x : Int) * (Kza1.sum p : Int) - (Kza1.fibre c : Int) * (y : Int)) * 1000 ≤ (tol : Int) * ((Kza1.fibre c : Int) * (Kza1.sum p : Int)))
      = kindKeeps c p tol i := by
  have h1 : (c.drop 1).getD i 0 = x := getD_get (by rw [List.getElem?_drop]; exact hx)
  have h2 : p.getD i 0 = y := getD_get hy
  have e1 : (x : Int) * (Kza1.sum p : Int) = ((x * Kza1.sum p : Nat) : Int) := (Int.natCast_mul _ _).symm
  have e2 : (Kza1.fibre c : Int) * (y : Int) = ((y * Kza1.fibre c : Nat) : Int) := by rw [← Int.natCast_mul, Nat.mul_comm]
  have e3 : (tol : Int) * ((Kza1.fibre c : Int) * (Kza1.sum p : Int)) = ((tol * Kza1.fibre c * Kza1.sum p : Nat) : Int) := by rw [← Int.natCast_mul, ← Int.natCast_mul, Nat.mul_assoc]
  unfold kindKeeps
  rw [e1, e2, e3, gap_int, h1, h2]
  exact decide_eq_decide.mpr (by omega)
theorem needs_get {p : List Nat} {n i x : Nat} (h : p[i]? = some x) : (Kza1.needs p n)[i]? = some ((n * x + Kza1.sum p - 1) / Kza1.sum p) := by
  unfold Kza1.needs
  rw [List.getElem?_map, h]
  rfl
/-- what the first i kinds let -/
def lets (a p : List Nat) (i : Nat) : List Nat := ((List.range i).filter fun j => decide (0 < p.getD j 0)).map fun j => a.getD j 0 * Kza1.sum p / p.getD j 0
theorem mostBy_is (a p : List Nat) : Kza1.mostBy a p = (lets a p 4).foldl min (100000 * 400) := rfl
theorem lets_more {a p : List Nat} {i x y : Nat} (hx : a[i]? = some x) (hy : p[i]? = some y) (h : 0 < y) : lets a p (i + 1) = lets a p i ++ [x * Kza1.sum p / y] := by
  have h1 := getD_get hx
  have h2 := getD_get hy
  unfold lets
  rw [List.range_succ, List.filter_append, List.map_append, List.filter_cons, if_pos (by rw [h2]; exact decide_eq_true h), List.filter_nil, List.map_cons, List.map_nil, h1, h2]
theorem lets_same {a p : List Nat} {i y : Nat} (hy : p[i]? = some y) (h : ¬ 0 < y) : lets a p (i + 1) = lets a p i := by
  have h2 := getD_get hy
  unfold lets
  rw [List.range_succ, List.filter_append, List.map_append, List.filter_cons, if_neg (by rw [h2]; simpa using h), List.filter_nil, List.map_nil, List.append_nil]
theorem lets_length (a p : List Nat) (i : Nat) : (lets a p i).length ≤ i := by
  unfold lets
  rw [List.length_map]
  have h := List.length_filter_le (fun j => decide (0 < p.getD j 0)) (List.range i)
  rwa [List.length_range] at h
theorem foldl_min {m : Nat} : ∀ {l : List Nat} {a : Nat}, (∀ y ∈ l, m ≤ y) → m ≤ a → (a = m ∨ m ∈ l) → l.foldl min a = m
  | [], a, _, _, h3 => by
    rcases h3 with e | h
    · exact e
    · cases h
  | x :: l, a, h1, h2, h3 => by
    rw [List.foldl_cons]
    have hx := h1 x List.mem_cons_self
    refine foldl_min (fun y hy => h1 y (List.mem_cons_of_mem _ hy)) (by omega) ?_
    rcases h3 with e | h
    · left; omega
    · rcases List.mem_cons.mp h with e | h
      · left; omega
      · right; exact h
theorem lets_le {a p : List Nat} (ha : ∀ x ∈ a, x ≤ 100000) (hp : Kza1.sum p ≤ 400) {i z : Nat} (h : z ∈ lets a p i) : z ≤ 100000 * 400 := by
  unfold lets at h
  obtain ⟨j, _, rfl⟩ := List.mem_map.mp h
  have h1 : a.getD j 0 ≤ 100000 := by
    rw [List.getD_eq_getElem?_getD]
    cases e : a[j]? with
    | none => exact Nat.zero_le _
    | some x => exact ha x (List.mem_of_getElem? e)
  exact Nat.le_trans (Nat.div_le_self _ _) (Nat.mul_le_mul h1 hp)
theorem mostBy_min {a p : List Nat} (ha : ∀ x ∈ a, x ≤ 100000) (hp : Kza1.sum p ≤ 400) {m : Int} (h1 : m ∈ zs (lets a p 4)) (h2 : ∀ y ∈ zs (lets a p 4), m ≤ y) : m = (Kza1.mostBy a p : Int) := by
  obtain ⟨k, hk, rfl⟩ := List.mem_map.mp h1
  rw [mostBy_is, foldl_min (m := k) (fun y hy => ?_) (lets_le ha hp hk) (.inr hk)]
  have := h2 (y : Int) (List.mem_map.mpr ⟨y, hy, rfl⟩)
  omega
theorem sum_pos : ∀ {l : List Nat}, 0 < Kza1.sum l → ∃ (i y : Nat), l[i]? = some y ∧ 0 < y
  | [], h => absurd h (by decide)
  | x :: l, h => by
    by_cases hx : 0 < x
    · exact ⟨0, x, rfl, hx⟩
    · rw [sum_cons] at h
      obtain ⟨i, y, h1, h2⟩ := sum_pos (l := l) (by omega)
      exact ⟨i + 1, y, h1, h2⟩
theorem lets_some {a p : List Nat} (hl : p.length = 4) (hp : 0 < Kza1.sum p) : 0 < (lets a p 4).length := by
  obtain ⟨i, y, h1, h2⟩ := sum_pos hp
  have hi : i < 4 := by rw [← hl]; exact (List.getElem?_eq_some_iff.mp h1).1
  refine List.length_pos_of_mem (a := a.getD i 0 * Kza1.sum p / p.getD i 0) ?_
  unfold lets
  refine List.mem_map.mpr ⟨i, List.mem_filter.mpr ⟨List.mem_range.mpr hi, ?_⟩, rfl⟩
  rw [getD_get h1]
  exact decide_eq_true h2
theorem mostBy_le {a p : List Nat} : Kza1.mostBy a p ≤ 100000 * 400 := by
  rw [mostBy_is]
  have : ∀ (l : List Nat) (b : Nat), l.foldl min b ≤ b := fun l => by
    induction l with
    | nil => exact fun b => Nat.le_refl _
    | cons x l ih =>
      intro b
      rw [List.foldl_cons]
      exact Nat.le_trans (ih _) (Nat.min_le_left _ _)
  exact this _ _
end Sb
set_option maxRecDepth 100000
set_option maxHeartbeats 2000000
/-! The walk: each def once, by its promise. -/
namespace Sb
open PySem PySem.Spec PyProof.Rows L2
open PySem.W (Codec)
open Kza1Neutral (natsOf)
/-- whole numbers from 0 on as values -/
def iv (ms : List Nat) : List V := (zs ms).map V.int
theorem iv_len (ms : List Nat) : (iv ms).length = ms.length := by
  unfold iv
  rw [List.length_map, ints_length]
theorem iv_get (ms : List Nat) (i : Nat) : (iv ms)[i]? = ms[i]?.map fun (x : Nat) => V.int (x : Int) := by
  unfold iv
  rw [List.getElem?_map, ints_get, Option.map_map]
  rfl
theorem iv_at {ms : List Nat} {i x : Nat} (h : ms[i]? = some x) : (iv ms)[i]? = some (V.int (x : Int)) := by
  rw [iv_get, h]
  rfl
theorem iv_item {ms : List Nat} {i : Nat} {v : V} (h : (iv ms)[i]? = some v) : ∃ x : Nat, ms[i]? = some x ∧ v = V.int (x : Int) := by
  rw [iv_get] at h
  cases e : ms[i]? with
  | none =>
    rw [e] at h
    cases h
  | some x =>
    rw [e] at h
    exact ⟨x, rfl, (Option.some.inj h).symm⟩
theorem iv_append (a b : List Nat) : iv (a ++ b) = iv a ++ iv b := by
  unfold iv zs Kza1Neutral.ints
  rw [List.map_append, List.map_append]
theorem iv_more {l : List Nat} {i x : Nat} (h : l[i]? = some x) : iv (l.take i) ++ [V.int (x : Int)] = iv (l.take (i + 1)) := by
  rw [take_snoc h, iv_append]
  rfl
theorem iv_cut (ms : List Nat) : cutV (iv ms) (some 1) none = iv (ms.drop 1) := by
  have e1 : HT.sIx (iv ms).length 0 (some 1) = min 1 (iv ms).length := HT.sIx_nat _ _ 1
  have e2 : HT.sIx (iv ms).length (iv ms).length none = (iv ms).length := rfl
  unfold cutV
  rw [e1, e2]
  cases ms with
  | nil => rfl
  | cons x l =>
    have e3 : min 1 (iv (x :: l)).length = 1 := by rw [iv_len, List.length_cons]; omega
    rw [e3]
    show ((iv l).take ((iv (x :: l)).length - 1)) = iv l
    exact List.take_of_length_le (by rw [iv_len, iv_len, List.length_cons]; omega)
theorem same_new {H : Hp} {p : Addr} {o : HO} (h : H p = none) : Same H (upd H p o) := fun b u e => by
  rw [upd_ne (ne_of_none e h)]
  exact e
theorem same_upd {H H' : Hp} {p : Addr} {o : HO} (s : Same H H') (h : H p = none) : Same H (upd H' p o) := fun b u e => by
  rw [upd_ne (ne_of_none e h)]
  exact s b u e
theorem ifB {b : Bool} {A B : Prop} (h1 : b = true → A) (h2 : b = false → B) : if b = true then A else B := by
  cases b with
  | true => exact iteT (h1 rfl)
  | false => exact iteF (h2 rfl)
theorem cast_bl {Q : VK} {H : Hp} {b c : Bool} (e : b = c) (h : Q (.bl c) H) : Q (.bl b) H := e ▸ h
theorem cast_int {Q : VK} {H : Hp} {b c : Int} (e : b = c) (h : Q (.int c) H) : Q (.int b) H := e ▸ h
theorem mul_l {a : Nat} {j : Int} (h : a ≤ 4294967295) : CMul (a : Int) j := .inl ⟨by omega, by omega⟩
theorem mul_r {i : Int} {b : Nat} (h : b ≤ 4294967295) : CMul i (b : Int) := .inr ⟨by omega, by omega⟩
theorem div_ok {i : Int} {b : Nat} (h : 0 < b) (h2 : b < 1073741824) : CDivN i (b : Int) := ⟨by omega, by omega⟩
theorem small {n : Nat} (h : n ≤ 64) : n < sizeLine := Nat.lt_of_le_of_lt h (by decide)
theorem small_le {n : Nat} (h : n ≤ 64) : n ≤ sizeLine := Nat.le_of_lt (small h)
theorem dec_nat (a b : Nat) : decide ((a : Int) ≤ (b : Int)) = decide (a ≤ b) := decide_eq_decide.mpr (by omega)
/-- a def that may be called by its name: it keeps its promise -/
structure Cal (P : Program) (w : World) (K : PySem.W.Frag) (mg : Str → Option Value) (base : Heap) (x : Str) (k : Nat) (ps : List Str) (sp : Sp) : Prop where
  ex : ∃ (f : Addr) (fd : FuncData), FnOk P w K mg base CX0 k f fd ps sp ∧ mg x = some (.ref f) ∧ PySem.W.keepIn K (.ref f) = true ∧ Binds K fd ps []
theorem pe_cal {X : Cx} {x : Str} {k : Nat} {ps : List Str} {sp : Sp} {p pos : Pos} {e : Expr} {es : List Expr} {t : TA} (C : Cal X.prog X.w X.K X.mg X.base x k ps sp) (hr : Room k X.A) (hg : Gl X x) (ha : PA X (e :: es) t)
    (hdb : (x == ("__debug__" : Str)) = false := by decide) (he : starEach (e :: es) X.env = (false, eval e X.env) :: starEach es X.env := by rfl) (hpl : (backTo pos (starEach es X.env)).any (·.1) = false := by rfl) :
    PE X (.Call (.Name x p) (e :: es) [] pos) (tCall sp [] E0 t) := by
  obtain ⟨f, fd, F, m, kp, b⟩ := C.ex
  exact pe_call F hr hg m kp b .nil pass0 ha hdb he hpl
theorem cal_of {P : Program} {w : World} {K : PySem.W.Frag} {mg : Str → Option Value} {base h : Heap} {x : Str} {st : Stmt} {f : Addr} {oc : Value} {od an : Option Addr} {osl : Array (Option Value)} {kV doc pm cdv ct : Value} {ps : List Str} {k : Nat} {sp : Sp}
    (X : K.In h) (G : h.Ns mainGlobals mg) (a : PySem.W.nsIn K mainGlobals x = some (some (.ref f))) (l : K.lookup f = some ⟨oc, od, .func (PySem.W.fnOf x x (defArgs st) (defBody st) (defScope st) .none kV doc pm an cdv ct), osl⟩)
    (c : PySem.W.codeIn K cdv x = true) (kp : PySem.W.keepIn K (.ref f) = true)
    (bn : ∀ (kV doc pm : Value) (an : Option Addr) (cdv ct : Value) (us : List Value), us.length = ps.length → bindArgs (PySem.W.fnOf x x (defArgs st) (defBody st) (defScope st) .none kV doc pm an cdv ct) ⟨us, []⟩ = pure (ps.zip us))
    (ok : ∀ fd : FuncData, Fun K x x st f fd → FnOk P w K mg base CX0 k f fd ps sp) : Cal P w K mg base x k ps sp := by
  have F := fun_mk (st := st) l c kp
  exact ⟨f, _, ok _ F, PySem.W.mg_of X G a, kp, F.binds bn⟩
/-- a list of whole numbers from 0 on, at most 8, stands at a -/
def LN (K : PySem.W.Frag) (H : Hp) (a : Addr) (ms : List Nat) : Prop := SqL K H a (iv ms) ∧ ms.length ≤ 8
theorem LN.same {K : PySem.W.Frag} {H H' : Hp} {a : Addr} {ms : List Nat} (h : LN K H a ms) (s : Same H H') : LN K H' a ms := ⟨s.seq h.1, h.2⟩
/-- what is due, as one list -/
def due (x : Kza1.Ans) : List Int := x.value :: zs x.nums
theorem due_nats (v : Nat) (l : List Nat) : (due ⟨(v : Int), l⟩).map V.int = V.int (v : Int) :: iv l := rfl
theorem due_say (v : Int) : (due (Kza1.say v)).map V.int = [V.int v] := rfl
/-! ### the promises -/
def spWithin (K : PySem.W.Frag) : Sp := fun vs H Q _ => ∃ (a : Addr) (ms : List Nat) (many most : Nat), vs = [.ref a, .int (many : Int), .int (most : Int)] ∧ LN K H a ms ∧ ∀ H', Same H H' → Q (.bl (within ms many most)) H'
/-- one list in, a truth value out -/
def spTell (K : PySem.W.Frag) (f : List Nat → Bool) : Sp := fun vs H Q _ => ∃ (a : Addr) (ms : List Nat), vs = [.ref a] ∧ LN K H a ms ∧ ∀ H', Same H H' → Q (.bl (f ms)) H'
/-- one list in, a number out -/
def spNum (K : PySem.W.Frag) (f : List Nat → Nat) : Sp := fun vs H Q _ => ∃ (a : Addr) (ms : List Nat), vs = [.ref a] ∧ LN K H a ms ∧ ∀ H', Same H H' → Q (.int (f ms : Nat)) H'
def spThick (K : PySem.W.Frag) : Sp := fun vs H Q _ => ∃ (a : Addr) (ms : List Nat), vs = [.ref a] ∧ LN K H a ms ∧ Kza1.sum ms < 1073741824 ∧ ∀ H', Same H H' → Q (.int (Kza1.thick ms : Nat)) H'
/-- two lists in, a new one out, part by part -/
def spZip (K : PySem.W.Frag) (f : Nat → Nat → Nat) (ok : List Nat → List Nat → Prop) : Sp := fun vs H Q _ => ∃ (a b : Addr) (cs ds : List Nat), vs = [.ref a, .ref b] ∧ LN K H a cs ∧ LN K H b ds ∧ ok cs ds ∧
  ∀ (H' : Hp) (p : Addr), Same H H' → H' p = some (.lst (iv (List.zipWith f cs ds))) → Q (.ref p) H'
def spShare : Sp := fun vs H Q _ => ∃ (n part whole : Nat), vs = [.int (n : Int), .int (part : Int), .int (whole : Int)] ∧ n ≤ 4294967295 ∧ whole < 1073741824 ∧ ∀ H', Same H H' → Q (.int ((n * part / whole : Nat) : Int)) H'
def spDrawn (K : PySem.W.Frag) : Sp := fun vs H Q _ => ∃ (a : Addr) (cs : List Nat) (n : Nat), vs = [.ref a, .int (n : Int)] ∧ LN K H a cs ∧ n ≤ 4294967295 ∧ Kza1.sum cs < 1073741824 ∧
  ∀ (H' : Hp) (p : Addr), Same H H' → H' p = some (.lst (iv (Kza1.draw cs n))) → Q (.ref p) H'
def spUp : Sp := fun vs H Q _ => ∃ (x b : Nat), vs = [.int (x : Int), .int (b : Int)] ∧ 0 < b ∧ b < 1073741824 ∧ ∀ H', Same H H' → Q (.int (((x + b - 1) / b : Nat) : Int)) H'
def spWater (K : PySem.W.Frag) : Sp := fun vs H Q _ => ∃ (a : Addr) (cs : List Nat) (t : Nat), vs = [.ref a, .int (t : Int)] ∧ LN K H a cs ∧ 0 < t ∧ t < 1073741824 ∧ ∀ H', Same H H' → Q (.int (Kza1.thin cs t : Nat)) H'
def spKind (K : PySem.W.Frag) : Sp := fun vs H Q _ => ∃ (a b : Addr) (cs ps : List Nat) (kind tol : Nat), vs = [.ref a, .ref b, .int (kind : Int), .int (tol : Int)] ∧ LN K H a cs ∧ LN K H b ps ∧ within cs 5 100000 = true ∧ within ps 4 100 = true ∧ kind < 4 ∧ tol ≤ 1000 ∧
  ∀ H', Same H H' → Q (.bl (kindKeeps cs ps tol kind)) H'
def spKeeps (K : PySem.W.Frag) : Sp := fun vs H Q _ => ∃ (a b : Addr) (cs ps : List Nat) (tol : Nat), vs = [.ref a, .ref b, .int (tol : Int)] ∧ LN K H a cs ∧ LN K H b ps ∧ within cs 5 100000 = true ∧ within ps 4 100 = true ∧ tol ≤ 1000 ∧
  ∀ H', Same H H' → Q (.bl (Kza1.keeps cs ps tol)) H'
def spNeeded (K : PySem.W.Frag) : Sp := fun vs H Q _ => ∃ (b : Addr) (ps : List Nat) (n : Nat), vs = [.ref b, .int (n : Int)] ∧ LN K H b ps ∧ within ps 4 100 = true ∧ 0 < Kza1.sum ps ∧
  ∀ (H' : Hp) (p : Addr), Same H H' → H' p = some (.lst (iv (Kza1.needs ps n))) → Q (.ref p) H'
def spMostBy (K : PySem.W.Frag) : Sp := fun vs H Q _ => ∃ (a b : Addr) (xs ps : List Nat), vs = [.ref a, .ref b] ∧ LN K H a xs ∧ LN K H b ps ∧ within xs 4 100000 = true ∧ within ps 4 100 = true ∧ 0 < Kza1.sum ps ∧ ∀ H', Same H H' → Q (.int (Kza1.mostBy xs ps : Nat)) H'
def spTop (K : PySem.W.Frag) : Sp := fun vs H Q _ => ∃ (a b : Addr) (cs ps : List Nat) (tol : Nat), vs = [.int (tol : Int), .ref a, .ref b] ∧ LN K H a cs ∧ LN K H b ps ∧
  ∀ (H' : Hp) (p : Addr), H' p = some (.lst ((due (Kza1.answer (.keeps cs ps tol))).map V.int)) → Q (.ref p) H'
/-! ### the text by places -/
def top (i : Nat) : Stmt := PySem.Challenge.pw_stockblends_s05_keeps.main.body.getD i (.Pass ⟨0, 0, 0, 0⟩)
abbrev st_are_within : Stmt := top 5
abbrev st_fibre_of : Stmt := top 9
abbrev st_parts_of : Stmt := top 12
abbrev st_is_chest : Stmt := top 6
abbrev st_is_recipe : Stmt := top 7
abbrev st_is_within : Stmt := top 13
abbrev st_keeps_within : Stmt := top 14
abbrev st_keeps : Stmt := top 18
section
variable {P : Program} {w : World} {K : PySem.W.Frag} {mg : Str → Option Value} {base : Heap}
/-! ### one theorem a def -/
theorem sc_are_within : FnScope ["numbers", "many", "most", "number"] ["numbers", "many", "most"] (defScope st_are_within) := ⟨rfl, rfl, rfl, by decide +kernel, rfl, by decide +kernel, by decide +kernel⟩
theorem ok_are_within {f : Addr} {fd : FuncData} (F : Fun K "are_within" "are_within" st_are_within f fd) (m_len : mg "len" = none) (m_all : mg "all" = none) : FnOk P w K mg base CX0 1 f fd ["numbers", "many", "most"] (spWithin K) := by
  refine F.ok sc_are_within (fun vs H Q E h => ?_) (fun cdv A outer s H vs Q E hr h => ?_)
  · obtain ⟨a, ms, many, most, rfl, hS, k⟩ := h
    rfl
  · obtain ⟨a, ms, many, most, rfl, hS, k⟩ := h
    refine ⟨_, pss_one (ps_ret (pe_and (pe_cmpR op_eq (pe_callB call_len_seq (by rfl) m_len PySem.boot_len (pa_cons (pv 0) pa_nil)) (pv 1) (nomark _))
      (pe_one (pe_callB (cr_all rfl) (by rfl) m_all (by decide +kernel) (pa_cons
        (pe_lc (own := [("number", 3)]) (g := gName 3) (tt := tYes) rfl sc_are_within.nd (pi_list (pv 0)) (blkOk_by (N := ["numbers", "many", "most", "number"]) (sc := defScope st_are_within) (by decide +kernel))
          (fun _ _ _ _ _ => pg_name (i := 3) sc_are_within.nd rfl (Or.inl rfl)) (fun _ _ _ _ _ => pts_nil) (fun _ _ _ _ _ => pe_cmpR op_le (pv 3) (pv 2) (nomark _))) pa_nil))))), ?_⟩
    refine ⟨_, rfl, a, _, rfl, .inl hS.1, _, rfl, rfl, _, rfl, ifB (fun hc => ?_) (fun hc => ?_)⟩
    · have hc : ms.length = many := by
        have e := of_decide_eq_true hc
        rw [V.int.injEq, iv_len] at e
        omega
      refine ⟨_, rfl, a, rfl, ⟨_, hS.1⟩, fun D hD => lc_list (K := K) (a := a) (xs := iv ms) (fun i H' => Same H H' ∧ H' D = some (.lst (((ms.take i).map fun x => decide (x ≤ most)).map V.bl))) ⟨same_new hD, upd_same⟩ (fun i H' _ q => q.1.seq hS.1) ?_ ?_⟩
      · rintro i x H' hx ⟨s, hD'⟩
        obtain ⟨z, hz, rfl⟩ := iv_item hx
        refine ⟨rfl, _, rfl, _, rfl, _, _, rfl, rfl, _, hD', small (by rw [List.length_map, List.length_map, List.length_take]; have := hS.2; omega), same_upd s hD, ?_⟩
        rw [upd_same, take_snoc hz, List.map_append, List.map_append]
        show some (HO.lst (_ ++ [V.bl (decide ((z : Int) ≤ (most : Int)))])) = some (HO.lst (_ ++ [V.bl (decide (z ≤ most))]))
        rw [dec_nat]
      · rintro H' ⟨s, hD'⟩
        rw [iv_len, List.take_length] at hD'
        refine ⟨D, _, rfl, SqL.of hD', ?_⟩
        have e : within ms many most = (ms.map fun x => decide (x ≤ most)).all id := by
          unfold within
          rw [hc, beq_self_eq_true, Bool.true_and, all_take]
        exact cast_bl (Q := Q) e.symm (k H' s)
    · have e : within ms many most = false := by
        unfold within
        have hn : ¬ ms.length = many := fun q => of_decide_eq_false hc (by rw [iv_len, q])
        rw [beq_eq_false_iff_ne.mpr hn, Bool.false_and]
      exact cast_bl (Q := Q) e.symm (k H (Same.refl H))
theorem sc_fibre_of : FnScope ["chest"] ["chest"] (defScope st_fibre_of) := ⟨rfl, rfl, rfl, by decide +kernel, rfl, by decide +kernel, by decide +kernel⟩
theorem ok_fibre_of {f : Addr} {fd : FuncData} (F : Fun K "fibre_of" "fibre_of" st_fibre_of f fd) (m_sum : mg "sum" = none) : FnOk P w K mg base CX0 1 f fd ["chest"] (spNum K Kza1.fibre) := by
  refine F.ok sc_fibre_of (fun vs H Q E h => ?_) (fun cdv A outer s H vs Q E hr h => ?_)
  · obtain ⟨a, ms, rfl, hS, k⟩ := h
    rfl
  · obtain ⟨a, ms, rfl, hS, k⟩ := h
    refine ⟨_, pss_one (ps_ret (pe_callB (cr_sum rfl) (by rfl) m_sum (by decide +kernel) (pa_cons (pe_slice sl_list (pv 0) (po_some pe_int) po_none) pa_nil))), ?_⟩
    refine ⟨_, rfl, 1, rfl, a, iv ms, rfl, hS.1, fun p hp => ?_⟩
    refine ⟨p, zs (ms.drop 1), rfl, SqL.of (upd_same.trans (congrArg (fun q => some (HO.lst q)) (iv_cut ms))), ?_⟩
    exact cast_int (Q := Q) (ints_sum (ms.drop 1)) (k _ (same_new hp))
theorem sc_parts_of : FnScope ["recipe"] ["recipe"] (defScope st_parts_of) := ⟨rfl, rfl, rfl, by decide +kernel, rfl, by decide +kernel, by decide +kernel⟩
theorem ok_parts_of {f : Addr} {fd : FuncData} (F : Fun K "parts_of" "parts_of" st_parts_of f fd) (m_sum : mg "sum" = none) : FnOk P w K mg base CX0 1 f fd ["recipe"] (spNum K Kza1.sum) := by
  refine F.ok sc_parts_of (fun vs H Q E h => ?_) (fun cdv A outer s H vs Q E hr h => ?_)
  · obtain ⟨a, ms, rfl, hS, k⟩ := h
    rfl
  · obtain ⟨a, ms, rfl, hS, k⟩ := h
    refine ⟨_, pss_one (ps_ret (pe_callB (cr_sum rfl) (by rfl) m_sum (by decide +kernel) (pa_cons (pv 0) pa_nil))), ?_⟩
    refine ⟨_, rfl, a, zs ms, rfl, hS.1, ?_⟩
    exact cast_int (Q := Q) (ints_sum ms) (k H (Same.refl H))
theorem sc_is_chest : FnScope ["numbers"] ["numbers"] (defScope st_is_chest) := ⟨rfl, rfl, rfl, by decide +kernel, rfl, by decide +kernel, by decide +kernel⟩
theorem ok_is_chest {f : Addr} {fd : FuncData} (F : Fun K "is_chest" "is_chest" st_is_chest f fd) {t_CHEST : Tok} (g_CHEST : mg "CHEST" = some (.int 5 t_CHEST)) {t_MOST_OF_A_PART : Tok} (g_MOST_OF_A_PART : mg "MOST_OF_A_PART" = some (.int 100000 t_MOST_OF_A_PART))
    (C_are_within : Cal P w K mg base "are_within" 1 ["numbers", "many", "most"] (spWithin K)) : FnOk P w K mg base CX0 2 f fd ["numbers"] (spTell K fun ms => within ms 5 100000) := by
  refine F.ok sc_is_chest (fun vs H Q E h => ?_) (fun cdv A outer s H vs Q E hr h => ?_)
  · obtain ⟨a, ms, rfl, hS, k⟩ := h
    rfl
  · obtain ⟨a, ms, rfl, hS, k⟩ := h
    refine ⟨_, pss_one (ps_ret (pe_cal C_are_within hr (by rfl) (pa_cons (pv 0) (pa_cons (pe_glob (v := .int 5) rfl g_CHEST ⟨_, rfl⟩) (pa_cons (pe_glob (v := .int 100000) rfl g_MOST_OF_A_PART ⟨_, rfl⟩) pa_nil))))), ?_⟩
    exact ⟨_, rfl, a, ms, 5, 100000, rfl, hS, k⟩
theorem sc_is_recipe : FnScope ["numbers"] ["numbers"] (defScope st_is_recipe) := ⟨rfl, rfl, rfl, by decide +kernel, rfl, by decide +kernel, by decide +kernel⟩
theorem ok_is_recipe {f : Addr} {fd : FuncData} (F : Fun K "is_recipe" "is_recipe" st_is_recipe f fd) (m_sum : mg "sum" = none) {t_KINDS : Tok} (g_KINDS : mg "KINDS" = some (.int 4 t_KINDS)) {t_MOST_PARTS : Tok} (g_MOST_PARTS : mg "MOST_PARTS" = some (.int 100 t_MOST_PARTS))
    (C_are_within : Cal P w K mg base "are_within" 1 ["numbers", "many", "most"] (spWithin K)) : FnOk P w K mg base CX0 2 f fd ["numbers"] (spTell K Kza1.okParts) := by
  refine F.ok sc_is_recipe (fun vs H Q E h => ?_) (fun cdv A outer s H vs Q E hr h => ?_)
  · obtain ⟨a, ms, rfl, hS, k⟩ := h
    rfl
  · obtain ⟨a, ms, rfl, hS, k⟩ := h
    refine ⟨_, pss_one (ps_ret (pe_and (pe_cal C_are_within hr (by rfl) (pa_cons (pv 0) (pa_cons (pe_glob (v := .int 4) rfl g_KINDS ⟨_, rfl⟩) (pa_cons (pe_glob (v := .int 100) rfl g_MOST_PARTS ⟨_, rfl⟩) pa_nil))))
      (pe_one (pe_cmpR op_gt (pe_callB (cr_sum rfl) (by rfl) m_sum (by decide +kernel) (pa_cons (pv 0) pa_nil)) pe_int (nomark _))))), ?_⟩
    refine ⟨_, rfl, a, ms, 4, 100, rfl, hS, fun H1 s1 => ⟨_, rfl, ifB (fun hc => ?_) (fun hc => ?_)⟩⟩
    · refine ⟨_, rfl, a, zs ms, rfl, (hS.same s1).1, _, _, rfl, rfl, ?_⟩
      have e : decide ((0 : Int) < (zs ms).sum) = Kza1.okParts ms := by
        rw [okParts_is, hc, Bool.true_and, ints_sum]
        exact decide_eq_decide.mpr (by omega)
      exact cast_bl (Q := Q) e (k H1 s1)
    · have e : Kza1.okParts ms = false := by rw [okParts_is, hc, Bool.false_and]
      exact cast_bl (Q := Q) e.symm (k H1 s1)
theorem sc_is_within : FnScope ["chest", "recipe", "kind", "tol", "whole", "own", "wanted"] ["chest", "recipe", "kind", "tol"] (defScope st_is_within) := ⟨rfl, rfl, rfl, by decide +kernel, rfl, by decide +kernel, by decide +kernel⟩
theorem ok_is_within {f : Addr} {fd : FuncData} (F : Fun K "is_within" "is_within" st_is_within f fd) (m_abs : mg "abs" = none) {t_THOUSAND : Tok} (g_THOUSAND : mg "THOUSAND" = some (.int 1000 t_THOUSAND))
    (C_fibre_of : Cal P w K mg base "fibre_of" 1 ["chest"] (spNum K Kza1.fibre))
    (C_parts_of : Cal P w K mg base "parts_of" 1 ["recipe"] (spNum K Kza1.sum)) : FnOk P w K mg base CX0 2 f fd ["chest", "recipe", "kind", "tol"] (spKind K) := by
  refine F.ok sc_is_within (fun vs H Q E h => ?_) (fun cdv A outer s H vs Q E hr h => ?_)
  · obtain ⟨a, b, cs, ps, kind, tol, rfl, hA, hB, hc, hp, hk, ht, k⟩ := h
    rfl
  · obtain ⟨a, b, cs, ps, kind, tol, rfl, hA, hB, hc, hp, hk, ht, k⟩ := h
    refine ⟨_, pss_cons (ps_set (i := 4) sc_is_within.nd rfl (Or.inl rfl) (pe_op op_mul (pe_cal C_fibre_of hr (by rfl) (pa_cons (pv 0) pa_nil)) (pe_cal C_parts_of hr (by rfl) (pa_cons (pv 1) pa_nil))))
      (pss_cons (ps_set (i := 5) sc_is_within.nd rfl (Or.inl rfl) (pe_op op_mul (pe_ix ix_list (pv 0) (pe_op op_add pe_int (pv 2)) (fun _ _ => rfl)) (pe_cal C_parts_of hr (by rfl) (pa_cons (pv 1) pa_nil))))
      (pss_cons (ps_set (i := 6) sc_is_within.nd rfl (Or.inl rfl) (pe_op op_mul (pe_cal C_fibre_of hr (by rfl) (pa_cons (pv 0) pa_nil)) (pe_ix ix_list (pv 1) (pv 2) (fun _ _ => rfl))))
      (pss_one (ps_ret (pe_cmpR op_le (pe_op op_mul (pe_callB call_abs (by rfl) m_abs (by decide +kernel) (pa_cons (pe_op op_sub (pv 5) (pv 6)) pa_nil)) (pe_glob (v := .int 1000) rfl g_THOUSAND ⟨_, rfl⟩)) (pe_op op_mul (pv 3) (pv 4)) (nomark _)))))), ?_⟩
    have hf : Kza1.fibre cs ≤ 4294967295 := by
      have h1 := fibre_le cs
      have h2 := within_sum hc
      omega
    obtain ⟨x, hx⟩ : ∃ x, cs[1 + kind]? = some x := ⟨_, List.getElem?_eq_getElem (by rw [within_len hc]; omega)⟩
    obtain ⟨y, hy⟩ : ∃ y, ps[kind]? = some y := ⟨_, List.getElem?_eq_getElem (by rw [within_len hp]; omega)⟩
    have hx2 : x ≤ 4294967295 := by
      have := within_le hc x (List.mem_of_getElem? hx)
      omega
    refine ⟨_, rfl, a, cs, rfl, hA, fun H1 s1 => ⟨_, rfl, b, ps, rfl, hB.same s1, fun H2 s2 => ⟨_, _, rfl, rfl, mul_l hf, ?_⟩⟩⟩
    have t2 := s1.trans s2
    refine ⟨_, rfl, _, rfl, _, _, rfl, rfl, a, iv cs, _, _, rfl, rfl, (hA.same t2).1, at_of (j := 1 + kind) rfl (iv_at hx), _, rfl, b, ps, rfl, hB.same t2, fun H3 s3 => ⟨_, _, rfl, rfl, mul_l hx2, ?_⟩⟩
    have t3 := t2.trans s3
    refine ⟨_, rfl, a, cs, rfl, hA.same t3, fun H4 s4 => ?_⟩
    have t4 := t3.trans s4
    refine ⟨_, rfl, _, rfl, b, iv ps, _, _, rfl, rfl, (hB.same t4).1, atI_nat (iv_at hy), _, _, rfl, rfl, mul_l hf, ?_⟩
    refine ⟨_, rfl, _, rfl, _, _, rfl, rfl, _, rfl, _, _, rfl, rfl, mul_r (b := 1000) (by decide), ?_⟩
    refine ⟨_, rfl, _, rfl, _, _, rfl, rfl, mul_l (by omega), _, _, rfl, rfl, ?_⟩
    exact cast_bl (Q := Q) (kind_int hx hy) (k H4 t4)
theorem sc_keeps_within : FnScope ["chest", "recipe", "tol", "kind"] ["chest", "recipe", "tol"] (defScope st_keeps_within) := ⟨rfl, rfl, rfl, by decide +kernel, rfl, by decide +kernel, by decide +kernel⟩
theorem ok_keeps_within {f : Addr} {fd : FuncData} (F : Fun K "keeps_within" "keeps_within" st_keeps_within f fd) (m_all : mg "all" = none) (m_range : mg "range" = none) (m_len : mg "len" = none)
    (C_is_within : Cal P w K mg base "is_within" 2 ["chest", "recipe", "kind", "tol"] (spKind K)) : FnOk P w K mg base CX0 3 f fd ["chest", "recipe", "tol"] (spKeeps K) := by
  refine F.ok sc_keeps_within (fun vs H Q E h => ?_) (fun cdv A outer s H vs Q E hr h => ?_)
  · obtain ⟨a, b, cs, ps, tol, rfl, hA, hB, hc, hp, ht, k⟩ := h
    rfl
  · obtain ⟨a, b, cs, ps, tol, rfl, hA, hB, hc, hp, ht, k⟩ := h
    refine ⟨_, pss_one (ps_ret (pe_callB (cr_all rfl) (by rfl) m_all (by decide +kernel) (pa_cons
      (pe_lc (own := [("kind", 3)]) (g := gName 3) (tt := tYes) rfl sc_keeps_within.nd (pi_range1 (by rfl) m_range (pa_cons (pe_callB call_len_seq (by rfl) m_len PySem.boot_len (pa_cons (pv 1) pa_nil)) pa_nil))
        (blkOk_by (N := ["chest", "recipe", "tol", "kind"]) (sc := defScope st_keeps_within) (by decide +kernel)) (fun _ _ _ _ _ => pg_name (i := 3) sc_keeps_within.nd rfl (Or.inl rfl)) (fun _ _ _ _ _ => pts_nil)
        (fun _ _ _ _ _ => pe_cal C_is_within hr (by rfl) (pa_cons (pv 0) (pa_cons (pv 1) (pa_cons (pv 3) (pa_cons (pv 2) pa_nil)))))) pa_nil))), ?_⟩
    refine ⟨_, rfl, b, _, rfl, .inl hB.1, 4, (by rw [iv_len, within_len hp]; rfl), (by decide), (by decide), fun D hD => lc_range (lo := 0) (n := 4)
      (fun i H' => Same H H' ∧ H' D = some (.lst (((List.range i).map (kindKeeps cs ps tol)).map V.bl))) ⟨same_new hD, upd_same⟩ ?_ ?_⟩
    · rintro i H' hi ⟨s, hD'⟩
      refine ⟨rfl, _, rfl, _, rfl, _, rfl, _, rfl, a, b, cs, ps, i, tol, (by rw [Int.zero_add]; rfl), hA.same s, hB.same s, hc, hp, hi, ht, fun H2 s2 => ?_⟩
      refine ⟨_, s2 _ _ hD', small (by rw [List.length_map, List.length_map, List.length_range]; omega), same_upd (s.trans s2) hD, ?_⟩
      rw [upd_same, List.range_succ, List.map_append, List.map_append]
      rfl
    · rintro H' ⟨s, hD'⟩
      refine ⟨D, _, rfl, SqL.of hD', ?_⟩
      have e : ((List.range 4).map (kindKeeps cs ps tol)).all id = Kza1.keeps cs ps tol := by
        rw [keeps_is, List.all_map]
        rfl
      exact cast_bl (Q := Q) e (k H' s)
theorem sc_keeps : FnScope ["tol", "c", "p"] ["tol", "c", "p"] (defScope st_keeps) := ⟨rfl, rfl, rfl, by decide +kernel, rfl, by decide +kernel, by decide +kernel⟩
theorem ok_keeps {f : Addr} {fd : FuncData} (F : Fun K "keeps" "keeps" st_keeps f fd) (m_int : mg "int" = none) {t_NOT_AS_TOLD : Tok} (g_NOT_AS_TOLD : mg "NOT_AS_TOLD" = some (.int (-22) t_NOT_AS_TOLD)) {t_MOST_TOL : Tok} (g_MOST_TOL : mg "MOST_TOL" = some (.int 1000 t_MOST_TOL))
    (C_is_chest : Cal P w K mg base "is_chest" 2 ["numbers"] (spTell K fun ms => within ms 5 100000))
    (C_is_recipe : Cal P w K mg base "is_recipe" 2 ["numbers"] (spTell K Kza1.okParts))
    (C_keeps_within : Cal P w K mg base "keeps_within" 3 ["chest", "recipe", "tol"] (spKeeps K)) : FnOk P w K mg base CX0 4 f fd ["tol", "c", "p"] (spTop K) := by
  refine F.ok sc_keeps (fun vs H Q E h => ?_) (fun cdv A outer s H vs Q E hr h => ?_)
  · obtain ⟨a, b, cs, ps, tol, rfl, hA, hB, k⟩ := h
    rfl
  · obtain ⟨a, b, cs, ps, tol, rfl, hA, hB, k⟩ := h
    refine ⟨_, pss_cons (ps_if (PW.pt (pw_or (pt_not (pt_val (pe_cal C_is_chest (hr.mono (by decide)) (by rfl) (pa_cons (pv 1) pa_nil)))) (pw_or (pt_not (pt_val (pe_cal C_is_recipe (hr.mono (by decide)) (by rfl) (pa_cons (pv 2) pa_nil))))
        (pw_or1 (pt_cmpR op_gt (pv 0) (pe_glob (v := .int 1000) rfl g_MOST_TOL ⟨_, rfl⟩) (nomark _)))))) (pss_one (ps_ret (pe_lst (pa_cons (pe_glob (v := .int (-22)) rfl g_NOT_AS_TOLD ⟨_, rfl⟩) pa_nil)))) pss_nil)
      (pss_one (ps_ret (pe_lst (pa_cons (pe_callTy call_int1 (by rfl) m_int (by decide +kernel) (pa_cons (pe_cal C_keeps_within hr (by rfl) (pa_cons (pv 1) (pa_cons (pv 2) (pa_cons (pv 0) pa_nil)))) pa_nil)) pa_nil)))), ?_⟩
    have bad : (Kza1.okChest cs = false ∨ Kza1.okParts ps = false ∨ 1000 < tol) → ∀ (H' : Hp), (1 ≤ sizeLine ∧ ∀ p, H' p = none → Q (.ref p) (upd H' p (.lst [V.int (-22)]))) := fun hc H' => by
      refine ⟨by decide, fun p hp => k _ p ?_⟩
      have e : Kza1.answer (.keeps cs ps tol) = Kza1.say (-22) := if_pos hc
      rw [upd_same, e]
      rfl
    refine ⟨_, rfl, a, cs, rfl, hA, fun H1 s1 => ⟨_, rfl, ifB (fun h1 => bad (.inl (by rw [okChest_is]; simpa using h1)) H1) (fun h1 => ?_)⟩⟩
    refine ⟨_, rfl, b, ps, rfl, hB.same s1, fun H2 s2 => ⟨_, rfl, ifB (fun h2 => bad (.inr (.inl (by simpa using h2))) H2) (fun h2 => ?_)⟩⟩
    refine ⟨_, rfl, _, _, rfl, rfl, _, rfl, ifB (fun h3 => bad (.inr (.inr (by have e := of_decide_eq_true h3; omega))) H2) (fun h3 => ?_)⟩
    have e3 := of_decide_eq_false h3
    have t2 := s1.trans s2
    have h1 : within cs 5 100000 = true := by simpa using h1
    have h2 : Kza1.okParts ps = true := by simpa using h2
    have hp : within ps 4 100 = true := by
      rw [okParts_is, Bool.and_eq_true] at h2
      exact h2.1
    refine ⟨_, rfl, _, rfl, _, rfl, a, b, cs, ps, tol, rfl, hA.same t2, hB.same t2, h1, hp, by omega, fun H3 s3 => ?_⟩
    refine .inr ⟨_, rfl, (by show 1 ≤ sizeLine; decide), fun p hp => k _ p ?_⟩
    have e : Kza1.answer (.keeps cs ps tol) = Kza1.say (if Kza1.keeps cs ps tol then 1 else 0) := if_neg (by
      rw [okChest_is, h1, h2]
      rintro (z | z | z)
      · cases z
      · cases z
      · omega)
    rw [upd_same, e]
    rfl
end
theorem list_in {l : List Int} (h : (Codec.inLen 0 8 l && l.all (Codec.inInt 0 4294967295)) = true) : l.length ≤ 8 ∧ ∀ x ∈ l, 0 ≤ x := by
  rw [Bool.and_eq_true, List.all_eq_true] at h
  exact ⟨(Codec.inNat_iff.mp h.1).2, fun x hx => (Codec.inInt_iff.mp (h.2 x hx)).1⟩
theorem ln_of {K : PySem.W.Frag} {H : Hp} {p : Addr} {l : List Int} (h : l.length ≤ 8 ∧ ∀ x ∈ l, 0 ≤ x) (hs : SqL K H p (l.map V.int)) : LN K H p (natsOf l) := by
  refine ⟨?_, by rw [natsOf_length]; exact h.1⟩
  unfold iv
  rw [ints_natsOf l h.2]
  exact hs
theorem nat_of {z : Int} (h : Codec.inInt 0 4294967295 z = true) : ((z.toNat : Nat) : Int) = z ∧ z.toNat ≤ 4294967295 := by
  have q := Codec.inInt_iff.mp h
  exact ⟨by omega, by omega⟩
/-! ### the end: what the top has written -/
theorem all_mk {P : Program} {w : World} {K : PySem.W.Frag} {h : Heap} {mg : Str → Option Value} {fa : Addr} {f0 f1 f2 f3 f4 f5 f6 f7 : Addr} (X : K.In h) (G : h.Ns mainGlobals mg) (hfa : mg "keeps" = some (.ref fa))
    {od0 an0 od1 an1 od2 an2 od3 an3 od4 an4 od5 an5 od6 an6 od7 an7 : Option Addr} {sl0 sl1 sl2 sl3 sl4 sl5 sl6 sl7 : Array (Option Value)}
    {oc0 kV0 dc0 pm0 cd0 ct0 oc1 kV1 dc1 pm1 cd1 ct1 oc2 kV2 dc2 pm2 cd2 ct2 oc3 kV3 dc3 pm3 cd3 ct3 oc4 kV4 dc4 pm4 cd4 ct4 oc5 kV5 dc5 pm5 cd5 ct5 oc6 kV6 dc6 pm6 cd6 ct6 oc7 kV7 dc7 pm7 cd7 ct7 : Value}
    {t_CHEST t_MOST_OF_A_PART t_KINDS t_MOST_PARTS t_THOUSAND t_NOT_AS_TOLD t_MOST_TOL : Tok}
    (a0 : PySem.W.nsIn K mainGlobals "are_within" = some (some (.ref f0))) (l0 : K.lookup f0 = some ⟨oc0, od0, .func (PySem.W.fnOf "are_within" "are_within" (defArgs st_are_within) (defBody st_are_within) (defScope st_are_within) .none kV0 dc0 pm0 an0 cd0 ct0), sl0⟩) (c0 : PySem.W.codeIn K cd0 "are_within" = true) (k0 : PySem.W.keepIn K (.ref f0) = true)
    (a1 : PySem.W.nsIn K mainGlobals "fibre_of" = some (some (.ref f1))) (l1 : K.lookup f1 = some ⟨oc1, od1, .func (PySem.W.fnOf "fibre_of" "fibre_of" (defArgs st_fibre_of) (defBody st_fibre_of) (defScope st_fibre_of) .none kV1 dc1 pm1 an1 cd1 ct1), sl1⟩) (c1 : PySem.W.codeIn K cd1 "fibre_of" = true) (k1 : PySem.W.keepIn K (.ref f1) = true)
    (a2 : PySem.W.nsIn K mainGlobals "parts_of" = some (some (.ref f2))) (l2 : K.lookup f2 = some ⟨oc2, od2, .func (PySem.W.fnOf "parts_of" "parts_of" (defArgs st_parts_of) (defBody st_parts_of) (defScope st_parts_of) .none kV2 dc2 pm2 an2 cd2 ct2), sl2⟩) (c2 : PySem.W.codeIn K cd2 "parts_of" = true) (k2 : PySem.W.keepIn K (.ref f2) = true)
    (a3 : PySem.W.nsIn K mainGlobals "is_chest" = some (some (.ref f3))) (l3 : K.lookup f3 = some ⟨oc3, od3, .func (PySem.W.fnOf "is_chest" "is_chest" (defArgs st_is_chest) (defBody st_is_chest) (defScope st_is_chest) .none kV3 dc3 pm3 an3 cd3 ct3), sl3⟩) (c3 : PySem.W.codeIn K cd3 "is_chest" = true) (k3 : PySem.W.keepIn K (.ref f3) = true)
    (a4 : PySem.W.nsIn K mainGlobals "is_recipe" = some (some (.ref f4))) (l4 : K.lookup f4 = some ⟨oc4, od4, .func (PySem.W.fnOf "is_recipe" "is_recipe" (defArgs st_is_recipe) (defBody st_is_recipe) (defScope st_is_recipe) .none kV4 dc4 pm4 an4 cd4 ct4), sl4⟩) (c4 : PySem.W.codeIn K cd4 "is_recipe" = true) (k4 : PySem.W.keepIn K (.ref f4) = true)
    (a5 : PySem.W.nsIn K mainGlobals "is_within" = some (some (.ref f5))) (l5 : K.lookup f5 = some ⟨oc5, od5, .func (PySem.W.fnOf "is_within" "is_within" (defArgs st_is_within) (defBody st_is_within) (defScope st_is_within) .none kV5 dc5 pm5 an5 cd5 ct5), sl5⟩) (c5 : PySem.W.codeIn K cd5 "is_within" = true) (k5 : PySem.W.keepIn K (.ref f5) = true)
    (a6 : PySem.W.nsIn K mainGlobals "keeps_within" = some (some (.ref f6))) (l6 : K.lookup f6 = some ⟨oc6, od6, .func (PySem.W.fnOf "keeps_within" "keeps_within" (defArgs st_keeps_within) (defBody st_keeps_within) (defScope st_keeps_within) .none kV6 dc6 pm6 an6 cd6 ct6), sl6⟩) (c6 : PySem.W.codeIn K cd6 "keeps_within" = true) (k6 : PySem.W.keepIn K (.ref f6) = true)
    (a7 : PySem.W.nsIn K mainGlobals "keeps" = some (some (.ref f7))) (l7 : K.lookup f7 = some ⟨oc7, od7, .func (PySem.W.fnOf "keeps" "keeps" (defArgs st_keeps) (defBody st_keeps) (defScope st_keeps) .none kV7 dc7 pm7 an7 cd7 ct7), sl7⟩) (c7 : PySem.W.codeIn K cd7 "keeps" = true) (k7 : PySem.W.keepIn K (.ref f7) = true)
    (z_len : PySem.W.nsIn K mainGlobals "len" = some none)
    (z_all : PySem.W.nsIn K mainGlobals "all" = some none)
    (z_sum : PySem.W.nsIn K mainGlobals "sum" = some none)
    (z_abs : PySem.W.nsIn K mainGlobals "abs" = some none)
    (z_range : PySem.W.nsIn K mainGlobals "range" = some none)
    (z_int : PySem.W.nsIn K mainGlobals "int" = some none)
    (y_CHEST : PySem.W.nsIn K mainGlobals "CHEST" = some (some (.int 5 t_CHEST)))
    (y_MOST_OF_A_PART : PySem.W.nsIn K mainGlobals "MOST_OF_A_PART" = some (some (.int 100000 t_MOST_OF_A_PART)))
    (y_KINDS : PySem.W.nsIn K mainGlobals "KINDS" = some (some (.int 4 t_KINDS)))
    (y_MOST_PARTS : PySem.W.nsIn K mainGlobals "MOST_PARTS" = some (some (.int 100 t_MOST_PARTS)))
    (y_THOUSAND : PySem.W.nsIn K mainGlobals "THOUSAND" = some (some (.int 1000 t_THOUSAND)))
    (y_NOT_AS_TOLD : PySem.W.nsIn K mainGlobals "NOT_AS_TOLD" = some (some (.int (-22) t_NOT_AS_TOLD)))
    (y_MOST_TOL : PySem.W.nsIn K mainGlobals "MOST_TOL" = some (some (.int 1000 t_MOST_TOL)))
    : ∃ fd : FuncData, (∀ (s : Shared) (us : List Value), us.length = (["tol", "c", "p"] : List Str).length → BindsTo s fd ⟨us, []⟩ ((["tol", "c", "p"] : List Str).zip us)) ∧ ∀ base : Heap, K.In base → base.Ns mainGlobals mg → FnOk P w K mg base CX0 4 fa fd ["tol", "c", "p"] (spTop K) := by
  have e := hfa.symm.trans (PySem.W.mg_of X G a7)
  cases e
  have m_len := PySem.W.mg_none_of X G z_len
  have m_all := PySem.W.mg_none_of X G z_all
  have m_sum := PySem.W.mg_none_of X G z_sum
  have m_abs := PySem.W.mg_none_of X G z_abs
  have m_range := PySem.W.mg_none_of X G z_range
  have m_int := PySem.W.mg_none_of X G z_int
  have g_CHEST := PySem.W.mg_of X G y_CHEST
  have g_MOST_OF_A_PART := PySem.W.mg_of X G y_MOST_OF_A_PART
  have g_KINDS := PySem.W.mg_of X G y_KINDS
  have g_MOST_PARTS := PySem.W.mg_of X G y_MOST_PARTS
  have g_THOUSAND := PySem.W.mg_of X G y_THOUSAND
  have g_NOT_AS_TOLD := PySem.W.mg_of X G y_NOT_AS_TOLD
  have g_MOST_TOL := PySem.W.mg_of X G y_MOST_TOL
  refine ⟨PySem.W.fnOf "keeps" "keeps" (defArgs st_keeps) (defBody st_keeps) (defScope st_keeps) .none kV7 dc7 pm7 an7 cd7 ct7, fun s us hu => match us, hu with | [_, _, _], _ => .of_eq rfl, fun base _ _ => ?_⟩
  have C_are_within : Cal P w K mg base "are_within" 1 ["numbers", "many", "most"] (spWithin K) := cal_of (st := st_are_within) X G a0 l0 c0 k0 (fun _ _ _ _ _ _ us hl => match us, hl with | [_, _, _], _ => rfl) fun fd F => ok_are_within F m_len m_all
  have C_fibre_of : Cal P w K mg base "fibre_of" 1 ["chest"] (spNum K Kza1.fibre) := cal_of (st := st_fibre_of) X G a1 l1 c1 k1 (fun _ _ _ _ _ _ us hl => match us, hl with | [_], _ => rfl) fun fd F => ok_fibre_of F m_sum
  have C_parts_of : Cal P w K mg base "parts_of" 1 ["recipe"] (spNum K Kza1.sum) := cal_of (st := st_parts_of) X G a2 l2 c2 k2 (fun _ _ _ _ _ _ us hl => match us, hl with | [_], _ => rfl) fun fd F => ok_parts_of F m_sum
  have C_is_chest : Cal P w K mg base "is_chest" 2 ["numbers"] (spTell K fun ms => within ms 5 100000) := cal_of (st := st_is_chest) X G a3 l3 c3 k3 (fun _ _ _ _ _ _ us hl => match us, hl with | [_], _ => rfl) fun fd F => ok_is_chest F g_CHEST g_MOST_OF_A_PART C_are_within
  have C_is_recipe : Cal P w K mg base "is_recipe" 2 ["numbers"] (spTell K Kza1.okParts) := cal_of (st := st_is_recipe) X G a4 l4 c4 k4 (fun _ _ _ _ _ _ us hl => match us, hl with | [_], _ => rfl) fun fd F => ok_is_recipe F m_sum g_KINDS g_MOST_PARTS C_are_within
  have C_is_within : Cal P w K mg base "is_within" 2 ["chest", "recipe", "kind", "tol"] (spKind K) := cal_of (st := st_is_within) X G a5 l5 c5 k5 (fun _ _ _ _ _ _ us hl => match us, hl with | [_, _, _, _], _ => rfl) fun fd F => ok_is_within F m_abs g_THOUSAND C_fibre_of C_parts_of
  have C_keeps_within : Cal P w K mg base "keeps_within" 3 ["chest", "recipe", "tol"] (spKeeps K) := cal_of (st := st_keeps_within) X G a6 l6 c6 k6 (fun _ _ _ _ _ _ us hl => match us, hl with | [_, _, _], _ => rfl) fun fd F => ok_keeps_within F m_all m_range m_len C_is_within
  exact ok_keeps (fun_mk (st := st_keeps) l7 c7 k7) m_int g_NOT_AS_TOLD g_MOST_TOL C_is_chest C_is_recipe C_keeps_within
end Sb
open PySem PySem.W PyProof.Rows
set_option maxRecDepth 100000 in
set_option maxHeartbeats 0 in
theorem PySem.Challenge.cw_stockblends_s05_keeps_holds : PySem.Challenge.rw_stockblends_s05_keeps.Holds := by
  w_on; k_headS; (case hw => exact ⟨[.int 0, .list [], .list []], by decide +kernel, by decide +kernel⟩)
  k_fillS
  refine L2.walk_specK (r := PySem.Challenge.rw_stockblends_s05_keeps) (k := 4) (CX := L2.CX0) (ps := ["tol", "c", "p"]) (sp := Sb.spTop) (by decide +kernel) rfl rfl ⟨rfl, by decide, by decide⟩ (fun w h Y => PySem.W.kIn_of Y) ?F ?S (fun _ _ _ _ z => z)
  case F =>
    intro w mg fa h Y KX G hmg
    refine' Sb.all_mk KX G hmg ?a0 ?l0 ?c0 ?k0 ?a1 ?l1 ?c1 ?k1 ?a2 ?l2 ?c2 ?k2 ?a3 ?l3 ?c3 ?k3 ?a4 ?l4 ?c4 ?k4 ?a5 ?l5 ?c5 ?k5 ?a6 ?l6 ?c6 ?k6 ?a7 ?l7 ?c7 ?k7 ?z_len ?z_all ?z_sum ?z_abs ?z_range ?z_int ?y_CHEST ?y_MOST_OF_A_PART ?y_KINDS ?y_MOST_PARTS ?y_THOUSAND ?y_NOT_AS_TOLD ?y_MOST_TOL
    (case a0 => k_is)
    (case l0 => k_is)
    (case c0 => k_is)
    (case k0 => k_is)
    (case a1 => k_is)
    (case l1 => k_is)
    (case c1 => k_is)
    (case k1 => k_is)
    (case a2 => k_is)
    (case l2 => k_is)
    (case c2 => k_is)
    (case k2 => k_is)
    (case a3 => k_is)
    (case l3 => k_is)
    (case c3 => k_is)
    (case k3 => k_is)
    (case a4 => k_is)
    (case l4 => k_is)
    (case c4 => k_is)
    (case k4 => k_is)
    (case a5 => k_is)
    (case l5 => k_is)
    (case c5 => k_is)
    (case k5 => k_is)
    (case a6 => k_is)
    (case l6 => k_is)
    (case c6 => k_is)
    (case k6 => k_is)
    (case a7 => k_is)
    (case l7 => k_is)
    (case c7 => k_is)
    (case k7 => k_is)
    (case z_len => k_is)
    (case z_all => k_is)
    (case z_sum => k_is)
    (case z_abs => k_is)
    (case z_range => k_is)
    (case z_int => k_is)
    (case y_CHEST => k_is)
    (case y_MOST_OF_A_PART => k_is)
    (case y_KINDS => k_is)
    (case y_MOST_PARTS => k_is)
    (case y_THOUSAND => k_is)
    (case y_NOT_AS_TOLD => k_is)
    (case y_MOST_TOL => k_is)
  case S =>
    intro K H xs a hO hwi hask hx
    cases hx with
    | cons h1 h2 =>
      cases h2 with
      | cons h2 h3 =>
        cases h3 with
        | cons h3 h4 =>
          cases h4
          cases h1
          cases h2 with
          | lst hs2 ha2 =>
            cases h3 with
            | lst hs3 ha3 =>
              have e2 := L2.ints_dw a.2.1 _ ha2
              have e3 := L2.ints_dw a.2.2.1 _ ha3
              subst e2 e3
              have q : (Codec.inInt 0 4294967295 a.1 && ((Codec.inLen 0 8 a.2.1 && a.2.1.all (Codec.inInt 0 4294967295)) && ((Codec.inLen 0 8 a.2.2.1 && a.2.2.1.all (Codec.inInt 0 4294967295)) && true))) = true := hwi
              rw [Bool.and_eq_true] at q
              have q2 := Bool.and_eq_true_iff.mp q.2
              have q3 := Bool.and_eq_true_iff.mp q2.2
              have n1 := Sb.nat_of q.1
              exact ⟨_, _, Kza1Neutral.natsOf a.2.1, Kza1Neutral.natsOf a.2.2.1, a.1.toNat, (by rw [n1.1]), Sb.ln_of (Sb.list_in q2.1) hs2, Sb.ln_of (Sb.list_in q3.1) hs3, fun H' p hp => .lst (L2.SqL.of hp) (L2.dw_ints _)⟩
#print axioms PySem.Challenge.cw_stockblends_s05_keeps_holds
