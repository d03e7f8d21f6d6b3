import PyProof.Rows.All
import Wide.All
import OpenK.AllK
import Wide.FinOn
import HandS.ForMost
import HandS.Exc
import HandS.Defaults
import HandS.IsInst
import HandS.Deep
import HandS.Style
import HandS.Flow
import KE.GoesEnum
import PyProof.ReprRoads
import PySem.Challenge.RW_lumpplans_k25_whole_lump_or_not
import HandS.WideBits
import HandS.TryOnly
import PyProof.Rows.ChunkEnd
import HandS.HeadEnd
import KE.KStateDown
import Lean
import HandS.Head0
import HandS.Head1
import HandS.Head2
import HandS.HeadHook1
import HandS.HeadHook2
import HandS.HeadHook3
import HandS.HeadHook4
set_option Elab.async false
set_option linter.all false
set_option maxRecDepth 100000
set_option maxHeartbeats 4000000
/-! KLMath: shapes, tables, plans as plain data; what is pressed, what is a lump. No program here. -/
namespace KL
inductive Sh where
  | o
  | n (l r : Sh)
  deriving DecidableEq
namespace Sh
def sz : Sh → Nat
  | .o => 1
  | .n l r => l.sz + r.sz
def dp : Sh → Nat
  | .o => 0
  | .n l r => max l.dp r.dp + 1
theorem sz_pos : ∀ s : Sh, 0 < s.sz
  | .o => Nat.one_pos
  | .n l r => Nat.add_pos_left (sz_pos l) _
theorem dp_lt : ∀ s : Sh, s.dp < s.sz
  | .o => Nat.one_pos
  | .n l r => by
    have h1 := dp_lt l
    have h2 := dp_lt r
    have h3 := sz_pos l
    have h4 := sz_pos r
    show max l.dp r.dp + 1 < l.sz + r.sz
    omega
/-- the lumps of a shape that begins at a place, in order -/
def lumps : Sh → Nat → List (Nat × Nat)
  | .o, s => [(s, s + 1)]
  | .n l r, s => (s, s + (l.sz + r.sz)) :: (lumps l s ++ lumps r (s + l.sz))
/-- whether a pair is a lump -/
def isL : Sh → Nat → Nat → Prop
  | .o, i, j => i = 0 ∧ j = 1
  | .n l r, i, j => (i = 0 ∧ j = l.sz + r.sz) ∨ isL l i j ∨ (l.sz ≤ i ∧ isL r (i - l.sz) (j - l.sz))
theorem isL_root : ∀ s : Sh, isL s 0 s.sz
  | .o => ⟨rfl, rfl⟩
  | .n l r => .inl ⟨rfl, rfl⟩
theorem isL_lt : ∀ (s : Sh) {i j : Nat}, isL s i j → i < j ∧ j ≤ s.sz
  | .o, i, j, h => by
    obtain ⟨rfl, rfl⟩ := h
    exact ⟨Nat.one_pos, Nat.le_refl _⟩
  | .n l r, i, j, h => by
    have h1 := sz_pos l
    have h2 := sz_pos r
    show i < j ∧ j ≤ l.sz + r.sz
    rcases h with ⟨rfl, rfl⟩ | h | ⟨hi, h⟩
    · exact ⟨by omega, Nat.le_refl _⟩
    · have := isL_lt l h
      omega
    · have := isL_lt r h
      omega
theorem isL_one : ∀ (s : Sh) {i : Nat}, i < s.sz → isL s i (i + 1)
  | .o, i, h => by
    have h0 : i < 1 := h
    have e : i = 0 := by omega
    subst e
    exact ⟨rfl, rfl⟩
  | .n l r, i, h => by
    have h0 : i < l.sz + r.sz := h
    by_cases hl : i < l.sz
    · exact .inr (.inl (isL_one l hl))
    · refine .inr (.inr ⟨by omega, ?_⟩)
      have e : i + 1 - l.sz = (i - l.sz) + 1 := by omega
      rw [e]
      exact isL_one r (by omega)
theorem mem_lumps : ∀ (t : Sh) (s i j : Nat), (i, j) ∈ lumps t s ↔ s ≤ i ∧ isL t (i - s) (j - s)
  | .o, s, i, j => by
    constructor
    · intro h
      have h1 : (i, j) = (s, s + 1) := List.mem_singleton.mp h
      injection h1 with h2 h3
      subst h2 h3
      exact ⟨Nat.le_refl _, by omega, by omega⟩
    · intro h
      obtain ⟨h0, h1, h2⟩ := h
      have e1 : i = s := by omega
      have e2 : j = s + 1 := by omega
      subst e1 e2
      exact List.mem_singleton.mpr rfl
  | .n l r, s, i, j => by
    have hl := sz_pos l
    have hr := sz_pos r
    unfold lumps
    rw [List.mem_cons, List.mem_append, mem_lumps l, mem_lumps r]
    constructor
    · rintro (h | ⟨h1, h2⟩ | ⟨h1, h2⟩)
      · injection h with h2 h3
        subst h2 h3
        exact ⟨Nat.le_refl _, .inl ⟨by omega, by omega⟩⟩
      · exact ⟨h1, .inr (.inl h2)⟩
      · refine ⟨by omega, .inr (.inr ⟨by omega, ?_⟩)⟩
        have e1 : i - s - l.sz = i - (s + l.sz) := by omega
        have e2 : j - s - l.sz = j - (s + l.sz) := by omega
        rw [e1, e2]
        exact h2
    · rintro ⟨h1, h | h | ⟨h2, h3⟩⟩
      · refine .inl ?_
        have e1 : i = s := by omega
        have e2 : j = s + (l.sz + r.sz) := by omega
        rw [e1, e2]
      · exact .inr (.inl ⟨h1, h⟩)
      · have e1 : i - s - l.sz = i - (s + l.sz) := by omega
        have e2 : j - s - l.sz = j - (s + l.sz) := by omega
        rw [e1, e2] at h3
        exact .inr (.inr ⟨by omega, h3⟩)
theorem lumps_ne (t : Sh) (s : Nat) : lumps t s ≠ [] := by
  cases t <;> exact List.cons_ne_nil _ _
theorem lumps_len : ∀ (t : Sh) (s : Nat), (lumps t s).length + 1 = 2 * t.sz
  | .o, s => rfl
  | .n l r, s => by
    have h1 := lumps_len l s
    have h2 := lumps_len r (s + l.sz)
    show ((s, s + (l.sz + r.sz)) :: (lumps l s ++ lumps r (s + l.sz))).length + 1 = 2 * (l.sz + r.sz)
    rw [List.length_cons, List.length_append]
    omega
/-- a shape in which each lump is the next one of some shapes -/
def fill : Sh → List Sh → Sh
  | .o, xs => xs.headD .o
  | .n l r, xs => .n (fill l (xs.take l.sz)) (fill r (xs.drop l.sz))
end Sh
/-- where the a-th of some shapes begins -/
def off (xs : List Sh) (a : Nat) : Nat := ((xs.take a).map Sh.sz).sum
theorem off_zero (xs : List Sh) : off xs 0 = 0 := rfl
theorem off_cons (x : Sh) (xs : List Sh) (a : Nat) : off (x :: xs) (a + 1) = x.sz + off xs a := by
  unfold off
  rw [List.take_succ_cons, List.map_cons, List.sum_cons]
theorem off_take : ∀ (xs : List Sh) (k a : Nat), a ≤ k → off (xs.take k) a = off xs a
  | xs, k, 0, _ => rfl
  | [], k, a + 1, _ => by rw [List.take_nil]
  | x :: xs, 0, a + 1, h => absurd h (Nat.not_succ_le_zero _)
  | x :: xs, k + 1, a + 1, h => by
    rw [List.take_succ_cons, off_cons, off_cons, off_take xs k a (Nat.le_of_succ_le_succ h)]
theorem off_drop : ∀ (xs : List Sh) (k a : Nat), k ≤ xs.length → off xs (k + a) = off xs k + off (xs.drop k) a
  | xs, 0, a, _ => by
    rw [Nat.zero_add, off_zero, Nat.zero_add, List.drop_zero]
  | [], k + 1, a, h => absurd h (Nat.not_succ_le_zero _)
  | x :: xs, k + 1, a, h => by
    have e : k + 1 + a = (k + a) + 1 := by omega
    rw [e, off_cons, off_cons, List.drop_succ_cons, off_drop xs k a (Nat.le_of_succ_le_succ h)]
    omega
theorem off_lt : ∀ (xs : List Sh) (a b : Nat), a < b → b ≤ xs.length → off xs a < off xs b
  | xs, a, 0, h, _ => absurd h (Nat.not_lt_zero _)
  | [], a, b + 1, _, h => absurd h (Nat.not_succ_le_zero _)
  | x :: xs, 0, b + 1, _, _ => by
    rw [off_zero, off_cons]
    have := x.sz_pos
    omega
  | x :: xs, a + 1, b + 1, h, h' => by
    rw [off_cons, off_cons]
    have := off_lt xs a b (Nat.lt_of_succ_lt_succ h) (Nat.le_of_succ_le_succ h')
    omega
theorem off_inj {xs : List Sh} {a b : Nat} (ha : a ≤ xs.length) (hb : b ≤ xs.length) (h : off xs a = off xs b) : a = b := by
  rcases Nat.lt_trichotomy a b with q | q | q
  · have := off_lt xs a b q hb
    omega
  · exact q
  · have := off_lt xs b a q ha
    omega
open Sh
theorem fill_sz : ∀ (f : Sh) (xs : List Sh), xs.length = f.sz → (fill f xs).sz = off xs xs.length
  | .o, xs, h => by
    match xs, h with
    | [x], _ => rfl
  | .n l r, xs, h => by
    have h0 : xs.length = l.sz + r.sz := h
    have h1 := fill_sz l (xs.take l.sz) (by rw [List.length_take]; omega)
    have h2 := fill_sz r (xs.drop l.sz) (by rw [List.length_drop]; omega)
    show (fill l (xs.take l.sz)).sz + (fill r (xs.drop l.sz)).sz = _
    rw [h1, h2, List.length_take, List.length_drop, Nat.min_eq_left (by omega), off_take _ _ _ (Nat.le_refl _), h0]
    have e := off_drop xs l.sz r.sz (by omega)
    rw [e]
    have e2 : l.sz + r.sz - l.sz = r.sz := by omega
    rw [e2]
/-- the lumps of a filled shape: those above, and those within one of the shapes -/
theorem fill_isL : ∀ (f : Sh) (xs : List Sh) (i j : Nat), xs.length = f.sz →
    (isL (fill f xs) i j ↔ (∃ a b, isL f a b ∧ i = off xs a ∧ j = off xs b) ∨ ∃ a, ∃ h : a < xs.length, off xs a ≤ i ∧ isL xs[a] (i - off xs a) (j - off xs a))
  | .o, xs, i, j, h => by
    match xs, h with
    | [x], _ =>
      show isL x i j ↔ _
      constructor
      · intro q
        exact .inr ⟨0, Nat.one_pos, Nat.zero_le _, by simpa [off_zero] using q⟩
      · rintro (⟨a, b, ⟨rfl, rfl⟩, rfl, rfl⟩ | ⟨a, ha, h1, h2⟩)
        · have e : off [x] 1 = x.sz := by
            rw [off_cons, off_zero]
            rfl
          rw [off_zero, e]
          exact isL_root x
        · have e : a = 0 := by
            have : a < 1 := ha
            omega
          subst e
          simpa [off_zero] using h2
  | .n l r, xs, i, j, h => by
    have h0 : xs.length = l.sz + r.sz := h
    have hl := sz_pos l
    have hr := sz_pos r
    have l1 : (xs.take l.sz).length = l.sz := by rw [List.length_take]; omega
    have l2 : (xs.drop l.sz).length = r.sz := by rw [List.length_drop]; omega
    have s1 := fill_sz l (xs.take l.sz) l1
    have s2 := fill_sz r (xs.drop l.sz) l2
    rw [l1, off_take _ _ _ (Nat.le_refl _)] at s1
    rw [l2] at s2
    have i1 := fill_isL l (xs.take l.sz) i j l1
    have i2 := fill_isL r (xs.drop l.sz) (i - off xs l.sz) (j - off xs l.sz) l2
    have od := fun a => off_drop xs l.sz a (by omega)
    show ((i = 0 ∧ j = (fill l (xs.take l.sz)).sz + (fill r (xs.drop l.sz)).sz) ∨ isL (fill l (xs.take l.sz)) i j ∨ ((fill l (xs.take l.sz)).sz ≤ i ∧ isL (fill r (xs.drop l.sz)) (i - (fill l (xs.take l.sz)).sz) (j - (fill l (xs.take l.sz)).sz))) ↔ _
    rw [s1, s2, i1, i2]
    constructor
    · rintro (⟨rfl, rfl⟩ | (⟨a, b, q, rfl, rfl⟩ | ⟨a, ha, q1, q2⟩) | ⟨q0, ⟨a, b, q, e1, e2⟩ | ⟨a, ha, q1, q2⟩⟩)
      · exact .inl ⟨0, l.sz + r.sz, .inl ⟨rfl, rfl⟩, rfl, by rw [od]⟩
      · have := isL_lt l q
        rw [off_take _ _ _ (by omega), off_take _ _ _ (by omega)]
        exact .inl ⟨a, b, .inr (.inl q), rfl, rfl⟩
      · rw [l1] at ha
        rw [off_take _ _ _ (by omega)] at q1 q2
        exact .inr ⟨a, by omega, q1, by rw [List.getElem_take] at q2; exact q2⟩
      · have hb := isL_lt r q
        have hlt := off_lt (xs.drop l.sz) a b hb.1 (by omega)
        refine .inl ⟨l.sz + a, l.sz + b, .inr (.inr ⟨by omega, ?_⟩), ?_, ?_⟩
        · have e3 : l.sz + a - l.sz = a := by omega
          have e4 : l.sz + b - l.sz = b := by omega
          rw [e3, e4]
          exact q
        · rw [od]
          omega
        · rw [od]
          omega
      · rw [l2] at ha
        have hx := isL_lt _ q2
        refine .inr ⟨l.sz + a, by omega, ?_, ?_⟩
        · rw [od]
          omega
        · rw [List.getElem_drop] at q2
          have e3 : i - off xs (l.sz + a) = i - off xs l.sz - off (xs.drop l.sz) a := by rw [od]; omega
          have e4 : j - off xs (l.sz + a) = j - off xs l.sz - off (xs.drop l.sz) a := by rw [od]; omega
          rw [e3, e4]
          exact q2
    · rintro (⟨a, b, (⟨rfl, rfl⟩ | q | ⟨q0, q⟩), rfl, rfl⟩ | ⟨a, ha, q1, q2⟩)
      · exact .inl ⟨rfl, by rw [od]⟩
      · have := isL_lt l q
        exact .inr (.inl (.inl ⟨a, b, q, by rw [off_take _ _ _ (by omega)], by rw [off_take _ _ _ (by omega)]⟩))
      · have hq := isL_lt r q
        have ea : l.sz + (a - l.sz) = a := by omega
        have eb : l.sz + (b - l.sz) = b := by omega
        have oa := od (a - l.sz)
        have ob := od (b - l.sz)
        rw [ea] at oa
        rw [eb] at ob
        exact .inr (.inr ⟨by omega, .inl ⟨a - l.sz, b - l.sz, q, by omega, by omega⟩⟩)
      · by_cases hal : a < l.sz
        · refine .inr (.inl (.inr ⟨a, by omega, ?_, ?_⟩))
          · rw [off_take _ _ _ (by omega)]
            exact q1
          · rw [off_take _ _ _ (by omega), List.getElem_take]
            exact q2
        · have ea : l.sz + (a - l.sz) = a := by omega
          have oa := od (a - l.sz)
          rw [ea] at oa
          refine .inr (.inr ⟨by omega, .inr ⟨a - l.sz, by omega, by omega, ?_⟩⟩)
          rw [List.getElem_drop]
          have e3 : i - off xs l.sz - off (xs.drop l.sz) (a - l.sz) = i - off xs a := by omega
          have e4 : j - off xs l.sz - off (xs.drop l.sz) (a - l.sz) = j - off xs a := by omega
          rw [e3, e4]
          simp only [ea]
          exact q2
theorem fill_o : ∀ f : Sh, fill f (List.replicate f.sz .o) = f
  | .o => rfl
  | .n l r => by
    show Sh.n (fill l ((List.replicate (l.sz + r.sz) Sh.o).take l.sz)) (fill r ((List.replicate (l.sz + r.sz) Sh.o).drop l.sz)) = _
    rw [List.take_replicate, List.drop_replicate, Nat.min_eq_left (by omega)]
    have e : l.sz + r.sz - l.sz = r.sz := by omega
    rw [e, fill_o l, fill_o r]
/-- filled twice -/
theorem fill_fill : ∀ (f : Sh) (xs ys : List Sh), xs.length = f.sz → ys.length = off xs xs.length →
    fill (fill f xs) ys = fill f ((List.range xs.length).map fun a => fill (xs.getD a .o) ((ys.drop (off xs a)).take (xs.getD a .o).sz))
  | .o, xs, ys, h, h' => by
    match xs, h, h' with
    | [x], _, h' =>
      have e : off [x] 1 = x.sz := by
        rw [off_cons, off_zero]
        rfl
      have h2 : ys.length = x.sz := by
        rw [← e]
        exact h'
      show fill x ys = fill x ((ys.drop 0).take x.sz)
      rw [List.drop_zero, List.take_of_length_le (by omega)]
  | .n l r, xs, ys, h, h' => by
    have h0 : xs.length = l.sz + r.sz := h
    have l1 : (xs.take l.sz).length = l.sz := by rw [List.length_take]; omega
    have l2 : (xs.drop l.sz).length = r.sz := by rw [List.length_drop]; omega
    have s1 := fill_sz l (xs.take l.sz) l1
    have s2 := fill_sz r (xs.drop l.sz) l2
    rw [l1, off_take _ _ _ (Nat.le_refl _)] at s1
    rw [l2] at s2
    have od := fun a => off_drop xs l.sz a (by omega)
    have e0 : ys.length = off xs l.sz + off (xs.drop l.sz) r.sz := by
      rw [h', h0, od]
    have i1 := fill_fill l (xs.take l.sz) (ys.take (off xs l.sz)) l1 (by rw [l1, off_take _ _ _ (Nat.le_refl _), List.length_take]; omega)
    have i2 := fill_fill r (xs.drop l.sz) (ys.drop (off xs l.sz)) l2 (by rw [l2, List.length_drop]; omega)
    show Sh.n (fill (fill l (xs.take l.sz)) (ys.take (fill l (xs.take l.sz)).sz)) (fill (fill r (xs.drop l.sz)) (ys.drop (fill l (xs.take l.sz)).sz)) = Sh.n (fill l (List.take l.sz _)) (fill r (List.drop l.sz _))
    rw [s1, i1, i2, l1, l2]
    congr 1
    · congr 1
      rw [← List.map_take, h0, List.take_range, Nat.min_eq_left (by omega)]
      refine List.map_congr_left fun a ha => ?_
      have ha' : a < l.sz := List.mem_range.mp ha
      have g : (xs.take l.sz).getD a .o = xs.getD a .o := by
        rw [List.getD_eq_getElem?_getD, List.getD_eq_getElem?_getD, List.getElem?_take, if_pos ha']
      rw [g, off_take _ _ _ (by omega)]
      have hx : off xs (a + 1) = off xs a + (xs.getD a .o).sz := by
        have q := off_drop xs a 1 (by omega)
        have hd : xs.drop a = xs[a]'(by omega) :: xs.drop (a + 1) := List.drop_eq_getElem_cons (by omega)
        rw [q, hd, off_cons, off_zero, List.getD_eq_getElem?_getD, List.getElem?_eq_getElem (by omega)]
        rfl
      have hle : off xs (a + 1) ≤ off xs l.sz := by
        rcases Nat.lt_or_ge (a + 1) l.sz with q | q
        · exact Nat.le_of_lt (off_lt xs _ _ q (by omega))
        · have : a + 1 = l.sz := by omega
          rw [this]
          exact Nat.le_refl _
      rw [List.drop_take, List.take_take, Nat.min_eq_left (by omega)]
    · congr 1
      rw [← List.map_drop, h0, List.range_eq_range', List.range_eq_range', List.drop_range', Nat.zero_add, Nat.mul_one]
      have e1 : l.sz + r.sz - l.sz = r.sz := by omega
      rw [e1, List.range'_eq_map_range (s := 0), List.range'_eq_map_range (s := l.sz), List.map_map, List.map_map]
      refine List.map_congr_left fun a ha => ?_
      have ha' : a < r.sz := List.mem_range.mp ha
      show fill ((xs.drop l.sz).getD (0 + a) .o) _ = fill (xs.getD (l.sz + a) .o) _
      have g : (xs.drop l.sz).getD (0 + a) .o = xs.getD (l.sz + a) .o := by
        rw [List.getD_eq_getElem?_getD, List.getD_eq_getElem?_getD, List.getElem?_drop, Nat.zero_add]
      rw [g, List.drop_drop, od]
      simp only [Nat.zero_add]
end KL

/-! KLMath2: tables, plans, what a plan makes of n lumps; what the two functions of digits tell. -/
namespace KL
open Sh (sz dp lumps isL fill isL_lt isL_root isL_one mem_lumps sz_pos lumps_len lumps_ne)
abbrev Tb := List Sh
def bs (t : Tb) : Nat := t.length + 1
def ent (t : Tb) (m : Nat) : Sh := if m = 1 then .o else t.getD (m - 2) .o
structure TbOk (t : Tb) : Prop where
  ne : 1 ≤ t.length
  sz : ∀ (k : Nat) (h : k < t.length), (t[k]).sz = k + 2
theorem TbOk.two {t : Tb} (ok : TbOk t) : 2 ≤ bs t := Nat.succ_le_succ ok.ne
theorem ent_sz {t : Tb} (ok : TbOk t) {m : Nat} (h1 : 1 ≤ m) (h2 : m ≤ bs t) : (ent t m).sz = m := by
  unfold ent
  by_cases e : m = 1
  · rw [if_pos e, e]
    rfl
  · have h3 : m - 2 < t.length := by
      have : bs t = t.length + 1 := rfl
      omega
    rw [if_neg e, List.getD_eq_getElem?_getD, List.getElem?_eq_getElem h3, Option.getD_some, ok.sz _ h3]
    omega
inductive En where
  | left
  | right
  | round (ts : List Tb)
structure Pl where
  tabs : List Tb
  en : En
def Pl.stage (P : Pl) (k : Nat) : Option Tb :=
  if k < P.tabs.length then P.tabs[k]? else match P.en with
    | .round ts => ts[(k - P.tabs.length) % ts.length]?
    | _ => none
def Pl.isLeft (P : Pl) : Bool := match P.en with
  | .left => true
  | _ => false
structure PlOk (P : Pl) : Prop where
  tabs : ∀ t ∈ P.tabs, TbOk t
  rnd : ∀ ts, P.en = .round ts → 1 ≤ ts.length ∧ ∀ t ∈ ts, TbOk t
theorem PlOk.stage {P : Pl} (ok : PlOk P) {k : Nat} {t : Tb} (h : P.stage k = some t) : TbOk t := by
  unfold Pl.stage at h
  by_cases e : k < P.tabs.length
  · rw [if_pos e] at h
    exact ok.tabs t (List.mem_of_getElem? h)
  · rw [if_neg e] at h
    cases q : P.en with
    | left =>
      rw [q] at h
      cases h
    | right =>
      rw [q] at h
      cases h
    | round ts =>
      rw [q] at h
      exact (ok.rnd ts q).2 t (List.mem_of_getElem? h)
theorem PlOk.nost {P : Pl} (ok : PlOk P) {k : Nat} (h : P.stage k = none) : P.tabs.length ≤ k ∧ (P.en = .left ∨ P.en = .right) := by
  unfold Pl.stage at h
  by_cases e : k < P.tabs.length
  · rw [if_pos e, List.getElem?_eq_getElem e] at h
    cases h
  · rw [if_neg e] at h
    refine ⟨by omega, ?_⟩
    cases q : P.en with
    | left => exact .inl rfl
    | right => exact .inr rfl
    | round ts =>
      rw [q] at h
      have h1 := (ok.rnd ts q).1
      have h2 : (k - P.tabs.length) % ts.length < ts.length := Nat.mod_lt _ h1
      have h3 : ts[(k - P.tabs.length) % ts.length]? = none := h
      rw [List.getElem?_eq_getElem h2] at h3
      cases h3

/-! ### stretches -/
def cd (m b : Nat) : Nat := (m + b - 1) / b
theorem cd_eq (m b : Nat) (hb : 2 ≤ b) : ∃ r, b * cd m b + r = m + b - 1 ∧ r < b :=
  ⟨(m + b - 1) % b, Nat.div_add_mod _ _, Nat.mod_lt _ (by omega)⟩
theorem cd_up (m b : Nat) (hb : 2 ≤ b) : m ≤ cd m b * b := by
  obtain ⟨r, h1, h2⟩ := cd_eq m b hb
  rw [Nat.mul_comm] at h1
  omega
theorem cd_lo (m b a : Nat) (hb : 2 ≤ b) (h : a < cd m b) : a * b < m := by
  obtain ⟨r, h1, h2⟩ := cd_eq m b hb
  have h3 : (a + 1) * b ≤ cd m b * b := Nat.mul_le_mul_right b h
  rw [Nat.succ_mul] at h3
  rw [Nat.mul_comm] at h1
  omega
theorem cd_pos (m b : Nat) (hb : 2 ≤ b) (hm : 1 ≤ m) : 1 ≤ cd m b := by
  have h := cd_up m b hb
  rcases Nat.eq_zero_or_pos (cd m b) with e | e
  · rw [e, Nat.zero_mul] at h
    omega
  · exact e
theorem cd_lt (m b : Nat) (hb : 2 ≤ b) (hm : 2 ≤ m) : cd m b < m := by
  rcases Nat.lt_or_ge (cd m b) m with h | h
  · exact h
  · have h1 := cd_lo m b (m - 1) hb (by omega)
    have h2 : (m - 1) * 2 ≤ (m - 1) * b := Nat.mul_le_mul_left _ hb
    omega
theorem cd_gt (m b a : Nat) (hb : 2 ≤ b) (h : a * b < m) : a < cd m b := by
  have h1 := cd_up m b hb
  rcases Nat.lt_or_ge a (cd m b) with q | q
  · exact q
  · have := Nat.mul_le_mul_right b q
    omega
/-- the entries that press the stretches of m lumps -/
def ents (t : Tb) (m : Nat) : List Sh := (List.range (cd m (bs t))).map fun s => ent t (min (bs t) (m - s * bs t))
theorem ents_len (t : Tb) (m : Nat) : (ents t m).length = cd m (bs t) := by
  unfold ents
  rw [List.length_map, List.length_range]
theorem ents_get (t : Tb) (m a : Nat) (h : a < (ents t m).length) : (ents t m)[a] = ent t (min (bs t) (m - a * bs t)) := by
  simp only [ents, List.getElem_map, List.getElem_range]
theorem off_succ (xs : List Sh) (a : Nat) (h : a < xs.length) : off xs (a + 1) = off xs a + xs[a].sz := by
  have q := off_drop xs a 1 (by omega)
  have hd : xs.drop a = xs[a] :: xs.drop (a + 1) := List.drop_eq_getElem_cons h
  rw [q, hd, off_cons, off_zero]
  rfl
theorem off_ents {t : Tb} (ok : TbOk t) (m : Nat) : ∀ a, a ≤ cd m (bs t) → off (ents t m) a = min (a * bs t) m
  | 0, _ => by
    rw [off_zero, Nat.zero_mul, Nat.zero_min]
  | a + 1, h => by
    have h1 : a < (ents t m).length := by
      rw [ents_len]
      exact h
    have h2 := cd_lo m (bs t) a ok.two h
    have h3 := ok.two
    rw [off_succ _ _ h1, off_ents ok m a (by omega), ents_get, ent_sz ok (by omega) (by omega), Nat.succ_mul]
    omega
theorem off_ents_all {t : Tb} (ok : TbOk t) (m : Nat) : off (ents t m) (ents t m).length = m := by
  rw [ents_len, off_ents ok m _ (Nat.le_refl _)]
  have := cd_up m (bs t) ok.two
  omega

/-! ### combs -/
def combF (l : Bool) : Nat → Sh
  | 0 => .o
  | k + 1 => if l then .n (combF l k) .o else .n .o (combF l k)
def comb (l : Bool) (m : Nat) : Sh := combF l (m - 1)
theorem combF_sz (l : Bool) : ∀ k, (combF l k).sz = k + 1
  | 0 => rfl
  | k + 1 => by
    have := combF_sz l k
    cases l
    · show 1 + (combF false k).sz = k + 1 + 1
      omega
    · show (combF true k).sz + 1 = k + 1 + 1
      omega
theorem comb_sz (l : Bool) {m : Nat} (h : 1 ≤ m) : (comb l m).sz = m := by
  unfold comb
  rw [combF_sz]
  omega
theorem combL_isL : ∀ (k i j : Nat), isL (combF true k) i j ↔ (i < j ∧ j ≤ k + 1) ∧ (i = 0 ∨ j = i + 1)
  | 0, i, j => by
    show (i = 0 ∧ j = 1) ↔ _
    omega
  | k + 1, i, j => by
    have h := combL_isL k i j
    have hs := combF_sz true k
    show ((i = 0 ∧ j = (combF true k).sz + 1) ∨ isL (combF true k) i j ∨ ((combF true k).sz ≤ i ∧ (i - (combF true k).sz = 0 ∧ j - (combF true k).sz = 1))) ↔ _
    rw [h, hs]
    omega
theorem combR_isL : ∀ (k i j : Nat), isL (combF false k) i j ↔ (i < j ∧ j ≤ k + 1) ∧ (j = k + 1 ∨ j = i + 1)
  | 0, i, j => by
    show (i = 0 ∧ j = 1) ↔ _
    omega
  | k + 1, i, j => by
    have h := combR_isL k (i - 1) (j - 1)
    have hs := combF_sz false k
    show ((i = 0 ∧ j = 1 + (combF false k).sz) ∨ (i = 0 ∧ j = 1) ∨ (1 ≤ i ∧ isL (combF false k) (i - 1) (j - 1))) ↔ _
    rw [h, hs]
    omega

/-! ### the shape of the rest of a plan -/
def shp (P : Pl) : Nat → Nat → Nat → Sh
  | 0, _, _ => .o
  | f + 1, k, m => if m ≤ 1 then .o else match P.stage k with
    | some t => fill (shp P f (k + 1) (cd m (bs t))) (ents t m)
    | none => comb P.isLeft m
theorem shp_sz {P : Pl} (ok : PlOk P) : ∀ (f k m : Nat), 1 ≤ m → m ≤ f → (shp P f k m).sz = m
  | 0, k, m, h1, h2 => by omega
  | f + 1, k, m, h1, h2 => by
    unfold shp
    by_cases e : m ≤ 1
    · rw [if_pos e]
      have : m = 1 := by omega
      rw [this]
      rfl
    · rw [if_neg e]
      cases q : P.stage k with
      | none => exact comb_sz _ h1
      | some t =>
        have ot := ok.stage q
        have c1 := cd_pos m (bs t) ot.two h1
        have c2 := cd_lt m (bs t) ot.two (by omega)
        have ih := shp_sz ok f (k + 1) (cd m (bs t)) c1 (by omega)
        show (fill (shp P f (k + 1) (cd m (bs t))) (ents t m)).sz = m
        rw [fill_sz _ _ (by rw [ih, ents_len]), off_ents_all ot]

/-! ### whether a pair is a lump, by digits -/
def alr (P : Pl) : Nat → Nat → Nat → Nat → Nat → Bool
  | 0, _, _, _, _ => false
  | f + 1, k, n, i, j => if 1 < j - i then match P.stage k with
      | some t => if i / bs t * bs t = (j - 1) / bs t * bs t then
            decide ((i - i / bs t * bs t, j - i / bs t * bs t) ∈ lumps (ent t (min (bs t) (n - i / bs t * bs t))) 0)
          else if i ≠ i / bs t * bs t ∨ (j % bs t ≠ 0 ∧ j ≠ n) then false
          else alr P f (k + 1) (cd n (bs t)) (i / bs t) (cd j (bs t))
      | none => if P.isLeft then decide (i = 0) else decide (j = n)
    else true
theorem stage_isL {P : Pl} (ok : PlOk P) {f k n : Nat} {t : Tb} (ht : TbOk t) (hn : 1 ≤ n) (hf : cd n (bs t) ≤ f) (i j : Nat) :
    isL (fill (shp P f (k + 1) (cd n (bs t))) (ents t n)) i j ↔
      (∃ a b, isL (shp P f (k + 1) (cd n (bs t))) a b ∧ i = min (a * bs t) n ∧ j = min (b * bs t) n) ∨
      ∃ a, a < cd n (bs t) ∧ a * bs t ≤ i ∧ isL (ent t (min (bs t) (n - a * bs t))) (i - a * bs t) (j - a * bs t) := by
  have hs := shp_sz ok f (k + 1) (cd n (bs t)) (cd_pos n (bs t) ht.two hn) hf
  rw [fill_isL _ _ _ _ (by rw [ents_len, hs])]
  constructor
  · rintro (⟨a, b, h, h1, h2⟩ | ⟨a, ha, h1, h2⟩)
    · have hb := isL_lt _ h
      rw [hs] at hb
      rw [off_ents ht n a (by omega)] at h1
      rw [off_ents ht n b (by omega)] at h2
      exact .inl ⟨a, b, h, h1, h2⟩
    · have ha' : a < cd n (bs t) := by
        rw [ents_len] at ha
        exact ha
      have hlo := cd_lo n (bs t) a ht.two ha'
      have eo : off (ents t n) a = a * bs t := by
        rw [off_ents ht n a (by omega)]
        omega
      rw [eo] at h1 h2
      rw [ents_get] at h2
      exact .inr ⟨a, ha', h1, h2⟩
  · rintro (⟨a, b, h, h1, h2⟩ | ⟨a, ha', h1, h2⟩)
    · have hb := isL_lt _ h
      rw [hs] at hb
      exact .inl ⟨a, b, h, by rw [off_ents ht n a (by omega)]; exact h1, by rw [off_ents ht n b (by omega)]; exact h2⟩
    · have hlo := cd_lo n (bs t) a ht.two ha'
      have eo : off (ents t n) a = a * bs t := by
        rw [off_ents ht n a (by omega)]
        omega
      refine .inr ⟨a, by rw [ents_len]; exact ha', by rw [eo]; exact h1, ?_⟩
      rw [eo, ents_get]
      exact h2
theorem div_facts (i b : Nat) (hb : 2 ≤ b) : i / b * b ≤ i ∧ i < i / b * b + b := by
  have h := Nat.div_add_mod i b
  have h2 := Nat.mod_lt i (show 0 < b by omega)
  rw [Nat.mul_comm] at h
  omega
theorem mul_inj {a c b : Nat} (hb : 2 ≤ b) (h : a * b = c * b) : a = c := Nat.eq_of_mul_eq_mul_right (by omega) h
theorem div_of {a i b : Nat} (hb : 2 ≤ b) (h1 : a * b ≤ i) (h2 : i < a * b + b) : i / b = a := by
  have h3 : i < (a + 1) * b := by
    rw [Nat.succ_mul]
    exact h2
  rw [Nat.div_eq_iff (by omega)]
  rw [Nat.succ_mul] at h3
  omega
theorem alr_ok {P : Pl} (ok : PlOk P) : ∀ (f k n i j : Nat), i < j → j ≤ n → n ≤ f → (alr P f k n i j = true ↔ isL (shp P f k n) i j)
  | 0, k, n, i, j, h1, h2, h3 => by omega
  | f + 1, k, n, i, j, h1, h2, h3 => by
    unfold alr
    by_cases hs : 1 < j - i
    · rw [if_pos hs]
      unfold shp
      rw [if_neg (show ¬ n ≤ 1 by omega)]
      cases q : P.stage k with
      | none =>
        obtain ⟨_, he⟩ := ok.nost q
        have en : n = n - 1 + 1 := by omega
        rcases he with he | he
        · have hl : P.isLeft = true := by
            unfold Pl.isLeft
            rw [he]
          rw [hl]
          show decide (i = 0) = true ↔ isL (combF true (n - 1)) i j
          rw [combL_isL, decide_eq_true_iff]
          omega
        · have hl : P.isLeft = false := by
            unfold Pl.isLeft
            rw [he]
          rw [hl]
          show decide (j = n) = true ↔ isL (combF false (n - 1)) i j
          rw [combR_isL, decide_eq_true_iff]
          omega
      | some t =>
        have ht := ok.stage q
        have hb := ht.two
        have c1 := cd_pos n (bs t) hb (by omega)
        have c2 := cd_lt n (bs t) hb (by omega)
        have key := stage_isL ok (f := f) (k := k) (n := n) ht (by omega) (by omega) i j
        obtain ⟨d1, d2⟩ := div_facts i (bs t) hb
        obtain ⟨d3, d4⟩ := div_facts (j - 1) (bs t) hb
        show (if i / bs t * bs t = (j - 1) / bs t * bs t then _ else _) = true ↔ isL (fill (shp P f (k + 1) (cd n (bs t))) (ents t n)) i j
        rw [key]
        by_cases same : i / bs t * bs t = (j - 1) / bs t * bs t
        · rw [if_pos same, decide_eq_true_iff, mem_lumps, Nat.sub_zero, Nat.sub_zero]
          have hlt : i / bs t < cd n (bs t) := cd_gt n (bs t) _ hb (by omega)
          constructor
          · intro h
            exact .inr ⟨i / bs t, hlt, d1, h.2⟩
          · rintro (⟨a, b, h, e1, e2⟩ | ⟨a, ha, h1', h2'⟩)
            · refine ⟨Nat.zero_le _, ?_⟩
              have ei : i = a * bs t := by omega
              have ea : i / bs t = a := div_of hb (by omega) (by omega)
              have hab := (isL_lt _ h).1
              have hab2 : (a + 1) * bs t ≤ b * bs t := Nat.mul_le_mul_right _ hab
              rw [Nat.succ_mul] at hab2
              have ej : j = min (a * bs t + bs t) n := by
                rw [ea] at same d2
                omega
              rw [ea]
              have e3 : i - a * bs t = 0 := by omega
              have e4 : j - a * bs t = min (bs t) (n - a * bs t) := by omega
              rw [e3, e4]
              have hsz := ent_sz ht (m := min (bs t) (n - a * bs t)) (by omega) (by omega)
              have hroot := isL_root (ent t (min (bs t) (n - a * bs t)))
              rw [hsz] at hroot
              exact hroot
            · refine ⟨Nat.zero_le _, ?_⟩
              have hl := isL_lt _ h2'
              rw [ent_sz ht (by have := cd_lo n (bs t) a hb ha; omega) (by omega)] at hl
              have ea : i / bs t = a := div_of hb h1' (by omega)
              rw [ea]
              exact h2'
        · rw [if_neg same]
          have hne : i / bs t ≠ (j - 1) / bs t := fun e => same (by rw [e])
          have hlt2 : i / bs t < (j - 1) / bs t := by
            have : i / bs t ≤ (j - 1) / bs t := Nat.div_le_div_right (by omega)
            omega
          have hstep : (i / bs t + 1) * bs t ≤ (j - 1) / bs t * bs t := Nat.mul_le_mul_right _ hlt2
          rw [Nat.succ_mul] at hstep
          have no2 : ¬ ∃ a, a < cd n (bs t) ∧ a * bs t ≤ i ∧ isL (ent t (min (bs t) (n - a * bs t))) (i - a * bs t) (j - a * bs t) := by
            rintro ⟨a, ha, h1', h2'⟩
            have hl := isL_lt _ h2'
            rw [ent_sz ht (by have := cd_lo n (bs t) a hb ha; omega) (by omega)] at hl
            have ea : i / bs t = a := div_of hb h1' (by omega)
            rw [ea] at hstep d1 d2
            omega
          by_cases bad : i ≠ i / bs t * bs t ∨ (j % bs t ≠ 0 ∧ j ≠ n)
          · rw [if_pos bad]
            constructor
            · intro h
              cases h
            · rintro (⟨a, b, h, e1, e2⟩ | h)
              · exfalso
                have ei : i = a * bs t := by omega
                rcases bad with bd | ⟨bd1, bd2⟩
                · have ea : i / bs t = a := div_of hb (by omega) (by omega)
                  rw [ea] at bd
                  exact bd ei
                · have ej : j = b * bs t := by omega
                  exact bd1 (by rw [ej]; exact Nat.mul_mod_left _ _)
              · exact absurd h no2
          · rw [if_neg bad]
            have ei : i = i / bs t * bs t := by
              rcases Nat.decEq i (i / bs t * bs t) with e | e
              · exact absurd (Or.inl e) bad
              · exact e
            have ej : j % bs t = 0 ∨ j = n := by
              rcases Nat.decEq (j % bs t) 0 with e | e
              · rcases Nat.decEq j n with e' | e'
                · exact absurd (Or.inr ⟨e, e'⟩) bad
                · exact .inr e'
              · exact .inl e
            have cj1 := cd_up j (bs t) hb
            have hij : i / bs t < cd j (bs t) := cd_gt j (bs t) _ hb (by omega)
            have cjn : cd j (bs t) ≤ cd n (bs t) := by
              rcases Nat.lt_or_ge (cd n (bs t)) (cd j (bs t)) with h | h
              · have h5 := cd_lo j (bs t) _ hb h
                have h6 := cd_up n (bs t) hb
                omega
              · exact h
            have ejm : j = min (cd j (bs t) * bs t) n := by
              rcases ej with e | e
              · have hj : bs t * (j / bs t) = j := Nat.mul_div_cancel' (Nat.dvd_of_mod_eq_zero e)
                rw [Nat.mul_comm] at hj
                have h7 : cd j (bs t) ≤ j / bs t := by
                  rcases Nat.lt_or_ge (j / bs t) (cd j (bs t)) with h | h
                  · have := cd_lo j (bs t) _ hb h
                    omega
                  · exact h
                have h8 := Nat.mul_le_mul_right (bs t) h7
                omega
              · rw [← e]
                omega
            have ih := alr_ok ok f (k + 1) (cd n (bs t)) (i / bs t) (cd j (bs t)) hij cjn (by omega)
            rw [ih]
            constructor
            · intro h
              exact .inl ⟨_, _, h, by omega, ejm⟩
            · rintro (⟨a, b, h, e1, e2⟩ | h)
              · have ea : a * bs t = i := by omega
                have ea2 : i / bs t = a := div_of hb (by omega) (by omega)
                have hl := isL_lt _ h
                rw [shp_sz ok f (k + 1) _ c1 (by omega)] at hl
                have eb : cd j (bs t) = b := by
                  have g1 : cd j (bs t) ≤ b := by
                    rcases Nat.lt_or_ge b (cd j (bs t)) with g | g
                    · have := cd_lo j (bs t) _ hb g
                      omega
                    · exact g
                  have g2 : b ≤ cd j (bs t) := by
                    rcases Nat.lt_or_ge (cd j (bs t)) b with g | g
                    · have g3 : cd j (bs t) < cd n (bs t) := by omega
                      have g4 := cd_lo n (bs t) _ hb g3
                      have g5 := Nat.mul_le_mul_right (bs t) g
                      rw [Nat.succ_mul] at g5
                      omega
                    · exact g
                  omega
                rw [ea2, eb]
                exact h
              · exact absurd h no2
    · rw [if_neg hs]
      have ej : j = i + 1 := by omega
      refine ⟨fun _ => ?_, fun _ => rfl⟩
      rw [ej]
      exact isL_one _ (by rw [shp_sz ok _ _ _ (by omega) h3]; omega)
end KL

/-! KLMath3: the row that is pressed gives the same shape; the least lump of two places, and what crosses a pair that is none. -/
namespace KL
open Sh (sz dp lumps isL fill isL_lt isL_root isL_one mem_lumps sz_pos lumps_len lumps_ne)
/-! ### the row pressed -/
def prs (t : Tb) (row : List Sh) : List Sh := (List.range (cd row.length (bs t))).map fun s => fill (ent t ((row.drop (s * bs t)).take (bs t)).length) ((row.drop (s * bs t)).take (bs t))
def toldF (P : Pl) : Nat → Nat → List Sh → Sh
  | 0, _, _ => .o
  | f + 1, k, row => if row.length ≤ 1 then row.headD .o else match P.stage k with
    | some t => toldF P f (k + 1) (prs t row)
    | none => fill (comb P.isLeft row.length) row
theorem prs_len (t : Tb) (row : List Sh) : (prs t row).length = cd row.length (bs t) := by
  unfold prs
  rw [List.length_map, List.length_range]
theorem told_eq {P : Pl} (ok : PlOk P) : ∀ (f k : Nat) (row : List Sh), 1 ≤ row.length → row.length ≤ f → toldF P f k row = fill (shp P f k row.length) row
  | 0, k, row, h1, h2 => by omega
  | f + 1, k, row, h1, h2 => by
    unfold toldF shp
    by_cases e : row.length ≤ 1
    · rw [if_pos e, if_pos e]
      rfl
    · rw [if_neg e, if_neg e]
      cases q : P.stage k with
      | none => rfl
      | some t =>
        have ht := ok.stage q
        have c1 := cd_pos row.length (bs t) ht.two h1
        have c2 := cd_lt row.length (bs t) ht.two (by omega)
        have hs := shp_sz ok f (k + 1) (cd row.length (bs t)) c1 (by omega)
        show toldF P f (k + 1) (prs t row) = fill (fill (shp P f (k + 1) (cd row.length (bs t))) (ents t row.length)) row
        rw [told_eq ok f (k + 1) (prs t row) (by rw [prs_len]; exact c1) (by rw [prs_len]; omega), prs_len,
          fill_fill _ _ _ (by rw [ents_len, hs]) (by rw [off_ents_all ht]), ents_len]
        congr 1
        unfold prs
        refine List.map_congr_left fun a ha => ?_
        have ha' : a < cd row.length (bs t) := List.mem_range.mp ha
        have hlo := cd_lo row.length (bs t) a ht.two ha'
        have eo : off (ents t row.length) a = a * bs t := by
          rw [off_ents ht _ a (by omega)]
          omega
        have hge : a < (ents t row.length).length := by
          rw [ents_len]
          exact ha'
        have eg : (ents t row.length).getD a .o = ent t (min (bs t) (row.length - a * bs t)) := by
          rw [List.getD_eq_getElem?_getD, List.getElem?_eq_getElem hge, Option.getD_some, ents_get]
        have hb := ht.two
        rw [eo, eg, ent_sz ht (by omega) (by omega)]
        have el : ((row.drop (a * bs t)).take (bs t)).length = min (bs t) (row.length - a * bs t) := by
          rw [List.length_take, List.length_drop]
        rw [el]
        congr 1
        rcases Nat.le_total (bs t) (row.length - a * bs t) with h | h
        · rw [Nat.min_eq_left h]
        · rw [Nat.min_eq_right h, List.take_of_length_le (by rw [List.length_drop]; omega), List.take_of_length_le (by rw [List.length_drop]; omega)]
/-- the shape of a plan at n -/
def shape (P : Pl) (n : Nat) : Sh := shp P n 0 n
theorem told_shape {P : Pl} (ok : PlOk P) {n : Nat} (h : 1 ≤ n) : toldF P n 0 (List.replicate n .o) = shape P n := by
  have h1 := told_eq ok n 0 (List.replicate n .o) (by rw [List.length_replicate]; exact h) (by rw [List.length_replicate]; exact Nat.le_refl _)
  rw [h1, List.length_replicate]
  have h2 := shp_sz ok n 0 n h (Nat.le_refl _)
  have h3 := fill_o (shp P n 0 n)
  rw [h2] at h3
  exact h3
theorem shape_sz {P : Pl} (ok : PlOk P) {n : Nat} (h : 1 ≤ n) : (shape P n).sz = n := shp_sz ok n 0 n h (Nat.le_refl _)
theorem alr_shape {P : Pl} (ok : PlOk P) {n i j : Nat} (h1 : i < j) (h2 : j ≤ n) : alr P n 0 n i j = true ↔ (i, j) ∈ lumps (shape P n) 0 := by
  rw [alr_ok ok n 0 n i j h1 h2 (Nat.le_refl _), mem_lumps, Nat.sub_zero, Nat.sub_zero]
  exact ⟨fun h => ⟨Nat.zero_le _, h⟩, fun h => h.2⟩

/-! ### the least lump that has two places -/
def nar : Sh → Nat → Nat → Nat → Nat × Sh
  | .o, one, _, _ => (one, .o)
  | .n l r, one, lo, hi => if lo < one + l.sz ∧ one + l.sz ≤ hi then (one, .n l r) else if hi < one + l.sz then nar l one lo hi else nar r (one + l.sz) lo hi
theorem nar_ok : ∀ (s : Sh) (one lo hi : Nat), one ≤ lo → lo < hi → hi < one + s.sz →
    ∃ x l r, nar s one lo hi = (x, .n l r) ∧ one ≤ x ∧ x ≤ lo ∧ lo < x + l.sz ∧ x + l.sz ≤ hi ∧ hi < x + (l.sz + r.sz) ∧ x + (l.sz + r.sz) ≤ one + s.sz ∧
      isL s (x - one) (x + (l.sz + r.sz) - one) ∧ isL s (x - one) (x + l.sz - one) ∧ isL s (x + l.sz - one) (x + (l.sz + r.sz) - one)
  | .o, one, lo, hi, h1, h2, h3 => by
    have h4 : hi < one + 1 := h3
    omega
  | .n l r, one, lo, hi, h1, h2, h3 => by
    have h4 : hi < one + (l.sz + r.sz) := h3
    have hl := sz_pos l
    have hr := sz_pos r
    unfold nar
    by_cases c : lo < one + l.sz ∧ one + l.sz ≤ hi
    · rw [if_pos c]
      refine ⟨one, l, r, rfl, Nat.le_refl _, h1, c.1, c.2, h4, Nat.le_refl _, ?_, ?_, ?_⟩
      · exact .inl ⟨by omega, by omega⟩
      · have e : one + l.sz - one = l.sz := by omega
        rw [Nat.sub_self, e]
        exact .inr (.inl (isL_root l))
      · have e : one + l.sz - one = l.sz := by omega
        have e2 : one + (l.sz + r.sz) - one = l.sz + r.sz := by omega
        rw [e, e2]
        refine .inr (.inr ⟨Nat.le_refl _, ?_⟩)
        have e3 : l.sz + r.sz - l.sz = r.sz := by omega
        rw [Nat.sub_self, e3]
        exact isL_root r
    · rw [if_neg c]
      by_cases d : hi < one + l.sz
      · rw [if_pos d]
        obtain ⟨x, a, b, e, g1, g2, g3, g4, g5, g6, g7, g8, g9⟩ := nar_ok l one lo hi h1 h2 d
        refine ⟨x, a, b, e, g1, g2, g3, g4, g5, ?_, .inr (.inl g7), .inr (.inl g8), .inr (.inl g9)⟩
        show x + (a.sz + b.sz) ≤ one + (l.sz + r.sz)
        omega
      · rw [if_neg d]
        obtain ⟨x, a, b, e, g1, g2, g3, g4, g5, g6, g7, g8, g9⟩ := nar_ok r (one + l.sz) lo hi (by omega) h2 (by omega)
        have s1 : x - one - l.sz = x - (one + l.sz) := by omega
        have s2 : x + (a.sz + b.sz) - one - l.sz = x + (a.sz + b.sz) - (one + l.sz) := by omega
        have s3 : x + a.sz - one - l.sz = x + a.sz - (one + l.sz) := by omega
        refine ⟨x, a, b, e, by omega, g2, g3, g4, g5, ?_, .inr (.inr ⟨by omega, ?_⟩), .inr (.inr ⟨by omega, ?_⟩), .inr (.inr ⟨by omega, ?_⟩)⟩
        · show x + (a.sz + b.sz) ≤ one + (l.sz + r.sz)
          omega
        · rw [s1, s2]
          exact g7
        · rw [s1, s3]
          exact g8
        · rw [s3, s2]
          exact g9
structure Nd where
  lv : Nat
  one : Nat
  oth : Nat
  form : Option Sh
def leastF (P : Pl) : Nat → Nat → Nat → Nat → Nat → Nd
  | 0, k, _, _, _ => ⟨k, 0, 0, none⟩
  | f + 1, k, m, lo, hi => match P.stage k with
    | some t => if lo / bs t = hi / bs t then
        ⟨k, (nar (ent t (min (bs t) (m - lo / bs t * bs t))) (lo / bs t * bs t) lo hi).1,
          (nar (ent t (min (bs t) (m - lo / bs t * bs t))) (lo / bs t * bs t) lo hi).1 + (nar (ent t (min (bs t) (m - lo / bs t * bs t))) (lo / bs t * bs t) lo hi).2.sz,
          some (nar (ent t (min (bs t) (m - lo / bs t * bs t))) (lo / bs t * bs t) lo hi).2⟩
      else leastF P f (k + 1) (cd m (bs t)) (lo / bs t) (hi / bs t)
    | none => if P.isLeft then ⟨k, 0, hi + 1, none⟩ else ⟨k, lo, m, none⟩
/-- where the two parts of a node meet -/
def Nd.mid (P : Pl) (d : Nd) : Nat := match d.form with
  | some (.n l _) => d.one + l.sz
  | some .o => d.one
  | none => if P.isLeft then d.oth - 1 else d.one + 1
/-- the widths of d stages from the k-th on -/
def bsAt (P : Pl) (k : Nat) : Nat := match P.stage k with
  | some t => bs t
  | none => 1
def wf (P : Pl) : Nat → Nat → Nat
  | _, 0 => 1
  | k, d + 1 => bsAt P k * wf P (k + 1) d
theorem wf_succ (P : Pl) : ∀ d k, wf P k (d + 1) = wf P k d * bsAt P (k + d)
  | 0, k => by
    show bsAt P k * 1 = 1 * bsAt P (k + 0)
    rw [Nat.mul_one, Nat.one_mul, Nat.add_zero]
  | d + 1, k => by
    show bsAt P k * wf P (k + 1) (d + 1) = bsAt P k * wf P (k + 1) d * bsAt P (k + (d + 1))
    rw [wf_succ P d (k + 1), Nat.mul_assoc]
    have e : k + 1 + d = k + (d + 1) := by omega
    rw [e]
/-- what the node says of the shape S of m lumps, U being the width that lies between -/
structure LeastOk (S : Sh) (m lo hi U one mid oth : Nat) : Prop where
  x : one * U ≤ lo
  z1 : lo < mid * U
  z2 : mid * U ≤ hi
  y : hi < oth * U
  all : isL S (one * U) (min (oth * U) m)
  left : isL S (one * U) (mid * U)
  right : isL S (mid * U) (min (oth * U) m)
theorem LeastOk.unit {S : Sh} {m lo hi x z y : Nat} (h1 : x ≤ lo) (h2 : lo < z) (h3 : z ≤ hi) (h4 : hi < y) (h5 : isL S x (min y m)) (h6 : isL S x z) (h7 : isL S z (min y m)) : LeastOk S m lo hi 1 x z y := by
  constructor <;> simp only [Nat.mul_one] <;> assumption
theorem least_ok {P : Pl} (ok : PlOk P) : ∀ (f k m lo hi : Nat), lo < hi → hi < m → m ≤ f →
    ∃ d, (leastF P f k m lo hi).lv = k + d ∧ LeastOk (shp P f k m) m lo hi (wf P k d) (leastF P f k m lo hi).one ((leastF P f k m lo hi).mid P) (leastF P f k m lo hi).oth
  | 0, k, m, lo, hi, h1, h2, h3 => by omega
  | f + 1, k, m, lo, hi, h1, h2, h3 => by
    unfold leastF shp
    rw [if_neg (show ¬ m ≤ 1 by omega)]
    cases q : P.stage k with
    | none =>
      obtain ⟨_, he⟩ := ok.nost q
      have em : m - 1 + 1 = m := by omega
      rcases he with he | he
      · have hl : P.isLeft = true := by
          unfold Pl.isLeft
          rw [he]
        refine ⟨0, by simp [hl], ?_⟩
        simp only [hl, if_true, Nd.mid, wf, Nat.add_sub_cancel, comb]
        have emn : min (hi + 1) m = hi + 1 := by omega
        exact .unit (Nat.zero_le _) h1 (Nat.le_refl _) (Nat.lt_succ_self _) (by rw [emn, combL_isL]; omega) (by rw [combL_isL]; omega) (by rw [emn, combL_isL]; omega)
      · have hl : P.isLeft = false := by
          unfold Pl.isLeft
          rw [he]
        refine ⟨0, by simp [hl], ?_⟩
        simp only [hl, Bool.false_eq_true, if_false, Nd.mid, wf, comb]
        exact .unit (Nat.le_refl _) (Nat.lt_succ_self _) h1 h2 (by rw [Nat.min_self, combR_isL]; omega) (by rw [combR_isL]; omega) (by rw [Nat.min_self, combR_isL]; omega)
    | some t =>
      have ht := ok.stage q
      have hb := ht.two
      have c1 := cd_pos m (bs t) hb (by omega)
      have c2 := cd_lt m (bs t) hb (by omega)
      have key := fun i j => stage_isL ok (f := f) (k := k) (n := m) ht (by omega) (by omega) i j
      obtain ⟨d1, d2⟩ := div_facts lo (bs t) hb
      obtain ⟨d3, d4⟩ := div_facts hi (bs t) hb
      by_cases same : lo / bs t = hi / bs t
      · simp only [if_pos same]
        rw [← same] at d3 d4
        have hlt : lo / bs t < cd m (bs t) := cd_gt m (bs t) _ hb (by omega)
        have hsz := ent_sz ht (m := min (bs t) (m - lo / bs t * bs t)) (by omega) (by omega)
        obtain ⟨x, l, r, e, g1, g2, g3, g4, g5, g6, g7, g8, g9⟩ := nar_ok (ent t (min (bs t) (m - lo / bs t * bs t))) (lo / bs t * bs t) lo hi d1 h1 (by rw [hsz]; omega)
        rw [hsz] at g6
        refine ⟨0, rfl, ?_⟩
        simp only [e, Nd.mid, wf]
        have em : min (x + (Sh.n l r).sz) m = x + (l.sz + r.sz) := by
          show min (x + (l.sz + r.sz)) m = _
          omega
        refine .unit g2 g3 g4 g5 ?_ ?_ ?_
        · rw [em, key]
          exact .inr ⟨_, hlt, g1, g7⟩
        · rw [key]
          exact .inr ⟨_, hlt, g1, g8⟩
        · rw [em, key]
          exact .inr ⟨_, hlt, by omega, g9⟩
      · simp only [if_neg same]
        have hle : lo / bs t ≤ hi / bs t := Nat.div_le_div_right (by omega)
        obtain ⟨d, e1, L⟩ := least_ok ok f (k + 1) (cd m (bs t)) (lo / bs t) (hi / bs t) (by omega) (cd_gt m (bs t) _ hb (by omega)) (by omega)
        refine ⟨d + 1, by omega, ?_⟩
        have eb : bsAt P k = bs t := by
          unfold bsAt
          rw [q]
        have ew : wf P k (d + 1) = wf P (k + 1) d * bs t := by
          show bsAt P k * wf P (k + 1) d = _
          rw [eb, Nat.mul_comm]
        have lift : ∀ a, a * wf P k (d + 1) = a * wf P (k + 1) d * bs t := fun a => by rw [ew, Nat.mul_assoc]
        have up := cd_up m (bs t) hb
        have mm : ∀ a, min (a * bs t) m = min (min a (cd m (bs t)) * bs t) m := fun a => by
          rcases Nat.le_total a (cd m (bs t)) with h | h
          · rw [Nat.min_eq_left h]
          · rw [Nat.min_eq_right h]
            have := Nat.mul_le_mul_right (bs t) h
            omega
        have x1 := Nat.mul_le_mul_right (bs t) L.x
        have z1 := Nat.mul_le_mul_right (bs t) L.z1
        have z2 := Nat.mul_le_mul_right (bs t) L.z2
        have y1 := Nat.mul_le_mul_right (bs t) L.y
        rw [Nat.succ_mul] at z1 y1
        refine ⟨?_, ?_, ?_, ?_, ?_, ?_, ?_⟩
        · rw [lift]
          omega
        · rw [lift]
          omega
        · rw [lift]
          omega
        · rw [lift]
          omega
        · rw [lift, lift, key]
          refine .inl ⟨_, _, L.all, ?_, ?_⟩
          · omega
          · rw [← mm]
        · rw [lift, lift, key]
          refine .inl ⟨_, _, L.left, ?_, ?_⟩
          · omega
          · omega
        · rw [lift, lift, key]
          refine .inl ⟨_, _, L.right, ?_, ?_⟩
          · omega
          · rw [← mm]
/-- the pair that crossing tells of a pair that is no lump -/
def crossF (P : Pl) (n i j : Nat) : Nat × Nat :=
  if (leastF P n 0 n i (j - 1)).one * wf P 0 (leastF P n 0 n i (j - 1)).lv < i then
    ((leastF P n 0 n i (j - 1)).one * wf P 0 (leastF P n 0 n i (j - 1)).lv, min ((leastF P n 0 n i (j - 1)).mid P * wf P 0 (leastF P n 0 n i (j - 1)).lv) n)
  else ((leastF P n 0 n i (j - 1)).mid P * wf P 0 (leastF P n 0 n i (j - 1)).lv, min ((leastF P n 0 n i (j - 1)).oth * wf P 0 (leastF P n 0 n i (j - 1)).lv) n)
theorem cross_ok {P : Pl} (ok : PlOk P) {n i j : Nat} (h1 : i < j) (h2 : j ≤ n) (no : (i, j) ∉ lumps (shape P n) 0) :
    crossF P n i j ∈ lumps (shape P n) 0 ∧ max (crossF P n i j).1 i < min (crossF P n i j).2 j ∧
      (max (crossF P n i j).1 i, min (crossF P n i j).2 j) ≠ crossF P n i j ∧ (max (crossF P n i j).1 i, min (crossF P n i j).2 j) ≠ (i, j) := by
  have big : i < j - 1 := by
    rcases Nat.lt_or_ge i (j - 1) with h | h
    · exact h
    · have e : j = i + 1 := by omega
      refine absurd ((mem_lumps _ _ _ _).mpr ⟨Nat.zero_le _, ?_⟩) no
      rw [Nat.sub_zero, Nat.sub_zero, e]
      exact isL_one _ (by rw [shape_sz ok (by omega)]; omega)
  obtain ⟨d, e, L⟩ := least_ok ok n 0 n i (j - 1) big (by omega) (Nat.le_refl _)
  rw [Nat.zero_add] at e
  have no' : ¬ isL (shp P n 0 n) i j := fun h => no ((mem_lumps _ _ _ _).mpr ⟨Nat.zero_le _, by rw [Nat.sub_zero, Nat.sub_zero]; exact h⟩)
  have mem : ∀ a b, isL (shp P n 0 n) a b → (a, b) ∈ lumps (shape P n) 0 := fun a b h => (mem_lumps _ _ _ _).mpr ⟨Nat.zero_le _, by rw [Nat.sub_zero, Nat.sub_zero]; exact h⟩
  unfold crossF
  rw [e]
  obtain ⟨x, z1, z2, y, all, left, right⟩ := L
  by_cases c : (leastF P n 0 n i (j - 1)).one * wf P 0 d < i
  · rw [if_pos c]
    have em : min ((leastF P n 0 n i (j - 1)).mid P * wf P 0 d) n = (leastF P n 0 n i (j - 1)).mid P * wf P 0 d := by omega
    rw [em]
    refine ⟨mem _ _ left, by show max _ i < min _ j; omega, fun h => ?_, fun h => ?_⟩
    · have := congrArg Prod.fst h
      simp only at this
      omega
    · have := congrArg Prod.snd h
      simp only at this
      omega
  · rw [if_neg c]
    refine ⟨mem _ _ right, by show max _ i < min _ j; omega, fun h => ?_, fun h => ?_⟩
    · have h3 := congrArg Prod.snd h
      simp only at h3
      have e1 : (leastF P n 0 n i (j - 1)).one * wf P 0 d = i := by omega
      have e2 : min ((leastF P n 0 n i (j - 1)).oth * wf P 0 d) n = j := by omega
      rw [e1, e2] at all
      exact no' all
    · have := congrArg Prod.fst h
      simp only at this
      omega
end KL

/-! KLBase: heaps that may be cut down (Good), forgetting what was laid on the way, calls by a bundle (Cal, MCal). -/
namespace KL
open PySem PySem.Spec L2
open PyProof.Rows hiding St

/-- a heap from which nothing that an object leans on is missing -/
structure Good (H : Hp) : Prop where
  dT : ∀ a kvs, H a ≠ some (.dT kvs)
  ins : ∀ a C dx fs, H a = some (.ins C dx fs) → H dx = some (.own a)
  frz : ∀ a o u, H a = some (.frz o u) → ∃ xs, u = .lst xs

theorem obj_sub {P : Program} {w : World} {H2 H' : Hp} {h : Heap} (sub : Same H2 H') (g : Good H2) {a : Addr} {o : HO} (e : H2 a = some o) (ok : ObjOk P w H' h a o) : ObjOk P w H2 h a o := by
  cases o with
  | lst xs => exact ok
  | tup xs => exact ok
  | dK kvs => exact ok
  | dT kvs => exact absurd e (g.dT a kvs)
  | set S n => exact ok
  | ins C dx fs =>
    obtain ⟨_, z2, z3, z4, z5⟩ := ok
    exact ⟨g.ins a C dx fs e, z2, z3, z4, z5⟩
  | own x => exact ok
  | xd fs => exact ok
  | met f x => exact ok
  | rng lo hi => exact ok
  | frz ob u =>
    obtain ⟨xs, rfl⟩ := g.frz a ob u e
    exact ok
  | tbl ps => exact ok
  | ext φ => exact ok
theorem hok_sub {P : Program} {w : World} {H2 H' : Hp} {h : Heap} (sub : Same H2 H') (g : Good H2) (ok : HOk P w H' h) : HOk P w H2 h :=
  fun a o e => obj_sub sub g e (ok a o (sub a o e))
/-- nothing that was tracked is forgotten -/
def Dom (H H2 : Hp) : Prop := ∀ b, H2 b = none → H b = none
theorem Dom.of {H H2 : Hp} (s : Same H H2) : Dom H H2 := fun _ e => s.free e
theorem Dom.trans {H H1 H2 : Hp} (a : Dom H H1) (b : Dom H1 H2) : Dom H H2 := fun c e => a c (b c e)
theorem Dom.upd {H : Hp} {p : Addr} {o : HO} : Dom H (upd H p o) := fun b e => by
  by_cases q : b = p
  · subst q
    rw [upd_same] at e
    cases e
  · rw [upd_ne q] at e
    exact e
theorem Dom.back {H H2 H' : Hp} (d : Dom H H2) (s : Same H2 H') {b : Addr} {o u : HO} (h : H b = some o) (h' : H' b = some u) : H2 b = some u := by
  cases q : H2 b with
  | none =>
    rw [d b q] at h
    cases h
  | some x =>
    have e := s b x q
    rw [h'] at e
    cases e
    rfl
theorem un_sub {fs ex : List Addr} {H H2 H' : Hp} {h h' : Heap} (s1 : Dom H H2) (s2 : Same H2 H') (u : Un fs ex H H' h h') : Un fs ex H H2 h h' where
  keep := u.keep
  slot := u.slot
  free := fun b o e n x => s2.free (u.free b o e n x)
  there := u.there
  tups := fun b xs e => s1.back s2 e (u.tups b xs e)
  frzs := fun b o v e => s1.back s2 e (u.frzs b o v e)
  tbls := fun b ps e => by
    obtain ⟨m, z⟩ := u.tbls b ps e
    exact ⟨m, s1.back s2 e z⟩
section
variable {X : Cx} {pins : List (Addr × Obj)} {σ σ' : St} {H H' : Hp} {s s' : Shared}
/-- what was laid since is forgotten -/
theorem inv_sub (I : Inv X pins σ H s) (J : Inv X pins σ' H' s') (sub : Same H H') (g : Good H) : Inv X pins σ' H s' where
  ok := J.ok
  os := J.os
  bare := J.bare
  base := ⟨J.base.keep, J.base.slot, I.base.free, J.base.there, I.base.tups, I.base.frzs, I.base.tbls⟩
  loc := J.loc
  cell := J.cell
  free := sub.free J.free
  freeC := fun x c e => sub.free (J.freeC x c e)
  pin := fun p hp => by
    obtain ⟨h1, h2, h3⟩ := J.pin p hp
    exact ⟨h1, sub.free h2, h3⟩
  hok := hok_sub sub g J.hok
  len := J.len
end
section
variable {X : Cx} {e : Expr} {te : TE} {tt : TT}
/-- an expression whose way leaves nothing behind that is wanted -/
def tTmp (te : TE) : TE := fun σ H Q => Good H ∧ te σ H fun v H' => Same H H' ∧ Q v H
def ttTmp (tt : TT) : TT := fun σ H Q => Good H ∧ tt σ H fun b H' => Same H H' ∧ Q b H
theorem pe_tmp (h : PE X e te) : PE X e (tTmp te) := by
  refine ⟨fun pins s σ H Q I q => ?_⟩
  refine thn (h.run pins s σ H _ I q.2) fun v s1 hh => ?_
  obtain ⟨x, H1, J, r, sm, q1⟩ := hh
  exact ⟨x, H, inv_sub I J sm q.1, r, q1⟩
theorem pt_tmp (h : PT X e tt) : PT X e (ttTmp tt) := by
  refine ⟨fun pins s σ H Q I q => ?_⟩
  refine thn (h.run pins s σ H _ I q.2) fun v s1 hh => ?_
  obtain ⟨H1, J, sm, q1⟩ := hh
  exact ⟨H, inv_sub I J sm q.1, q1⟩
end

/-! ### a def's end: what is not wanted is forgotten -/
def Fin (H : Hp) (Q : VK) : VK := fun v H' => ∃ H2, Good H2 ∧ Dom H H2 ∧ Same H2 H' ∧ Q v H2
theorem fin0 {H H' : Hp} {Q : VK} {v : V} (g : Good H) (s : Same H H') (q : Q v H) : Fin H Q v H' := ⟨H, g, fun _ e => e, s, q⟩
theorem fin1 {H H' : Hp} {Q : VK} {v : V} (g : Good H') (s : Same H H') (q : Q v H') : Fin H Q v H' := ⟨H', g, Dom.of s, Same.refl H', q⟩
theorem fin2 {H H' : Hp} {Q : VK} {v : V} (g : Good H') (s : Dom H H') (q : Q v H') : Fin H Q v H' := ⟨H', g, s, Same.refl H', q⟩
theorem fin3 {H H2 H' : Hp} {Q : VK} {v : V} (g : Good H2) (s : Dom H H2) (s2 : Same H2 H') (q : Q v H2) : Fin H Q v H' := ⟨H2, g, s, s2, q⟩
section
variable {P : Program} {w : World} {K : PySem.W.Frag} {mg : Str → Option Value} {base : Heap}
theorem fnok_fin {k : Nat} {f : Addr} {fd : FuncData} {ps : List Str} {sp : Sp} (len : ∀ vs H Q E, sp vs H Q E → vs.length = ps.length)
    (F : FnOk P w K mg base CX0 k f fd ps (fun vs H Q E => ∃ Q0, Q = Fin H Q0 ∧ sp vs H Q0 E)) : FnOk P w K mg base CX0 k f fd ps sp := by
  refine ⟨len, fun A outer s H args us vs Q E hr e0 hb hv h => ?_⟩
  refine codeAny_mono (F.run A outer s H args us vs (Fin H Q) E hr e0 hb hv ⟨Q, rfl, h⟩) fun r s' hq => ?_
  cases r with
  | error e => exact hq
  | ok fl =>
    cases fl with
    | ret u =>
      obtain ⟨v, H', os, bare, un, hok, rv, H2, g2, s1, s2, q⟩ := hq
      exact ⟨v, H2, os, bare, un_sub s1 s2 un, hok_sub s2 g2 hok, rv, q⟩
    | next => exact hq
    | brk => exact hq
    | cont => exact hq
end

/-! ### bundles: a def by its name, a method by its class, a class that is made -/
structure DefAt (K : PySem.W.Frag) (mg : Str → Option Value) (x : Str) (st : Stmt) : Prop where
  ex : ∃ f fd, mg x = some (.ref f) ∧ FunD K x x (L2.defArgs st) (L2.defBody st) (L2.defScope st) [] [] f fd
structure MDefAt (K : PySem.W.Frag) (C : Addr) (m qual : Str) (st : Stmt) : Prop where
  ex : ∃ f fd, Meth K C m f ∧ FunD K m qual (L2.defArgs st) (L2.defBody st) (L2.defScope st) [] [] f fd
structure IDefAt (K : PySem.W.Frag) (mg : Str → Option Value) (C : Addr) (x qual : Str) (st : Stmt) : Prop where
  ex : ∃ f fd, Mk K C f ∧ mg x = some (.ref C) ∧ FunD K "__init__" qual (L2.defArgs st) (L2.defBody st) (L2.defScope st) [] [] f fd
section
variable (P : Program) (w : World) (K : PySem.W.Frag) (mg : Str → Option Value) (base : Heap)
structure Cal (x : Str) (k : Nat) (ps : List Str) (sp : Sp) : Prop where
  ex : ∃ f fd, mg x = some (.ref f) ∧ PySem.W.keepIn K (.ref f) = true ∧ Binds K fd ps [] ∧ FnOk P w K mg base CX0 k f fd ps sp
structure MCal (C : Addr) (m : Str) (k : Nat) (ps : List Str) (sp : Sp) : Prop where
  ex : ∃ f fd, Meth K C m f ∧ Binds K fd ps [] ∧ FnOk P w K mg base CX0 k f fd ps sp
structure ICal (C : Addr) (x : Str) (k : Nat) (ps : List Str) (sp : Sp) : Prop where
  ex : ∃ f fd, Mk K C f ∧ mg x = some (.ref C) ∧ Binds K fd ps [] ∧ FnOk P w K mg base CX0 k f fd ps sp
end
section
variable {P : Program} {w : World} {K : PySem.W.Frag} {mg : Str → Option Value} {base : Heap} {C : Addr} {x m qual : Str} {st : Stmt} {k : Nat} {N ps : List Str} {sp : Sp}
abbrev BindsBy (nm qual : Str) (st : Stmt) (ps : List Str) : Prop := ∀ (kV doc pm : Value) (an : Option Addr) (cdv ct : Value) (us : List Value), us.length = ps.length →
  bindArgs (PySem.W.fnOf nm qual (L2.defArgs st) (L2.defBody st) (L2.defScope st) .none kV doc pm an cdv ct) ⟨us, []⟩ = pure (ps.zip us)
abbrev BodyBy (P : Program) (w : World) (K : PySem.W.Frag) (mg : Str → Option Value) (base : Heap) (qual : Str) (st : Stmt) (N : List Str) (k : Nat) (sp : Sp) : Prop :=
  ∀ (f : Addr) (cdv : Value) (A : Around) (outer : List Env) (s : Shared) (H : Hp) (vs : List V) (Q : VK) (E : XK), Room k (A.deeper (envOfC qual (L2.defScope st) s.heap.objs.size f cdv)) → sp vs H Q E →
    ∃ t, PSs (cxOf CX0 P w K mg base N qual (L2.defScope st) f cdv A outer s H E).nox (L2.defBody st) t ∧ t { nx := fun _ H' => Fin H Q .non H', rt := Fin H Q } (start N vs) H
theorem fnok_of {f : Addr} {fd : FuncData} (F : FunD K x qual (L2.defArgs st) (L2.defBody st) (L2.defScope st) [] [] f fd) (S : FnScope N ps (L2.defScope st)) (len : ∀ vs H Q E, sp vs H Q E → vs.length = ps.length)
    (hb : BodyBy P w K mg base qual st N k sp) : FnOk P w K mg base CX0 (k + 1) f fd ps sp := by
  refine fnok_fin len (F.ok S (fun vs H Q E h => ?_) fun cdv A outer s H vs Q E hr h => ?_)
  · obtain ⟨Q0, _, h0⟩ := h
    exact len vs H Q0 E h0
  · obtain ⟨Q0, rfl, h0⟩ := h
    obtain ⟨t, h1, h2⟩ := hb f cdv A outer s H vs Q0 E hr h0
    exact ⟨t, h1.nox, h2⟩
theorem cal_of (D : DefAt K mg x st) (S : FnScope N ps (L2.defScope st)) (bb : BindsBy x x st ps) (len : ∀ vs H Q E, sp vs H Q E → vs.length = ps.length) (hb : BodyBy P w K mg base x st N k sp) : Cal P w K mg base x (k + 1) ps sp := by
  obtain ⟨f, fd, h1, F⟩ := D.ex
  exact ⟨f, fd, h1, F.kp, F.bindsN bb, fnok_of F S len hb⟩
theorem mcal_of (D : MDefAt K C m qual st) (S : FnScope N ps (L2.defScope st)) (bb : BindsBy m qual st ps) (len : ∀ vs H Q E, sp vs H Q E → vs.length = ps.length) (hb : BodyBy P w K mg base qual st N k sp) : MCal P w K mg base C m (k + 1) ps sp := by
  obtain ⟨f, fd, h1, F⟩ := D.ex
  exact ⟨f, fd, h1, F.bindsN bb, fnok_of F S len hb⟩
theorem ical_of (D : IDefAt K mg C x qual st) (S : FnScope N ps (L2.defScope st)) (bb : BindsBy "__init__" qual st ps) (len : ∀ vs H Q E, sp vs H Q E → vs.length = ps.length) (hb : BodyBy P w K mg base qual st N k sp) : ICal P w K mg base C x (k + 1) ps sp := by
  obtain ⟨f, fd, h1, h2, F⟩ := D.ex
  exact ⟨f, fd, h1, h2, F.bindsN bb, fnok_of F S len hb⟩
theorem Cal.imp {sp' : Sp} (c : Cal P w K mg base x k ps sp) (h : ∀ vs H Q E, sp' vs H Q E → sp vs H Q E) : Cal P w K mg base x k ps sp' := by
  obtain ⟨f, fd, h1, h2, h3, h4⟩ := c.ex
  exact ⟨f, fd, h1, h2, h3, h4.imp h⟩
theorem Cal.mono {j : Nat} (c : Cal P w K mg base x k ps sp) (h : k ≤ j) : Cal P w K mg base x j ps sp := by
  obtain ⟨f, fd, h1, h2, h3, h4⟩ := c.ex
  exact ⟨f, fd, h1, h2, h3, h4.mono h⟩
end
/-- what a call's reading asks -/
def tCal (sp : Sp) (t : TA) : TE := fun σ H Q => t σ H fun vs H1 => sp vs H1 Q E0
def tMCal (C : Addr) (m : Str) (sp : Sp) (ta : TE) (t : TA) : TE := fun σ H Q => ta σ H fun x H1 => ∃ a dx fs, x = .ref a ∧ H1 a = some (.ins C dx fs) ∧ fs.lookup m = none ∧ t σ H1 fun vs H2 => sp (x :: vs) H2 Q E0
def tICal (C : Addr) (sp : Sp) (t : TA) : TE := fun σ H Q => t σ H fun vs H1 => ∀ x dx, H1 x = none → H1 dx = none → dx ≠ x →
  sp (.ref x :: vs) (upd (upd H1 dx (.own x)) x (.ins C dx [])) (fun v H2 => v = .non ∧ Q (.ref x) H2) E0
theorem PE.to {X : Cx} {e : Expr} {t t' : TE} (h : PE X e t) (i : ∀ σ H Q, t' σ H Q → t σ H Q) : PE X e t' := ⟨fun pins s σ H Q I q => h.run pins s σ H Q I (i σ H Q q)⟩
section
variable {X : Cx} {x m : Str} {k j : Nat} {ps : List Str} {sp : Sp} {C : Addr} {p pos apos : Pos} {e o : Expr} {es : List Expr} {ta : TE} {t : TA}
theorem pe_cal (c : Cal X.prog X.w X.K X.mg X.base x k ps sp) (hr : Room j X.A) (ha : PA X (e :: es) t) (hj : k ≤ j := by decide) (hg : Gl X x := by rfl) (hdb : (x == ("__debug__" : Str)) = false := by decide)
    (he : starEach (e :: es) X.env = (false, eval e X.env) :: starEach es X.env := by rfl) (hpl : (backTo pos (starEach es X.env)).any (·.1) = false := by rfl) : PE X (.Call (.Name x p) (e :: es) [] pos) (tCal sp t) := by
  obtain ⟨f, fd, h1, h2, h3, h4⟩ := c.ex
  refine PE.to (pe_call h4 (hr.mono hj) hg h1 h2 h3 .nil pass0 ha hdb he hpl) fun σ H Q q => ?_
  have eq : (fun (vs : List V) (H1 : Hp) => sp (vs ++ []) H1 Q E0) = fun vs H1 => sp vs H1 Q E0 := by
    funext vs H1
    rw [List.append_nil]
  show t σ H (fun (vs : List V) (H1 : Hp) => sp (vs ++ []) H1 Q E0)
  rw [eq]
  exact q
theorem pe_mcal {pl : Sem Bool} (c : MCal X.prog X.w X.K X.mg X.base C m k ps sp) (cl : Cls X.K C) (hr : Room j X.A) (ho : PE X o ta) (ha : PA X (e :: es) t) (hj : k ≤ j := by decide)
    (he : starEach (e :: es) X.env = (false, eval e X.env) :: starEach es X.env := by rfl) (hpl : (backTo pos (starEach es X.env)).any (·.1) = false := by rfl)
    (ht : eval (.Call (.Attribute o m apos) (e :: es) [] pos) X.env = (do
      let ov ← eval o X.env
      standAt apos.atName
      let (f, first) ← holding [ov] (getMethod ov m pl)
      callWith pos f first (backTo pos (starEach (e :: es) X.env)) (backToKw pos (keywordEach [] X.env))) := by rfl) : PE X (.Call (.Attribute o m apos) (e :: es) [] pos) (tMCal C m sp ta t) := by
  obtain ⟨f, fd, h1, h3, h4⟩ := c.ex
  refine PE.to (pe_meth ho cl h1 h4 (hr.mono hj) h3 .nil pass0 ha he hpl ht) fun σ H Q q => ?_
  have eq : ∀ x : V, (fun (vs : List V) (H1 : Hp) => sp (x :: (vs ++ [])) H1 Q E0) = fun vs H1 => sp (x :: vs) H1 Q E0 := by
    intro x
    funext vs H1
    rw [List.append_nil]
  show ta σ H fun x H1 => ∃ a dx fs, x = .ref a ∧ H1 a = some (.ins C dx fs) ∧ fs.lookup m = none ∧ t σ H1 fun vs H2 => sp (x :: (vs ++ [])) H2 Q E0
  simp only [eq]
  exact q
theorem pe_mcal0 {pl : Sem Bool} (c : MCal X.prog X.w X.K X.mg X.base C m k ps sp) (cl : Cls X.K C) (hr : Room j X.A) (ho : PE X o ta) (hj : k ≤ j := by decide)
    (ht : eval (.Call (.Attribute o m apos) [] [] pos) X.env = (do
      let ov ← eval o X.env
      standAt apos.atName
      let (f, first) ← holding [ov] (getMethod ov m pl)
      callWith pos f first (backTo pos (starEach [] X.env)) (backToKw pos (keywordEach [] X.env))) := by rfl) : PE X (.Call (.Attribute o m apos) [] [] pos) (tMCal C m sp ta tNil) := by
  obtain ⟨f, fd, h1, h3, h4⟩ := c.ex
  exact pe_meth0 ho cl h1 h4 (hr.mono hj) h3 .nil pass0 ht
theorem pe_ical (c : ICal X.prog X.w X.K X.mg X.base C x k ps sp) (hr : Room j X.A) (ha : PA X (e :: es) t) (hj : k + 1 ≤ j := by decide) (hg : Gl X x := by rfl) (hdb : (x == ("__debug__" : Str)) = false := by decide)
    (he : starEach (e :: es) X.env = (false, eval e X.env) :: starEach es X.env := by rfl) (hpl : (backTo pos (starEach es X.env)).any (·.1) = false := by rfl) : PE X (.Call (.Name x p) (e :: es) [] pos) (tICal C sp t) := by
  obtain ⟨f, fd, h1, h2, h3, h4⟩ := c.ex
  refine PE.to (pe_make h1 h4 (hr.mono hj) hg h2 h3 .nil pass0 ha hdb he hpl) fun σ H Q q => ?_
  have eq : ∀ (y : V) (H3 : Hp) (Q3 : VK) (vs : List V), sp (y :: (vs ++ [])) H3 Q3 E0 = sp (y :: vs) H3 Q3 E0 := by
    intro y H3 Q3 vs
    rw [List.append_nil]
  show t σ H fun vs H1 => ∀ x dx, H1 x = none → H1 dx = none → dx ≠ x → sp (.ref x :: (vs ++ [])) (upd (upd H1 dx (.own x)) x (.ins C dx [])) (fun v H2 => v = .non ∧ Q (.ref x) H2) E0
  simp only [eq]
  exact q
end
end KL

/-! KLRules: rules of one's own: enumerate of a tuple, extend by a tuple, in and not in over tuples of any data, chains of three, repr. -/
namespace PySem
open Sem (wp)
theorem kl_enum_new {v : Value} {o : Obj} {HP : Heap → Prop} (B : Begins v o HP) :
    Meets (Builtin.«enumerate.__new__» ⟨[.type "enumerate", v], []⟩) (fun _ R s => HP s.heap ∧
      R (.ok (.ret (.ref (s.heap.push o).objs.size))) { s with heap := (s.heap.push o).push { cls := .type "enumerate", data := .fields #[.none, .bool false, .ref s.heap.objs.size, rawInt 0, .none, .none] } }) :=
  .of_wp fun prog w A R s h => by
    obtain ⟨hp, g, d, tk, os⟩ := s
    obtain ⟨h1, h⟩ := h
    have hsub := sub_enumerate
    have q1 : ∀ {A' : Around} {E : Value → Shared → Prop} {Q : Value → Shared → Prop}, Q (.ref hp.objs.size) ⟨hp.push o, g, d, tk, os⟩ → wpAny (model prog w) A' (pyIter v) Q E ⟨hp, g, d, tk, os⟩ :=
      fun q => B.iter prog w _ _ ⟨hp, g, d, tk, os⟩ _ h1 q
    wp_walk using q1
    refine wpAny_stack_any fun st => wpAny_pure ?_
    split
    · rename_i c _ _ _ _ _
      cases (c == Value.type "enumerate")
      · wp_walk using q1
        exact ⟨_, rfl, h⟩
      · wp_walk using q1
        exact ⟨_, rfl, h⟩
    · wp_walk using q1
      exact ⟨_, rfl, h⟩
section
variable {prog : Program} {w : World} {A : Around} {E : Value → Shared → Prop} {s : Shared}
theorem kl_enum_call {v : Value} {o : Obj} {HP : Heap → Prop} {Q : Value → Shared → Prop} (B : Begins v o HP) (h1 : HP s.heap)
    (h : ∀ h', IsEnum h' (s.heap.objs.size + 1) s.heap.objs.size 0 .none → h'.get? s.heap.objs.size = some o → h'.objs.size = s.heap.objs.size + 2 →
      (∀ b o, s.heap.get? b = some o → h'.get? b = some o) → Q (.ref (s.heap.objs.size + 1)) { s with heap := h' }) :
    wpAny (model prog w) A (call (.type "enumerate") [v]) Q E s := by
  refine callType_new F.called_enumerate (by decide) (F.typeCall_enumerate_1 _) (F.newCall_enumerate_1 _) (fun obj => F.args_object_init_2 obj _) F.entry_enumerate_new
    (kl_enum_new B) ⟨h1, ?_⟩
  have hz : (s.heap.push o).objs.size = s.heap.objs.size + 1 := Heap.size_push ..
  show _ ∧ _
  rw [hz]
  have he : IsEnum ((s.heap.push o).push { cls := .type "enumerate", data := .fields #[.none, .bool false, .ref s.heap.objs.size, rawInt 0, .none, .none] }) (s.heap.objs.size + 1) s.heap.objs.size 0 .none := by
    have := Heap.get?_push_size (s.heap.push o) (o := { cls := .type "enumerate", data := .fields #[.none, .bool false, .ref s.heap.objs.size, rawInt 0, .none, .none] }) rfl
    rw [hz] at this
    exact this
  exact ⟨⟨_, he, rfl⟩, h _ he (Heap.get?_push_of_some _ (Heap.get?_push_size _ B.free)) (by rw [Heap.size_push, hz]) fun b o x => Heap.get?_push_of_some _ (Heap.get?_push_of_some _ x)⟩
end
end PySem
namespace KL
open PySem PySem.Spec L2
open PyProof.Rows hiding St
/-! ### enumerate(tuple) -/
/-- the tuple at a, each item in a new pair with its number -/
def Itet (K : PySem.W.Frag) (a : Addr) : It :=
  ⟨fun i H => ∃ (xs : List V) (x : V), SqT K H a xs ∧ xs[i]? = some x, fun i H v H' => ∃ T x, v = .ref T ∧ H T = none ∧ H' = upd H T (.tup [.int (i : Nat), x]) ∧ ∀ xs, SqT K H a xs → xs[i]? = some x,
    fun i H => ∃ xs : List V, SqT K H a xs ∧ xs.length = i⟩
theorem turn_enumT {P : Program} {w : World} {K : PySem.W.Frag} {elts : List Expr} {kk : Nat} {tpos : Pos} (a e it : Addr) :
    Turn P w K (.Tuple elts kk tpos) (Itet K a) [e, it] e (fun i h => (∃ old, IsEnum h e it ((i : Nat) : Int) old) ∧ h.IsTupleIter it a i ∧ e ≠ it ∧ e ≠ a ∧ a ≠ it) where
  mem := by simp
  obj := fun i h st b hb => by
    obtain ⟨⟨old, he⟩, ⟨o, ho, hc, hd⟩, _⟩ := st
    have e' : b = e ∨ b = it := by simpa using hb
    rcases e' with rfl | rfl
    · exact ⟨_, he, fun v q => nomatch q⟩
    · refine ⟨o, ho, fun v q => ?_⟩
      rw [hd] at q
      cases q
  keep := fun i h h' st k => by
    obtain ⟨⟨old, he⟩, hi, hne⟩ := st
    exact ⟨⟨old, k e (by simp) _ he⟩, hi.at fun o q => k it (by simp) o q, hne⟩
  item := by
    intro X hP hw hK hc i pins s σ H E I hf st hg
    subst hP hw hK
    obtain ⟨⟨old, he⟩, hit, hne, hea, hai⟩ := st
    obtain ⟨xs, x, hq, hx⟩ := hg
    obtain ⟨its, rv, p, hz⟩ := I.tuple hq
    obtain ⟨u, hu, ru⟩ := rv.get hx
    have hel : e < s.heap.objs.size := Heap.lt_size he
    have hil : it < s.heap.objs.size := by
      obtain ⟨_, q, _⟩ := hit
      exact Heap.lt_size q
    have hlt : i < its.toArray.size := by
      have := (List.getElem?_eq_some_iff.mp hu).1
      simpa using this
    refine wpAny_pyNext_enum_itemD (Draws.tuple (A := X.A.in1) (I.ok.hd hc) it a hai its.toArray) he ⟨hit, p⟩ hlt hne (by simp [hne, hea]) fun y h' tk hy ho st' hT hsz hk => ?_
    have ey : y = u := by
      have e1 : its[i]? = some y := by simpa using hy
      rw [hu] at e1
      exact (Option.some.inj e1).symm
    subst ey
    refine ⟨_, rfl, wpAny_letOwnedTupleGo_enum (s := { s with heap := h', toks := tk + 1 }) ho fun h'' he' sb => ?_⟩
    have hT2 : h''.get? s.heap.objs.size = some { cls := .type "tuple", data := .seq #[.int i tk, y] } := (sb.2 _ (Nat.ne_of_gt hel)).trans hT
    have new : ObjOk X.prog X.w (upd H s.heap.objs.size (.tup [.int (i : Nat), x])) h'' s.heap.objs.size (.tup [.int (i : Nat), x]) :=
      ⟨by show 2 ≤ sizeLine; decide, [.int i tk, y], .cons ⟨_, rfl⟩ (.cons ru .nil), ⟨_, hT2, rfl, _, rfl⟩⟩
    have I1 : Inv X pins σ (upd H s.heap.objs.size (.tup [.int (i : Nat), x])) { s with heap := h'', toks := tk + 1 } :=
      I.turnedNew (ch := [e, it]) (fun b ob hb q => (sb.2 b (fun z => hb (by simp [z]))).trans (hk b ob (fun z => hb (by simp [z])) (fun z => hb (by simp [z])) q)) hf (Nat.le_refl _) new
    refine ⟨.ref s.heap.objs.size, _, I1, rfl, ⟨_, x, rfl, I.hok.fresh (Nat.le_refl _), rfl, fun ys hy => by rw [I.tuple_inj hy hq]; exact hx⟩, ⟨⟨y, ?_⟩, st'.1.at fun o q => (sb.2 it (Ne.symm hne)).trans q, hne, hea, hai⟩, fun b hb => ?_⟩
    · have e1 : ((i + 1 : Nat) : Int) = (i : Int) + 1 := by omega
      rw [e1]
      exact he'
    · have hb' : b < s.heap.objs.size := by
        have e' : b = e ∨ b = it := by simpa using hb
        rcases e' with rfl | rfl
        · exact hel
        · exact hil
      rw [upd_ne (Nat.ne_of_lt hb')]
      exact (hf b hb).1
  done := by
    intro X hP hw hK hc i pins s σ H E I hf st hg
    subst hP hw hK
    obtain ⟨⟨old, he⟩, hit, hne, hea, hai⟩ := st
    obtain ⟨xs, hq, hx⟩ := hg
    obtain ⟨its, rv, p, hz⟩ := I.tuple hq
    obtain ⟨f0, f1, f2, f3, f4, f5⟩ := hf it (by simp)
    have hl := rv.length
    have ei : i = its.toArray.size := by
      simp
      omega
    subst ei
    exact wpAny_pyNext_enum_endD (Draws.tuple (A := X.A.in1) (I.ok.hd hc) it a hai its.toArray) he ⟨hit, p⟩ fun h' eb => ⟨rfl, I.turned (t' := s.toks) (fun b o hb q => eb b o hb q) f0 f1 f3 f4 f5⟩
  self := fun A i s Q E st h => by
    obtain ⟨⟨_, he⟩, _⟩ := st
    exact wpAny_pyIter_enum he h

def iEnumT (K : PySem.W.Frag) (ta : TA) : TI := fun σ H R => ta σ H fun vs H1 => ∃ a xs, vs = [.ref a] ∧ SqT K H1 a xs ∧ R (Itet K a) H1
theorem pi_enumT {X : Cx} {e : Expr} {ta : TA} {p pos tpos : Pos} {elts : List Expr} {kk : Nat} (hg : Gl X "enumerate") (hm : X.mg "enumerate" = none) (ha : PA X [e] ta) (hs : starEach [e] X.env = [(false, eval e X.env)] := by rfl) :
    PI X (.Tuple elts kk tpos) (.Call (.Name "enumerate" p) [e] [] pos) (iEnumT X.K ta) := by
  refine ⟨fun pins s σ H R I h => ?_⟩
  refine Call_ (ld_blt I hg hm boot_enumerate (PyProof.Rows.callWith_type1 (thn (ha.run pos pins s σ H _ I h) fun us s1 hh => ?_) hs rfl))
  obtain ⟨vs, H1, I1, r1, a, xs, ex, hq, q⟩ := hh
  subst ex
  cases r1 with
  | cons r rr =>
    cases rr
    cases r
    obtain ⟨its, rv, p', hz⟩ := I1.tuple hq
    have ht : s1.heap.IsTuple a its.toArray := p'
    refine kl_enum_call (begins_tuple a its.toArray) ht fun h' he hit hsz hk => wpAny_pyIter_enum he ?_
    have I2 : Inv X pins σ H1 { s1 with heap := h' } := I1.kept (t' := s1.toks) hk
    have hal : a < s1.heap.objs.size := p'.lt
    refine ⟨s1.heap.objs.size + 1, [s1.heap.objs.size + 1, s1.heap.objs.size], _, _, H1, rfl, I2, turn_enumT a (s1.heap.objs.size + 1) s1.heap.objs.size,
      ⟨⟨.none, he⟩, ⟨_, hit, rfl, rfl⟩, Nat.succ_ne_self _, fun z => ?_, fun z => ?_⟩, fun b hb => ?_, q⟩
    · exact absurd (show s1.heap.objs.size + 1 < s1.heap.objs.size from z ▸ hal) (by omega)
    · exact absurd (show s1.heap.objs.size < s1.heap.objs.size from z ▸ hal) (Nat.lt_irrefl _)
    · have hle : s1.heap.objs.size ≤ b := by
        have e' : b = s1.heap.objs.size + 1 ∨ b = s1.heap.objs.size := by simpa using hb
        rcases e' with rfl | rfl
        · exact Nat.le_succ _
        · exact Nat.le_refl _
      exact I1.fpOk hle (I1.hok.fresh hle)
/-- a for over enumerate(tuple) -/
theorem for_enumT {K : PySem.W.Frag} {a : Addr} {xs : List V} {g : TG} {tb : TS} {D : Ends} {σ : St} {H : Hp} (Pv : Nat → St → Hp → Prop) (h0 : Pv 0 σ H) (hG : ∀ i σ H, i ≤ xs.length → Pv i σ H → SqT K H a xs)
    (hs : ∀ i x σ H T, xs[i]? = some x → Pv i σ H → H T = none → g (.ref T) σ (upd H T (.tup [.int (i : Nat), x])) fun σ2 H2 => tb { D with nx := Pv (i + 1), ct := Pv (i + 1), bk := D.nx } σ2 H2) (hd : ∀ σ H, Pv xs.length σ H → D.nx σ H) :
    ∃ W : Nat → Nat → St → Hp → Prop, (∃ m, W 0 m σ H) ∧ ∀ i m σ H, W i m σ H →
      ((Itet K a).stop i H ∧ D.nx σ H) ∨ ((Itet K a).go i H ∧ ∃ N : St → Hp → Prop, (∀ σ' H', N σ' H' → ∃ m', m' < m ∧ W (i + 1) m' σ' H') ∧ ∀ x H', (Itet K a).yld i H x H' → g x σ H' fun σ2 H2 => tb { D with nx := N, ct := N, bk := D.nx } σ2 H2) := by
  refine ⟨fun i m σ H => m = xs.length - i ∧ i ≤ xs.length ∧ Pv i σ H, ⟨xs.length, by simp, Nat.zero_le _, h0⟩, ?_⟩
  rintro i m σ H ⟨rfl, hi, p⟩
  have q := hG i σ H hi p
  by_cases hlt : i < xs.length
  · refine .inr ⟨⟨xs, xs[i], q, by simp [hlt]⟩, Pv (i + 1), fun σ' H' p' => ⟨xs.length - (i + 1), by omega, rfl, hlt, p'⟩, fun v H' y => ?_⟩
    obtain ⟨T, x, rfl, hT, rfl, hx⟩ := y
    exact hs i x σ H T (hx xs q) p hT
  · have e : i = xs.length := by omega
    subst e
    exact .inl ⟨⟨xs, q, rfl⟩, hd σ H p⟩
end KL

namespace PySem
open Sem (wp)
open AutoSeq1
theorem kl_extend_tup (l : Addr) (items : Array Value) (n : Nat) (b : Addr) (ob : Obj) (items2 : Array Value) (n2 : Nat) (hc : ob.cls = .type "tuple") (hd : ob.data = .seq items2 n2)
    (hs0 : ¬(!items.isEmpty && Builtin.List.listTooLong (items.size + items2.size)) = true) (hs1 : items.size ≤ sizeLine) (hs2 : items.size + items2.size ≤ sizeLine + 1) :
    Meets (Builtin.«list.extend» ⟨[.ref l, .ref b], []⟩) (fun _ R s => s.heap.get? l = some { cls := .type "list", dict := none, data := .seq items n, slots := #[] } ∧ s.heap.get? b = some ob ∧
      R (.ok (.ret Value.none)) { s with heap := s.heap.update l (Obj.mapSeq fun x => x ++ items2), toks := s.toks }) :=
  .of_wp fun prog w A R s h => by
    obtain ⟨oc, od, dt, sl⟩ := ob
    obtain rfl : oc = .type "tuple" := hc
    obtain rfl : dt = .seq items2 n2 := hd
    obtain ⟨hp, g, d, tk, os⟩ := s
    obtain ⟨hl, hb, h⟩ := h
    have f1 := idx_int
    have f4 := sub_tuple_list
    have f2 := sub_tuple_tuple
    have f5 := sub_list_tuple
    have f3 := sub_list_list
    have hz' : (items ++ items2).size ≤ sizeLine + 1 := by
      rw [Array.size_append]
      exact hs2
    wp_walk using (wpAny_updateSeq hl rfl (hz := hs1) (_hz' := hz')), wpAny_loadPart' hl, wpAny_loadPart' hb
    exact ⟨_, rfl, h⟩
end PySem
namespace KL
open PySem PySem.Spec L2
open PyProof.Rows hiding St
section
variable {X : Cx}
/-- xs.extend(t), t a tuple -/
def rExtT (K : PySem.W.Frag) : V → List V → Hp → VK → Prop := fun x vs H Q => ∃ l b xs zs, x = .ref l ∧ vs = [.ref b] ∧ H l = some (.lst xs) ∧ SqT K H b zs ∧ xs.length + zs.length ≤ sizeLine ∧ Q .non (upd H l (.lst (xs ++ zs)))
theorem mt_extendT : MtM X "list.extend" (rExtT X.K) := by
  intro pins s σ H x vs v us Q I rx rv h
  obtain ⟨l, b, xs, zs, rfl, rfl, hH, hB, hz, q⟩ := h
  cases rx
  obtain ⟨u, rfl, ru⟩ := rv.one
  cases ru
  obtain ⟨z, its, n, r, hl, e⟩ := I.lstM hH
  obtain ⟨its2, r2, ⟨ob, e2, c2, n2, d2⟩, z2⟩ := I.tuple hB
  have hl2 := r2.length
  have hsz : its.toArray.size + its2.toArray.size ≤ sizeLine := by
    rw [List.size_toArray, List.size_toArray]
    omega
  have hlong : ¬ (!its.toArray.isEmpty && Builtin.List.listTooLong (its.toArray.size + its2.toArray.size)) = true := by
    rw [notLongL hsz, Bool.and_false]
    exact Bool.false_ne_true
  refine call_meets F.slot_list_extend ⟨_, e, rfl⟩ F.entry_list_extend (F.args_list_extend_2 _ _)
    (kl_extend_tup l its.toArray n b ob its2.toArray n2 c2 d2 hlong (by rw [List.size_toArray]; omega) (by omega)) ⟨e, e2, ?_⟩
  refine ⟨.non, _, I.lset (its' := its ++ its2) hH e (by simp) (r.append r2) ?_, rfl, q⟩
  rw [List.length_append]
  omega
/-- x in t, x not in t, t a tuple of any data -/
def rInT (K : PySem.W.Frag) : R2 := fun x y H Q => ∃ d ds, Dp K H x d ∧ Dp K H y (.tuple ds) ∧ SeqAt.shaped d = true ∧ SeqAt.shaped (.tuple ds) = true ∧ Q (.bl (ds.any fun z => PyData.eqv z d)) H
def rNotInT (K : PySem.W.Frag) : R2 := fun x y H Q => ∃ d ds, Dp K H x d ∧ Dp K H y (.tuple ds) ∧ SeqAt.shaped d = true ∧ SeqAt.shaped (.tuple ds) = true ∧ Q (.bl (!ds.any fun z => PyData.eqv z d)) H
theorem op_inT (hu : X.A.units + 65 < cLine) : OpR X (compareOp .In) (rInT X.K) := by
  intro pins s σ H x y v u Q I rx ry h
  obtain ⟨d, ds, hd, he, sd, se, q⟩ := h
  obtain ⟨as, r1⟩ := Dp.reads I d x v hd rx
  obtain ⟨bs, r2⟩ := Dp.reads I (.tuple ds) y u he ry
  exact SeqAt.in_tuple_reads r2 r1 (SeqAt.canLay_of_shaped se) (SeqAt.canLay_of_shaped sd) (room_in_shaped sd hu) ⟨.bl _, H, I, rfl, q⟩
theorem op_notInT (hu : X.A.units + 65 < cLine) : OpR X (compareOp .NotIn) (rNotInT X.K) := by
  intro pins s σ H x y v u Q I rx ry h
  obtain ⟨d, ds, hd, he, sd, se, q⟩ := h
  obtain ⟨as, r1⟩ := Dp.reads I d x v hd rx
  obtain ⟨bs, r2⟩ := Dp.reads I (.tuple ds) y u he ry
  exact SeqAt.notIn_tuple_reads r2 r1 (SeqAt.canLay_of_shaped se) (SeqAt.canLay_of_shaped sd) (room_in_shaped sd hu) ⟨.bl _, H, I, rfl, q⟩
/-- repr of a bool -/
def rReprB : List V → Hp → VK → Prop := fun xs H Q => ∃ b, xs = [.bl b] ∧ Q (.str (if b then "True" else "False")) H
theorem call_reprB : CallR X (.builtin "repr") rReprB := by
  intro pins s σ H xs us Q I r h
  obtain ⟨b, rfl, q⟩ := h
  obtain ⟨u, rfl, ru⟩ := vals1 r
  cases (show u = Value.bool b from ru)
  refine PySem.P.repr_of_bool ⟨.str _, H, I.tok _, ⟨_, rfl⟩, ?_⟩
  cases b
  · exact q
  · exact q
/-- repr of a list or a tuple of data, where no repr is under way -/
def rReprD (K : PySem.W.Frag) : List V → Hp → VK → Prop := fun xs H Q => ∃ a d, xs = [.ref a] ∧ Dp K H (.ref a) d ∧ d.showable = true ∧ d.hasDict = false ∧ d.depth ≤ 64 ∧ d.shown.length ≤ sizeLine ∧ Q (.str d.shown) H
theorem call_reprD (hg : X.A.guards = some []) (hu : X.A.units + 66 < cLine) : CallR X (.builtin "repr") (rReprD X.K) := by
  intro pins s σ H xs us Q I r h
  obtain ⟨a, d, rfl, hd, h1, h2, h3, h4, q⟩ := h
  obtain ⟨u, rfl, ru⟩ := vals1 r
  obtain ⟨as, rd⟩ := Dp.reads I d (.ref a) u hd ru
  cases (show u = Value.ref a from ru)
  refine repr_of_reads' rd h1 (fun z => ?_) hg (by omega) (fun b o e => e) (fun h' tk k hk => ⟨.str d.shown, H, I.kept (t' := k) hk, ⟨tk, rfl⟩, q⟩) h4
  rw [h2] at z
  cases z
end
/-- a op1 b op2 c op3 d as a test -/
def ttChain3 (r r' r'' : R2) (ta tb tc td : TE) : TT := fun σ H Q => ta σ H fun x H1 => tb σ H1 fun y H2 => r x y H2 fun z H3 => ∃ k, z = .bl k ∧
  (if k = true then tc σ H3 fun w H4 => r' y w H4 fun z' H5 => ∃ k', z' = .bl k' ∧ (if k' = true then td σ H5 fun u H6 => r'' w u H6 fun z'' H7 => ∃ k'', z'' = .bl k'' ∧ Q k'' H7 else Q false H5) else Q false H3)
theorem pt_chain3 {X : Cx} {a b c d : Expr} {ta tb tc td : TE} {pos : Pos} {op op' op'' : CmpOp} {r r' r'' : R2} (ho : OpR X (compareOp op) r) (ho' : OpR X (compareOp op') r') (ho'' : OpR X (compareOp op'') r'') (ha : PE X a ta) (hb : PE X b tb) (hc : PE X c tc) (hd : PE X d td)
    (hm : lastMarks [op, op', op''] [b, c, d] = false := by with_unfolding_all rfl) : PT X (.Compare a [op, op', op''] [b, c, d] pos) (ttChain3 r r' r'' ta tb tc td) := by
  refine ⟨fun pins s σ H Q I h => ?_⟩
  refine isTrue_chain (thn (ha.run pins s σ H _ I h) fun v s1 hh => ?_) hm
  obtain ⟨x, H1, I1, r1, q1⟩ := hh
  refine test_link (thn (hb.run pins s1 σ H1 _ I1 q1) fun u s2 hh => ?_)
  obtain ⟨y, H2, I2, r2, q2⟩ := hh
  refine thn (ho pins s2 σ H2 x y v u _ I2 r1 r2 q2) fun e1 s3 hh => ?_
  obtain ⟨z, H3, I3, r3, k, ek, q3⟩ := hh
  subst ek
  cases r3
  refine wpAny_truthy_bool ?_
  cases k with
  | false => exact ite_ff ⟨H3, I3, q3⟩
  | true =>
    refine ite_tt (test_link (thn (hc.run pins s3 σ H3 _ I3 q3) fun u2 s4 hh => ?_))
    obtain ⟨w', H4, I4, r4, q4⟩ := hh
    refine thn (ho' pins s4 σ H4 y w' u u2 _ I4 r2 r4 q4) fun e2 s5 hh => ?_
    obtain ⟨z', H5, I5, r5, k', ek', q5⟩ := hh
    subst ek'
    cases r5
    refine wpAny_truthy_bool ?_
    cases k' with
    | false => exact ite_ff ⟨H5, I5, q5⟩
    | true =>
      refine ite_tt (test_last (thn (hd.run pins s5 σ H5 _ I5 q5) fun u3 s6 hh => ?_))
      obtain ⟨w'', H6, I6, r6, q6⟩ := hh
      refine thn (ho'' pins s6 σ H6 w' w'' u2 u3 _ I6 r4 r6 q6) fun e3 s7 hh => ?_
      obtain ⟨z'', H7, I7, r7, k'', ek'', q7⟩ := hh
      subst ek''
      cases r7
      exact wpAny_truthy_bool ⟨H7, I7, q7⟩
end KL

/-! KLData: how shapes, tables, plans stand in a heap; good heaps; the tests against the empty tuple and the empty list. -/
namespace KL
open PySem PySem.Spec L2
open PyProof.Rows hiding St

/-! ### heaps -/
theorem Good.upd {H : Hp} {p : Addr} {o : HO} (g : Good H) (hn : ∀ x, H p ≠ some (.own x)) (h1 : ∀ kvs, o ≠ .dT kvs) (h2 : ∀ C dx fs, o = .ins C dx fs → dx ≠ p ∧ H dx = some (.own p)) (h3 : ∀ ob u, o = .frz ob u → ∃ xs, u = .lst xs) : Good (upd H p o) where
  dT := fun a kvs e => by
    by_cases q : a = p
    · subst q
      rw [upd_same] at e
      exact h1 kvs (Option.some.inj e)
    · rw [upd_ne q] at e
      exact g.dT a kvs e
  ins := fun a C dx fs e => by
    by_cases q : a = p
    · subst q
      rw [upd_same] at e
      obtain ⟨z1, z2⟩ := h2 C dx fs (Option.some.inj e)
      rw [upd_ne z1]
      exact z2
    · rw [upd_ne q] at e
      have e2 := g.ins a C dx fs e
      rw [upd_ne (fun z => hn a (by rw [← z]; exact e2))]
      exact e2
  frz := fun a ob u e => by
    by_cases q : a = p
    · subst q
      rw [upd_same] at e
      exact h3 ob u (Option.some.inj e)
    · rw [upd_ne q] at e
      exact g.frz a ob u e
theorem noown {H : Hp} {p : Addr} (h : H p = none) : ∀ x, H p ≠ some (.own x) := fun x e => by
  rw [h] at e
  cases e
theorem Good.lst {H : Hp} {p : Addr} {xs : List V} (g : Good H) (h : H p = none) : Good (L2.upd H p (.lst xs)) := g.upd (noown h) (fun _ z => nomatch z) (fun _ _ _ z => nomatch z) (fun _ _ z => nomatch z)
theorem Good.tup {H : Hp} {p : Addr} {xs : List V} (g : Good H) (h : H p = none) : Good (L2.upd H p (.tup xs)) := g.upd (noown h) (fun _ z => nomatch z) (fun _ _ _ z => nomatch z) (fun _ _ z => nomatch z)
theorem Good.dK {H : Hp} {p : Addr} {kvs : List (Key × V)} (g : Good H) (h : H p = none) : Good (L2.upd H p (.dK kvs)) := g.upd (noown h) (fun _ z => nomatch z) (fun _ _ _ z => nomatch z) (fun _ _ z => nomatch z)
theorem Good.lst' {H : Hp} {p : Addr} {xs ys : List V} (g : Good H) (h : H p = some (.lst ys)) : Good (L2.upd H p (.lst xs)) := g.upd (fun x e => by rw [h] at e; cases e) (fun _ z => nomatch z) (fun _ _ _ z => nomatch z) (fun _ _ z => nomatch z)
theorem Good.dK' {H : Hp} {p : Addr} {kvs ls : List (Key × V)} (g : Good H) (h : H p = some (.dK ls)) : Good (L2.upd H p (.dK kvs)) := g.upd (fun x e => by rw [h] at e; cases e) (fun _ z => nomatch z) (fun _ _ _ z => nomatch z) (fun _ _ z => nomatch z)
theorem Good.ins' {H : Hp} {p C dx : Addr} {fs gs : List (Str × V)} (g : Good H) (h : H p = some (.ins C dx gs)) : Good (L2.upd H p (.ins C dx fs)) :=
  g.upd (fun x e => by rw [h] at e; cases e) (fun _ z => nomatch z) (fun C' dx' fs' z => by
    cases z
    have e := g.ins p C dx gs h
    exact ⟨(fun q => by rw [q, h] at e; cases e), e⟩) (fun _ _ z => nomatch z)
theorem Good.made {H : Hp} {x dx C : Addr} (g : Good H) (h1 : H x = none) (h2 : H dx = none) (ne : dx ≠ x) : Good (L2.upd (L2.upd H dx (.own x)) x (.ins C dx [])) := by
  refine Good.upd (Good.upd g (noown h2) (fun _ z => nomatch z) (fun _ _ _ z => nomatch z) (fun _ _ z => nomatch z)) (fun y e => ?_) (fun _ z => nomatch z) (fun C' dx' fs' z => ?_) (fun _ _ z => nomatch z)
  · rw [upd_ne (Ne.symm ne), h1] at e
    cases e
  · cases z
    exact ⟨ne, upd_same⟩
theorem same_new {H : Hp} {p : Addr} {o : HO} (h : H p = none) : Same H (upd H p o) := fun b u q => by
  rw [upd_ne (ne_of_none q h)]
  exact q
theorem Same.upd {H H' : Hp} {p : Addr} {o : HO} (s : Same H H') (h : H p = none) : Same H (L2.upd H' p o) := fun b u q => by
  rw [upd_ne (ne_of_none q h)]
  exact s b u q
/-- the source's two objects, at d and c, may have changed; all else stands -/
def Keep (d c : Addr) (H H' : Hp) : Prop := ∀ b o, H b = some o → b ≠ d → b ≠ c → H' b = some o
theorem Keep.refl {d c : Addr} {H : Hp} : Keep d c H H := fun _ _ h _ _ => h
theorem Keep.trans {d c : Addr} {H H1 H2 : Hp} (a : Keep d c H H1) (b : Keep d c H1 H2) : Keep d c H H2 := fun x o h h1 h2 => b x o (a x o h h1 h2) h1 h2
theorem Keep.of {d c : Addr} {H H' : Hp} (s : Same H H') : Keep d c H H' := fun b o h _ _ => s b o h
/-- the tuples stand -/
def TM (H H' : Hp) : Prop := ∀ a xs, H a = some (.tup xs) → H' a = some (.tup xs)
theorem TM.refl {H : Hp} : TM H H := fun _ _ h => h
theorem TM.trans {H H1 H2 : Hp} (a : TM H H1) (b : TM H1 H2) : TM H H2 := fun x o h => b x o (a x o h)
theorem TM.of {H H' : Hp} (s : Same H H') : TM H H' := fun a xs h => s a _ h
theorem TM.new {H : Hp} {p : Addr} {o : HO} (h : H p = none) : TM H (upd H p o) := TM.of (same_new h)
theorem TM.lst {H : Hp} {p : Addr} {o : HO} {xs : List V} (h : H p = some (.lst xs)) : TM H (upd H p o) := fun a ys q => by
  rw [upd_ne (ne_of q h (by intro z; cases z))]
  exact q
theorem TM.dK {H : Hp} {p : Addr} {o : HO} {xs : List (Key × V)} (h : H p = some (.dK xs)) : TM H (upd H p o) := fun a ys q => by
  rw [upd_ne (ne_of q h (by intro z; cases z))]
  exact q

/-! ### shapes, tables, ends -/
def ShV (H : Hp) : V → Sh → Prop
  | v, .o => ∃ a, v = .ref a ∧ H a = some (.tup [])
  | v, .n l r => ∃ a x y, v = .ref a ∧ H a = some (.tup [x, y]) ∧ ShV H x l ∧ ShV H y r
theorem ShV.mono {H H' : Hp} (t : TM H H') : ∀ {s : Sh} {v : V}, ShV H v s → ShV H' v s
  | .o, v, h => by
    obtain ⟨a, e, h1⟩ := h
    exact ⟨a, e, t _ _ h1⟩
  | .n l r, v, h => by
    obtain ⟨a, x, y, e, h1, h2, h3⟩ := h
    exact ⟨a, x, y, e, t _ _ h1, ShV.mono t h2, ShV.mono t h3⟩
theorem Paired.imp {α β : Type} {F G : α → β → Prop} (f : ∀ a b, F a b → G a b) : ∀ {xs : List α} {ys : List β}, Paired F xs ys → Paired G xs ys
  | _, _, .nil => .nil
  | _, _, .cons r t => .cons (f _ _ r) (Paired.imp f t)
theorem Paired.at' {α β : Type} {F : α → β → Prop} : ∀ {xs : List α} {ys : List β} {i : Nat} {x : α}, Paired F xs ys → xs[i]? = some x → ∃ y, ys[i]? = some y ∧ F x y
  | _, _, _, _, .nil, e => by simp at e
  | _, _, 0, _, .cons r _, e => by
    simp at e
    subst e
    exact ⟨_, rfl, r⟩
  | _, _, i + 1, x, .cons _ t, e => by
    obtain ⟨u, h1, h2⟩ := Paired.at' (i := i) (x := x) t (by simpa using e)
    exact ⟨u, by simpa using h1, h2⟩
theorem Paired.atr {α β : Type} {F : α → β → Prop} : ∀ {xs : List α} {ys : List β} {i : Nat} {y : β}, Paired F xs ys → ys[i]? = some y → ∃ x, xs[i]? = some x ∧ F x y
  | _, _, _, _, .nil, e => by simp at e
  | _, _, 0, _, .cons r _, e => by
    simp at e
    subst e
    exact ⟨_, rfl, r⟩
  | _, _, i + 1, x, .cons _ t, e => by
    obtain ⟨u, h1, h2⟩ := Paired.atr (i := i) (y := x) t (by simpa using e)
    exact ⟨u, by simpa using h1, h2⟩
theorem Paired.app {α β : Type} {F : α → β → Prop} : ∀ {xs xs' : List α} {ys ys' : List β}, Paired F xs ys → Paired F xs' ys' → Paired F (xs ++ xs') (ys ++ ys')
  | _, _, _, _, .nil, s => s
  | _, _, _, _, .cons r t, s => .cons r (Paired.app t s)
theorem Paired.take' {α β : Type} {F : α → β → Prop} : ∀ (n : Nat) {xs : List α} {ys : List β}, Paired F xs ys → Paired F (xs.take n) (ys.take n)
  | 0, _, _, _ => .nil
  | _ + 1, _, _, .nil => .nil
  | n + 1, _, _, .cons r t => .cons r (Paired.take' n t)
theorem Paired.drop' {α β : Type} {F : α → β → Prop} : ∀ (n : Nat) {xs : List α} {ys : List β}, Paired F xs ys → Paired F (xs.drop n) (ys.drop n)
  | 0, _, _, r => r
  | _ + 1, _, _, .nil => .nil
  | n + 1, _, _, .cons _ t => Paired.drop' n t
def TbV (H : Hp) (v : V) (t : Tb) : Prop := ∃ a xs, v = .ref a ∧ H a = some (.tup xs) ∧ Paired (ShV H) xs t
def TsV (H : Hp) (v : V) (ts : List Tb) : Prop := ∃ a xs, v = .ref a ∧ H a = some (.tup xs) ∧ Paired (TbV H) xs ts
def EnV (H : Hp) (v : V) : En → Prop
  | .left => v = .str "left"
  | .right => v = .str "right"
  | .round ts => TsV H v ts
section
variable {H H' : Hp} {v : V} {t : Tb} {ts : List Tb} {e : En}
theorem TbV.mono (m : TM H H') (h : TbV H v t) : TbV H' v t := by
  obtain ⟨a, xs, e, h1, h2⟩ := h
  exact ⟨a, xs, e, m _ _ h1, Paired.imp (fun _ _ q => ShV.mono m q) h2⟩
theorem TsV.mono (m : TM H H') (h : TsV H v ts) : TsV H' v ts := by
  obtain ⟨a, xs, e, h1, h2⟩ := h
  exact ⟨a, xs, e, m _ _ h1, Paired.imp (fun _ _ q => TbV.mono m q) h2⟩
theorem EnV.mono (m : TM H H') (h : EnV H v e) : EnV H' v e := by
  cases e with
  | left => exact h
  | right => exact h
  | round ts => exact TsV.mono m h
end
/-! ### as data -/
def Sh.d : Sh → PyData
  | .o => .tuple []
  | .n l r => .tuple [l.d, r.d]
theorem Sh.lay : ∀ s : Sh, s.d.canLay0 = true
  | .o => by simp [Sh.d, PyData.canLay0, PyData.canLayAll0]
  | .n l r => by simp [Sh.d, PyData.canLay0, PyData.canLayAll0, Sh.lay l, Sh.lay r]
theorem Sh.ddp : ∀ s : Sh, s.d.depth = s.dp + 1
  | .o => by simp [Sh.d, PyData.depth, PyData.depthAll, Sh.dp]
  | .n l r => by
    simp only [Sh.d, PyData.depth, PyData.depthAll, Sh.dp, Sh.ddp l, Sh.ddp r]
    omega
theorem shaped_of {d : PyData} (h1 : d.canLay0 = true) (h2 : d.depth ≤ 64) : SeqAt.shaped d = true := by
  unfold SeqAt.shaped
  rw [h1, decide_eq_true h2]
  rfl
theorem Sh.shaped {s : Sh} (h : s.dp ≤ 60) : SeqAt.shaped s.d = true := shaped_of s.lay (by rw [s.ddp]; omega)
theorem ShV.dat {K : PySem.W.Frag} {H : Hp} : ∀ {s : Sh} {v : V}, ShV H v s → Dp K H v s.d
  | .o, v, h => by
    obtain ⟨a, rfl, h1⟩ := h
    exact .tup (SqT.of h1) .nil
  | .n l r, v, h => by
    obtain ⟨a, x, y, rfl, h1, h2, h3⟩ := h
    exact .tup (SqT.of h1) (.cons (ShV.dat h2) (.cons (ShV.dat h3) .nil))
theorem eqv_o (s : Sh) : PyData.eqv s.d (.tuple []) = decide (s = .o) := by
  cases s with
  | o => rfl
  | n l r => rfl
theorem lays : ∀ ss : List Sh, PyData.canLayAll0 (ss.map Sh.d) = true
  | [] => rfl
  | s :: r => by
    show (s.d.canLay0 && PyData.canLayAll0 (r.map Sh.d)) = true
    rw [s.lay, lays r]
    rfl
theorem depths {n : Nat} : ∀ {ss : List Sh}, (∀ s ∈ ss, s.dp ≤ n) → PyData.depthAll (ss.map Sh.d) ≤ n + 1
  | [], _ => Nat.zero_le _
  | s :: r, h => by
    show max s.d.depth (PyData.depthAll (r.map Sh.d)) ≤ n + 1
    have h1 := h s (List.mem_cons_self ..)
    have h2 := depths (ss := r) fun x hx => h x (List.mem_cons_of_mem _ hx)
    rw [s.ddp]
    omega
theorem ShVs.dat {K : PySem.W.Frag} {H : Hp} : ∀ {xs : List V} {ss : List Sh}, Paired (ShV H) xs ss → DpAll K H xs (ss.map Sh.d)
  | _, _, .nil => .nil
  | _, _, .cons r t => .cons (ShV.dat r) (ShVs.dat t)

/-! ### tests against () and [] -/
section
variable {X : Cx} {a : Expr} {ta : TE} {p pos : Pos} {k : Nat}
/-- x == (), x a shape -/
def ttIsO (ta : TE) : TT := fun σ H Q => ta σ H fun x H1 => Good H1 ∧ ∃ s, ShV H1 x s ∧ s.dp ≤ 60 ∧ Q (decide (s = Sh.o)) H1
def ttNotO (ta : TE) : TT := fun σ H Q => ta σ H fun x H1 => Good H1 ∧ ∃ s, ShV H1 x s ∧ s.dp ≤ 60 ∧ Q (!decide (s = Sh.o)) H1
/-- a comparison whose way is forgotten: R says what is asked of the left value -/
theorem cmp_tmp {op : CmpOp} {r : R2} {b : Expr} {tb : TE} {R : V → St → Hp → (Bool → Hp → Prop) → Prop} (ho : OpR X (compareOp op) r) (ha : PE X a ta) (hb : PE X b tb) (hm : behindInMarks op b = false)
    (hR : ∀ x σ H Q, R x σ H Q → Good H ∧ tb σ H fun y H2 => r x y H2 fun z H3 => ∃ c, z = .bl c ∧ Same H H3 ∧ Q c H) :
    PT X (.Compare a [op] [b] pos) (fun σ H Q => ta σ H fun x H1 => R x σ H1 Q) := by
  refine ⟨fun pins s σ H Q I h => ?_⟩
  refine wpAny_isTrue_Compare1 (thn (ha.run pins s σ H _ I h) fun v s1 hh => ?_) hm
  obtain ⟨x, H1, I1, r1, qR⟩ := hh
  obtain ⟨g, q1⟩ := hR x σ H1 Q qR
  refine thn (hb.run pins s1 σ H1 _ I1 q1) fun u s2 hh => ?_
  obtain ⟨y, H2, I2, r2, q2⟩ := hh
  refine thn (ho pins s2 σ H2 x y v u _ I2 r1 r2 q2) fun c s3 hh => ?_
  obtain ⟨z, H3, I3, r3, c', e, sm, q3⟩ := hh
  subst e
  cases r3
  exact wpAny_truthy_bool ⟨H1, inv_sub I1 I3 sm g, q3⟩
theorem pt_isO {k2 : Nat} (hu : X.A.units + 64 < cLine) (ha : PE X a ta) : PT X (.Compare a [.Eq] [.Tuple [] k2 p] pos) (ttIsO ta) := by
  refine cmp_tmp (op_eqD hu) ha (pe_tup pa_nil) (nomark _) fun x σ H Q h => ?_
  obtain ⟨g, s, hs, hd, q⟩ := h
  refine ⟨g, by show 0 ≤ sizeLine; decide, fun p hp => ⟨s.d, .tuple [], ShV.dat (ShV.mono (TM.new hp) hs), .tup (SqT.of upd_same) .nil, Sh.shaped hd, rfl, _, rfl, same_new hp, ?_⟩⟩
  rw [eqv_o]
  exact q
theorem pt_notO {k2 : Nat} (hu : X.A.units + 64 < cLine) (ha : PE X a ta) : PT X (.Compare a [.NotEq] [.Tuple [] k2 p] pos) (ttNotO ta) := by
  refine cmp_tmp (op_neD hu) ha (pe_tup pa_nil) (nomark _) fun x σ H Q h => ?_
  obtain ⟨g, s, hs, hd, q⟩ := h
  refine ⟨g, by show 0 ≤ sizeLine; decide, fun p hp => ⟨s.d, .tuple [], ShV.dat (ShV.mono (TM.new hp) hs), .tup (SqT.of upd_same) .nil, Sh.shaped hd, rfl, _, rfl, same_new hp, ?_⟩⟩
  rw [eqv_o]
  exact q
/-- x == (), x any data -/
def ttIsE (K : PySem.W.Frag) (ta : TE) : TT := fun σ H Q => ta σ H fun x H1 => Good H1 ∧ ∃ d, (∀ H2, Same H1 H2 → Dp K H2 x d) ∧ SeqAt.shaped d = true ∧ Q (PyData.eqv d (.tuple [])) H1
theorem pt_isE {k2 : Nat} (hu : X.A.units + 64 < cLine) (ha : PE X a ta) : PT X (.Compare a [.Eq] [.Tuple [] k2 p] pos) (ttIsE X.K ta) := by
  refine cmp_tmp (op_eqD hu) ha (pe_tup pa_nil) (nomark _) fun x σ H Q h => ?_
  obtain ⟨g, d, hs, hd, q⟩ := h
  exact ⟨g, by show 0 ≤ sizeLine; decide, fun p hp => ⟨d, .tuple [], hs _ (same_new hp), .tup (SqT.of upd_same) .nil, hd, rfl, _, rfl, same_new hp, q⟩⟩
/-- x != [], x a list of data -/
def ttNotN (K : PySem.W.Frag) (ta : TE) : TT := fun σ H Q => ta σ H fun x H1 => Good H1 ∧ ∃ l xs ds, x = .ref l ∧ H1 l = some (.lst xs) ∧ (∀ H2, Same H1 H2 → DpAll K H2 xs ds) ∧ SeqAt.shaped (.list ds) = true ∧ Q (!xs.isEmpty) H1
theorem DpAll.len {K : PySem.W.Frag} {H : Hp} : ∀ {xs : List V} {ds : List PyData}, DpAll K H xs ds → xs.length = ds.length
  | _, _, .nil => rfl
  | _, _, .cons _ t => congrArg (· + 1) (DpAll.len t)
theorem pt_notN (hu : X.A.units + 64 < cLine) (ha : PE X a ta) : PT X (.Compare a [.NotEq] [.List [] p] pos) (ttNotN X.K ta) := by
  refine cmp_tmp (op_neD hu) ha (pe_lst pa_nil) (nomark _) fun x σ H Q h => ?_
  obtain ⟨g, l, xs, ds, rfl, hl, hs, hd, q⟩ := h
  refine ⟨g, by show 0 ≤ sizeLine; decide, fun p hp => ⟨.list ds, .list [], .lst (SqL.of (same_new hp _ _ hl)) (hs _ (same_new hp)), .lst (SqL.of upd_same) .nil, hd, rfl, _, rfl, same_new hp, ?_⟩⟩
  have e : PyData.eqv (.list ds) (.list []) = xs.isEmpty := by
    have hl := DpAll.len (hs _ (Same.refl _))
    cases xs with
    | nil =>
      cases ds with
      | nil => rfl
      | cons d r => cases hl
    | cons x r =>
      cases ds with
      | nil => cases hl
      | cons d r => rfl
  rw [e]
  exact q
end
end KL

namespace KL
open PySem PySem.Spec PyProof.Rows L2
def top (i : Nat) : Stmt := (PySem.Challenge.pw_lumpplans_k25_whole_lump_or_not).main.body.getD i (Stmt.Pass ⟨0, 0, 0, 0⟩)
abbrev s_is_integer : Stmt := top 5
abbrev n_is_integer : List Str := ["value"]
theorem sc_is_integer : FnScope n_is_integer ["value"] (defScope s_is_integer) := ⟨rfl, rfl, rfl, by decide +kernel, rfl, by decide +kernel, by decide +kernel⟩
abbrev s_is_number : Stmt := top 6
abbrev n_is_number : List Str := ["value"]
theorem sc_is_number : FnScope n_is_number ["value"] (defScope s_is_number) := ⟨rfl, rfl, rfl, by decide +kernel, rfl, by decide +kernel, by decide +kernel⟩
abbrev s_wrong_shape : Stmt := top 8
abbrev n_wrong_shape : List Str := ["value", "side", "part", "path"]
theorem sc_wrong_shape : FnScope n_wrong_shape ["value"] (defScope s_wrong_shape) := ⟨rfl, rfl, rfl, by decide +kernel, rfl, by decide +kernel, by decide +kernel⟩
abbrev s_size_of : Stmt := top 9
abbrev n_size_of : List Str := ["shape", "found", "rest", "part"]
theorem sc_size_of : FnScope n_size_of ["shape"] (defScope s_size_of) := ⟨rfl, rfl, rfl, by decide +kernel, rfl, by decide +kernel, by decide +kernel⟩
abbrev s_wrong_sizes : Stmt := top 11
abbrev n_wrong_sizes : List Str := ["shapes", "k", "shape"]
theorem sc_wrong_sizes : FnScope n_wrong_sizes ["shapes"] (defScope s_wrong_sizes) := ⟨rfl, rfl, rfl, by decide +kernel, rfl, by decide +kernel, by decide +kernel⟩
abbrev s_wrong_table : Stmt := top 12
abbrev n_wrong_table : List Str := ["value", "k", "shape", "path"]
theorem sc_wrong_table : FnScope n_wrong_table ["value"] (defScope s_wrong_table) := ⟨rfl, rfl, rfl, by decide +kernel, rfl, by decide +kernel, by decide +kernel⟩
abbrev s_table_size : Stmt := top 13
abbrev n_table_size : List Str := ["table"]
theorem sc_table_size : FnScope n_table_size ["table"] (defScope s_table_size) := ⟨rfl, rfl, rfl, by decide +kernel, rfl, by decide +kernel, by decide +kernel⟩
abbrev s_entry : Stmt := top 14
abbrev n_entry : List Str := ["table", "m"]
theorem sc_entry : FnScope n_entry ["table", "m"] (defScope s_entry) := ⟨rfl, rfl, rfl, by decide +kernel, rfl, by decide +kernel, by decide +kernel⟩
abbrev s_counts : Stmt := top 16
abbrev n_counts : List Str := ["plan", "n", "found", "size"]
theorem sc_counts : FnScope n_counts ["plan", "n"] (defScope s_counts) := ⟨rfl, rfl, rfl, by decide +kernel, rfl, by decide +kernel, by decide +kernel⟩
abbrev s_widths : Stmt := top 17
abbrev n_widths : List Str := ["plan", "n", "found", "number"]
theorem sc_widths : FnScope n_widths ["plan", "n"] (defScope s_widths) := ⟨rfl, rfl, rfl, by decide +kernel, rfl, by decide +kernel, by decide +kernel⟩
abbrev s_shape_lumps : Stmt := top 19
abbrev n_shape_lumps : List Str := ["form", "waiting", "found", "start", "part"]
theorem sc_shape_lumps : FnScope n_shape_lumps ["form"] (defScope s_shape_lumps) := ⟨rfl, rfl, rfl, by decide +kernel, rfl, by decide +kernel, by decide +kernel⟩
abbrev s_comb_parts : Stmt := top 21
abbrev n_comb_parts : List Str := ["one", "other", "end"]
theorem sc_comb_parts : FnScope n_comb_parts ["one", "other", "end"] (defScope s_comb_parts) := ⟨rfl, rfl, rfl, by decide +kernel, rfl, by decide +kernel, by decide +kernel⟩
abbrev s_Rows_init : Stmt := inClass (top 22) 0
abbrev n_Rows_init : List Str := ["self", "plan", "n"]
theorem sc_Rows_init : FnScope n_Rows_init ["self", "plan", "n"] (defScope s_Rows_init) := ⟨rfl, rfl, rfl, by decide +kernel, rfl, by decide +kernel, by decide +kernel⟩
abbrev s_Rows_places : Stmt := inClass (top 22) 1
abbrev n_Rows_places : List Str := ["self", "node", "level", "one", "other", "form"]
theorem sc_Rows_places : FnScope n_Rows_places ["self", "node"] (defScope s_Rows_places) := ⟨rfl, rfl, rfl, by decide +kernel, rfl, by decide +kernel, by decide +kernel⟩
abbrev s_Rows_stretch : Stmt := inClass (top 22) 2
abbrev n_Rows_stretch : List Str := ["self", "level", "number", "table", "first", "many"]
theorem sc_Rows_stretch : FnScope n_Rows_stretch ["self", "level", "number"] (defScope s_Rows_stretch) := ⟨rfl, rfl, rfl, by decide +kernel, rfl, by decide +kernel, by decide +kernel⟩
abbrev s_Rows_opened : Stmt := inClass (top 22) 3
abbrev n_Rows_opened : List Str := ["self", "node", "level", "one", "other", "form", "first", "many"]
theorem sc_Rows_opened : FnScope n_Rows_opened ["self", "node"] (defScope s_Rows_opened) := ⟨rfl, rfl, rfl, by decide +kernel, rfl, by decide +kernel, by decide +kernel⟩
abbrev s_Rows_parts : Stmt := inClass (top 22) 5
abbrev n_Rows_parts : List Str := ["self", "node", "level", "one", "other", "form", "pairs", "first", "last", "middle"]
theorem sc_Rows_parts : FnScope n_Rows_parts ["self", "node"] (defScope s_Rows_parts) := ⟨rfl, rfl, rfl, by decide +kernel, rfl, by decide +kernel, by decide +kernel⟩
abbrev s_Rows_narrowed : Stmt := inClass (top 22) 6
abbrev n_Rows_narrowed : List Str := ["self", "node", "low", "high", "level", "one", "other", "form", "middle"]
theorem sc_Rows_narrowed : FnScope n_Rows_narrowed ["self", "node", "low", "high"] (defScope s_Rows_narrowed) := ⟨rfl, rfl, rfl, by decide +kernel, rfl, by decide +kernel, by decide +kernel⟩
abbrev s_Rows_least : Stmt := inClass (top 22) 7
abbrev n_Rows_least : List Str := ["self", "low", "high", "level", "size", "first", "many", "form"]
theorem sc_Rows_least : FnScope n_Rows_least ["self", "low", "high"] (defScope s_Rows_least) := ⟨rfl, rfl, rfl, by decide +kernel, rfl, by decide +kernel, by decide +kernel⟩
abbrev s_are_lump_numbers : Stmt := top 23
abbrev n_are_lump_numbers : List Str := ["plan", "n", "i", "j", "level", "table", "size", "first"]
theorem sc_are_lump_numbers : FnScope n_are_lump_numbers ["plan", "n", "i", "j"] (defScope s_are_lump_numbers) := ⟨rfl, rfl, rfl, by decide +kernel, rfl, by decide +kernel, by decide +kernel⟩
abbrev s_is_lump : Stmt := top 24
abbrev n_is_lump : List Str := ["plan", "n", "i", "j"]
theorem sc_is_lump : FnScope n_is_lump ["plan", "n", "i", "j"] (defScope s_is_lump) := ⟨rfl, rfl, rfl, by decide +kernel, rfl, by decide +kernel, by decide +kernel⟩
abbrev s_crossing : Stmt := top 25
abbrev n_crossing : List Str := ["plan", "n", "i", "j", "rows", "left", "right", "part"]
theorem sc_crossing : FnScope n_crossing ["plan", "n", "i", "j"] (defScope s_crossing) := ⟨rfl, rfl, rfl, by decide +kernel, rfl, by decide +kernel, by decide +kernel⟩
abbrev s_wrong_member : Stmt := top 28
abbrev n_wrong_member : List Str := ["tables", "k", "table", "path"]
theorem sc_wrong_member : FnScope n_wrong_member ["tables"] (defScope s_wrong_member) := ⟨rfl, rfl, rfl, by decide +kernel, rfl, by decide +kernel, by decide +kernel⟩
abbrev s_wrong_plan : Stmt := top 29
abbrev n_wrong_plan : List Str := ["tables", "end", "path"]
theorem sc_wrong_plan : FnScope n_wrong_plan ["tables", "end"] (defScope s_wrong_plan) := ⟨rfl, rfl, rfl, by decide +kernel, rfl, by decide +kernel, by decide +kernel⟩
abbrev s_Plan_init : Stmt := inClass (top 30) 0
abbrev n_Plan_init : List Str := ["self", "tables", "end", "path"]
theorem sc_Plan_init : FnScope n_Plan_init ["self", "tables", "end"] (defScope s_Plan_init) := ⟨rfl, rfl, rfl, by decide +kernel, rfl, by decide +kernel, by decide +kernel⟩
abbrev s_Plan_end : Stmt := inClass (top 30) 3
abbrev n_Plan_end : List Str := ["self"]
theorem sc_Plan_end : FnScope n_Plan_end ["self"] (defScope s_Plan_end) := ⟨rfl, rfl, rfl, by decide +kernel, rfl, by decide +kernel, by decide +kernel⟩
abbrev s_Plan_stage : Stmt := inClass (top 30) 4
abbrev n_Plan_stage : List Str := ["self", "k"]
theorem sc_Plan_stage : FnScope n_Plan_stage ["self", "k"] (defScope s_Plan_stage) := ⟨rfl, rfl, rfl, by decide +kernel, rfl, by decide +kernel, by decide +kernel⟩
abbrev s_l_source : Stmt := top 32
abbrev n_l_source : List Str := ["_law_script", "_law_mixed_here", "_law_cell"]
theorem sc_l_source : FnScope n_l_source ["_law_script"] (defScope s_l_source) := ⟨rfl, rfl, rfl, by decide +kernel, rfl, by decide +kernel, by decide +kernel⟩
abbrev s_l_pick : Stmt := top 33
abbrev n_l_pick : List Str := ["_law_source_here", "_law_many", "_law_left", "_law_mixed_here"]
theorem sc_l_pick : FnScope n_l_pick ["_law_source_here", "_law_many"] (defScope s_l_pick) := ⟨rfl, rfl, rfl, by decide +kernel, rfl, by decide +kernel, by decide +kernel⟩
abbrev s_l_comb : Stmt := top 34
abbrev n_l_comb : List Str := ["_law_n", "_law_side", "_law_found", "_law_lap"]
theorem sc_l_comb : FnScope n_l_comb ["_law_n", "_law_side"] (defScope s_l_comb) := ⟨rfl, rfl, rfl, by decide +kernel, rfl, by decide +kernel, by decide +kernel⟩
abbrev s_l_halves : Stmt := top 35
abbrev n_l_halves : List Str := ["_law_n"]
theorem sc_l_halves : FnScope n_l_halves ["_law_n"] (defScope s_l_halves) := ⟨rfl, rfl, rfl, by decide +kernel, rfl, by decide +kernel, by decide +kernel⟩
abbrev s_l_shape : Stmt := top 36
abbrev n_l_shape : List Str := ["_law_source_here", "_law_n", "_law_way", "_law_at"]
theorem sc_l_shape : FnScope n_l_shape ["_law_source_here", "_law_n"] (defScope s_l_shape) := ⟨rfl, rfl, rfl, by decide +kernel, rfl, by decide +kernel, by decide +kernel⟩
abbrev s_l_any_table : Stmt := top 37
abbrev n_l_any_table : List Str := ["_law_source_here", "_law_size_here", "_law_m"]
theorem sc_l_any_table : FnScope n_l_any_table ["_law_source_here", "_law_size_here"] (defScope s_l_any_table) := ⟨rfl, rfl, rfl, by decide +kernel, rfl, by decide +kernel, by decide +kernel⟩
abbrev s_l_of : Stmt := top 38
abbrev n_l_of : List Str := ["_law_source_here", "_law_some"]
theorem sc_l_of : FnScope n_l_of ["_law_source_here", "_law_some"] (defScope s_l_of) := ⟨rfl, rfl, rfl, by decide +kernel, rfl, by decide +kernel, by decide +kernel⟩
abbrev s_l_made : Stmt := top 39
abbrev n_l_made : List Str := ["_law_tables", "_law_end"]
theorem sc_l_made : FnScope n_l_made ["_law_tables", "_law_end"] (defScope s_l_made) := ⟨rfl, rfl, rfl, by decide +kernel, rfl, by decide +kernel, by decide +kernel⟩
abbrev s_l_long_plan : Stmt := top 40
abbrev n_l_long_plan : List Str := ["_law_source_here", "_law_menu", "_law_tables", "_law_lap", "_law_end", "_law_row"]
theorem sc_l_long_plan : FnScope n_l_long_plan ["_law_source_here"] (defScope s_l_long_plan) := ⟨rfl, rfl, rfl, by decide +kernel, rfl, by decide +kernel, by decide +kernel⟩
abbrev s_l_size : Stmt := top 41
abbrev n_l_size : List Str := ["_law_form"]
theorem sc_l_size : FnScope n_l_size ["_law_form"] (defScope s_l_size) := ⟨rfl, rfl, rfl, by decide +kernel, rfl, by decide +kernel, by decide +kernel⟩
abbrev s_l_filled : Stmt := top 42
abbrev n_l_filled : List Str := ["_law_form", "_law_lumps_here", "_law_size_here"]
theorem sc_l_filled : FnScope n_l_filled ["_law_form", "_law_lumps_here"] (defScope s_l_filled) := ⟨rfl, rfl, rfl, by decide +kernel, rfl, by decide +kernel, by decide +kernel⟩
abbrev s_l_entry : Stmt := top 43
abbrev n_l_entry : List Str := ["_law_table_here", "_law_m"]
theorem sc_l_entry : FnScope n_l_entry ["_law_table_here", "_law_m"] (defScope s_l_entry) := ⟨rfl, rfl, rfl, by decide +kernel, rfl, by decide +kernel, by decide +kernel⟩
abbrev s_l_pressed : Stmt := top 44
abbrev n_l_pressed : List Str := ["_law_table_here", "_law_row", "_law_size_here", "_law_found", "_law_k"]
theorem sc_l_pressed : FnScope n_l_pressed ["_law_table_here", "_law_row"] (defScope s_l_pressed) := ⟨rfl, rfl, rfl, by decide +kernel, rfl, by decide +kernel, by decide +kernel⟩
abbrev s_l_glue : Stmt := top 45
abbrev n_l_glue : List Str := ["_law_one", "_law_other", "_law_found", "_law_size_here", "_law_m", "_law_row"]
theorem sc_l_glue : FnScope n_l_glue ["_law_one", "_law_other"] (defScope s_l_glue) := ⟨rfl, rfl, rfl, by decide +kernel, rfl, by decide +kernel, by decide +kernel⟩
abbrev s_l_table : Stmt := top 46
abbrev n_l_table : List Str := ["_law_source_here", "_law_one", "_law_other"]
theorem sc_l_table : FnScope n_l_table ["_law_source_here"] (defScope s_l_table) := ⟨rfl, rfl, rfl, by decide +kernel, rfl, by decide +kernel, by decide +kernel⟩
abbrev s_l_plan : Stmt := top 47
abbrev n_l_plan : List Str := ["_law_source_here", "_law_tables", "_law_lap", "_law_end", "_law_many"]
theorem sc_l_plan : FnScope n_l_plan ["_law_source_here"] (defScope s_l_plan) := ⟨rfl, rfl, rfl, by decide +kernel, rfl, by decide +kernel, by decide +kernel⟩
abbrev s_l_any_plan : Stmt := top 48
abbrev n_l_any_plan : List Str := ["_law_source_here"]
theorem sc_l_any_plan : FnScope n_l_any_plan ["_law_source_here"] (defScope s_l_any_plan) := ⟨rfl, rfl, rfl, by decide +kernel, rfl, by decide +kernel, by decide +kernel⟩
abbrev s_l_lumps : Stmt := top 49
abbrev n_l_lumps : List Str := ["_law_form", "_law_start", "_law_size_here", "_law_at"]
theorem sc_l_lumps : FnScope n_l_lumps ["_law_form", "_law_start"] (defScope s_l_lumps) := ⟨rfl, rfl, rfl, by decide +kernel, rfl, by decide +kernel, by decide +kernel⟩
abbrev s_l_stage : Stmt := top 50
abbrev n_l_stage : List Str := ["_law_world", "_law_k"]
theorem sc_l_stage : FnScope n_l_stage ["_law_world", "_law_k"] (defScope s_l_stage) := ⟨rfl, rfl, rfl, by decide +kernel, rfl, by decide +kernel, by decide +kernel⟩
abbrev s_l_told : Stmt := top 51
abbrev n_l_told : List Str := ["_law_world", "_law_n", "_law_row", "_law_k"]
theorem sc_l_told : FnScope n_l_told ["_law_world", "_law_n"] (defScope s_l_told) := ⟨rfl, rfl, rfl, by decide +kernel, rfl, by decide +kernel, by decide +kernel⟩
abbrev s_l_odd : Stmt := top 52
abbrev n_l_odd : List Str := ["_law_source_here", "_law_some"]
theorem sc_l_odd : FnScope n_l_odd ["_law_source_here"] (defScope s_l_odd) := ⟨rfl, rfl, rfl, by decide +kernel, rfl, by decide +kernel, by decide +kernel⟩
abbrev s_l_mixed : Stmt := top 53
abbrev n_l_mixed : List Str := ["_law_source_here", "_law_things", "_law_rest", "_law_lap"]
theorem sc_l_mixed : FnScope n_l_mixed ["_law_source_here", "_law_things"] (defScope s_l_mixed) := ⟨rfl, rfl, rfl, by decide +kernel, rfl, by decide +kernel, by decide +kernel⟩
abbrev s_l_strange : Stmt := top 54
abbrev n_l_strange : List Str := ["_law_source_here", "_law_some"]
theorem sc_l_strange : FnScope n_l_strange ["_law_source_here"] (defScope s_l_strange) := ⟨rfl, rfl, rfl, by decide +kernel, rfl, by decide +kernel, by decide +kernel⟩
abbrev s_l_crosses : Stmt := top 55
abbrev n_l_crosses : List Str := ["_law_one", "_law_other", "_law_low", "_law_high"]
theorem sc_l_crosses : FnScope n_l_crosses ["_law_one", "_law_other"] (defScope s_l_crosses) := ⟨rfl, rfl, rfl, by decide +kernel, rfl, by decide +kernel, by decide +kernel⟩
abbrev s_l_crossed_right : Stmt := top 56
abbrev n_l_crossed_right : List Str := ["_law_plan_here", "_law_n", "_law_pair", "_law_lumps_here", "_law_told_here"]
theorem sc_l_crossed_right : FnScope n_l_crossed_right ["_law_plan_here", "_law_n", "_law_pair", "_law_lumps_here"] (defScope s_l_crossed_right) := ⟨rfl, rfl, rfl, by decide +kernel, rfl, by decide +kernel, by decide +kernel⟩
abbrev s_the_law : Stmt := top 57
abbrev n_the_law : List Str := ["_law_script", "_law_source_here", "_law_lap", "_law_world", "_law_n", "_law_other", "_law_many", "_law_plan_here", "_law_lumps_here", "_law_i", "_law_j", "_law_odd_here", "_law_due", "_law_told_here", "_law_anew", "_law_some", "_law_pair"]
theorem sc_the_law : FnScope n_the_law ["_law_script"] (defScope s_the_law) := ⟨rfl, rfl, rfl, by decide +kernel, rfl, by decide +kernel, by decide +kernel⟩
end KL

/-! KLTxt: what the walk asks of the module's top. -/
namespace KL
open PySem PySem.Spec L2
open PyProof.Rows hiding St
structure Txt (K : PySem.W.Frag) (mg : Str → Option Value) (CP CR E : Addr) : Prop where
  isinstance_ : mg "isinstance" = none
  int_ : mg "int" = none
  bool_ : mg "bool" = none
  tuple_ : mg "tuple" = none
  list_ : mg "list" = none
  str_ : mg "str" = none
  len_ : mg "len" = none
  enumerate_ : mg "enumerate" = none
  range_ : mg "range" = none
  min_ : mg "min" = none
  max_ : mg "max" = none
  abs_ : mg "abs" = none
  repr_ : mg "repr" = none
  ends : mg "ENDS" = some (.ref E)
  endsT : ∀ H, SqT K H E [.str "left", .str "right"]
  clP : Cls K CP
  clR : Cls K CR
  nT : NoAttr K CP "own_tables"
  nE : NoAttr K CP "own_end"
  nP : NoAttr K CR "plan"
  nM : NoAttr K CR "many"
  nW : NoAttr K CR "width"
end KL

namespace KL
open PySem PySem.Spec L2
open PyProof.Rows hiding St
theorem paired_snoc {α β : Type} {F : α → β → Prop} : ∀ {xs : List α} {y : α} {zs : List β}, Paired F (xs ++ [y]) zs → ∃ zs0 z, zs = zs0 ++ [z] ∧ Paired F xs zs0 ∧ F y z
  | [], y, _, .cons r .nil => ⟨[], _, rfl, .nil, r⟩
  | x :: xs, y, _, .cons r t => by
    obtain ⟨zs0, z, e, h1, h2⟩ := paired_snoc t
    exact ⟨_ :: zs0, z, by rw [e]; rfl, .cons r h1, h2⟩
def szs : List Sh → Nat
  | [] => 0
  | s :: r => s.sz + szs r
def mzs : List Sh → Nat
  | [] => 0
  | s :: r => 2 * s.sz - 1 + mzs r
theorem szs_app : ∀ a b : List Sh, szs (a ++ b) = szs a + szs b
  | [], b => (Nat.zero_add _).symm
  | s :: r, b => by
    show s.sz + szs (r ++ b) = s.sz + szs r + szs b
    rw [szs_app r b]
    omega
theorem mzs_app : ∀ a b : List Sh, mzs (a ++ b) = mzs a + mzs b
  | [], b => (Nat.zero_add _).symm
  | s :: r, b => by
    show 2 * s.sz - 1 + mzs (r ++ b) = 2 * s.sz - 1 + mzs r + mzs b
    rw [mzs_app r b]
    omega
theorem szs_len : ∀ a : List Sh, a.length ≤ szs a
  | [] => Nat.le_refl _
  | s :: r => by
    have h1 := szs_len r
    have h2 := s.sz_pos
    show r.length + 1 ≤ s.sz + szs r
    omega
theorem szs_mem : ∀ {a : List Sh} {s : Sh}, s ∈ a → s.sz ≤ szs a
  | x :: r, s, h => by
    rcases List.mem_cons.mp h with rfl | h
    · show s.sz ≤ s.sz + szs r
      omega
    · have := szs_mem h
      show s.sz ≤ x.sz + szs r
      omega
/-- a while's next turn -/
def Below (W : Nat → St → Hp → Prop) (m : Nat) : St → Hp → Prop := fun σ H => ∃ m', m' < m ∧ W m' σ H
theorem below {W : Nat → St → Hp → Prop} {m : Nat} : ∀ σ' H', Below W m σ' H' → ∃ m', m' < m ∧ W m' σ' H' := fun _ _ h => h
theorem upd_self {H : Hp} {l : Addr} {o u : HO} : upd (upd H l o) l u = upd H l u := upd_upd
theorem small {n : Nat} (h : n ≤ 100000) : n ≤ sizeLine := Nat.le_trans h (by decide)
theorem shaped_list {ss : List Sh} (h : szs ss ≤ 60) : SeqAt.shaped (.list (ss.map Sh.d)) = true := by
  refine shaped_of (lays ss) ?_
  have h1 : PyData.depthAll (ss.map Sh.d) ≤ 60 := depths (n := 59) fun s hs => by
    have h2 := szs_mem hs
    have h3 := s.dp_lt
    omega
  show PyData.depthAll (ss.map Sh.d) + 1 ≤ 64
  omega
section
variable {P : Program} {w : World} {K : PySem.W.Frag} {mg : Str → Option Value} {base : Heap} {CP CR E : Addr}
/-! ### size_of -/
def spSize : Sp := fun vs H Q _ => ∃ v s, vs = [v] ∧ Good H ∧ ShV H v s ∧ s.sz ≤ 60 ∧ Q (.int s.sz) H
theorem c_size_of (D : DefAt K mg "size_of" s_size_of) (T : Txt K mg CP CR E) : Cal P w K mg base "size_of" 1 ["shape"] spSize := by
  refine cal_of D sc_size_of (fun _ _ _ _ _ _ us hl => match us, hl with | [_], _ => rfl) (fun vs H Q E' h => ?_) (fun f cdv A outer s H vs Q E' hr h => ?_)
  · obtain ⟨v, s, rfl, _⟩ := h
    rfl
  obtain ⟨v, sh, rfl, g, hs, hz, q⟩ := h
  have hu := hr.units
  refine ⟨_, (pss_cons (ps_par (i := 1) (j := 2) (by rfl) sc_size_of.nd rfl rfl (by decide) rfl rfl (pa_cons pe_int (pa_cons (pe_lst (pa_cons (pv 0) pa_nil)) pa_nil)) (by rfl)) (pss_cons (ps_while PassesOwn.never (pt_notN hu (pv 2)) (pss_cons (ps_set (i := 3) sc_size_of.nd rfl (Or.inl rfl) (pe_bm0 PySem.F.plainAttrs_list PySem.F.slot_list_pop PySem.F.type_list_pop mt_pop (pv 2))) (pss_cons (ps_aug (i := 1) sc_size_of.nd rfl (Or.inl rfl) (pe_ifExp (pt_isO hu (pv 3)) pe_int pe_int) ip_add) (pss_one (ps_expr (pe_bm PySem.F.plainAttrs_list PySem.F.slot_list_extend PySem.F.type_list_extend mt_extendT (pv 2) (pa_cons (pv 3) pa_nil))))))) (pss_one (ps_ret (pv 1))))), ?_⟩
  refine ⟨_, rfl, (by show 1 ≤ sizeLine; decide), fun l hl => ?_⟩
  refine ⟨_, _, rfl, ?_⟩
  refine ⟨fun m σ H' => ∃ (xs : List V) (ss : List Sh) (fo : Int) (x : Option V), σ = [some v, some (.int fo), some (.ref l), x] ∧ H' = upd H l (.lst xs) ∧ Paired (ShV H) xs ss ∧ fo + szs ss = sh.sz ∧ 0 ≤ fo ∧ m = mzs ss,
    ⟨_, [v], [sh], 0, none, rfl, rfl, .cons hs .nil, by show (0 : Int) + ((sh.sz + 0 : Nat) : Int) = sh.sz; omega, Int.le_refl 0, rfl⟩, ?_⟩
  rintro m σ H' ⟨xs, ss, fo, x, rfl, rfl, hp, hf, hf0, rfl⟩
  have hsz : szs ss ≤ 60 := by omega
  have gl : ∀ ys, Good (upd H l (.lst ys)) := fun ys => g.lst hl
  refine ⟨_, rfl, gl _, l, xs, ss.map Sh.d, rfl, upd_same, fun H2 s2 => ShVs.dat (Paired.imp (fun _ _ z => ShV.mono (TM.trans (TM.new hl) (TM.of s2)) z) hp), shaped_list hsz, ?_⟩
  rcases List.eq_nil_or_concat xs with rfl | ⟨xs0, y, rfl⟩
  · refine iteF ?_
    cases hp
    have e : fo = sh.sz := by
      have h0 : fo + ((0 : Nat) : Int) = sh.sz := hf
      omega
    subst e
    exact ⟨_, rfl, fin0 g (same_new hl) q⟩
  · rw [List.concat_eq_append] at hp ⊢
    have ne : (!(xs0 ++ [y]).isEmpty) = true := by
      cases xs0 <;> rfl
    rw [ne]
    refine iteT ?_
    obtain ⟨ss0, s, rfl, hp0, hy⟩ := paired_snoc hp
    have hlen := hp0.length
    have h5 := szs_len ss0
    rw [szs_app] at hf hsz
    have h6 : szs [s] = s.sz := rfl
    rw [h6] at hf hsz
    refine ⟨Below _ _, below, ?_⟩
    · refine ⟨_, rfl, .inl ⟨rfl, _, SqL.of upd_same⟩, l, xs0 ++ [y], y, rfl, rfl, upd_same, by rw [List.length_append]; simp, ?_⟩
      rw [List.dropLast_concat, upd_self]
      refine ⟨_, rfl, ?_⟩
      have hy1 : ∀ ys, ShV (upd H l (.lst ys)) y s := fun ys => ShV.mono (TM.new hl) hy
      refine ⟨_, rfl, gl _, s, hy1 _, by have := s.dp_lt; omega, ?_⟩
      cases s with
      | o =>
        refine iteT ?_
        obtain ⟨b, rfl, hb⟩ := hy
        refine ⟨_, _, rfl, rfl, ?_⟩
        refine ⟨_, rfl, .inl ⟨rfl, _, SqL.of upd_same⟩, _, rfl, l, b, xs0, [], rfl, rfl, upd_same, SqT.of (same_new hl _ _ hb), small (by simp; omega), ?_⟩
        rw [upd_self, List.append_nil]
        exact ⟨mzs ss0, by rw [mzs_app]; show mzs ss0 < mzs ss0 + (2 * 1 - 1 + 0); omega, xs0, ss0, fo + 1, some (.ref b), rfl, rfl, hp0, by have : Sh.sz .o = 1 := rfl; omega, by omega, rfl⟩
      | n a c =>
        refine iteF ?_
        obtain ⟨b, xa, xc, rfl, hb, ha, hc⟩ := hy
        refine ⟨_, _, rfl, rfl, ?_⟩
        refine ⟨_, rfl, .inl ⟨rfl, _, SqL.of upd_same⟩, _, rfl, l, b, xs0, [xa, xc], rfl, rfl, upd_same, SqT.of (same_new hl _ _ hb), small (by simp; omega), ?_⟩
        rw [upd_self]
        have ea : Sh.sz (.n a c) = a.sz + c.sz := rfl
        have pa := a.sz_pos
        have pc := c.sz_pos
        exact ⟨mzs (ss0 ++ [a, c]), by rw [mzs_app, mzs_app]; show mzs ss0 + (2 * a.sz - 1 + (2 * c.sz - 1 + 0)) < mzs ss0 + (2 * (a.sz + c.sz) - 1 + 0); omega,
          xs0 ++ [xa, xc], ss0 ++ [a, c], fo + 0, some (.ref b), rfl, rfl, Paired.app hp0 (.cons ha (.cons hc .nil)), by rw [szs_app]; show fo + 0 + ((szs ss0 + (a.sz + (c.sz + 0)) : Nat) : Int) = sh.sz; omega, by omega, rfl⟩
end
end KL

namespace KL
open PySem PySem.Spec L2
open PyProof.Rows hiding St
/-! ### kinds -/
inductive Kn (CP : Addr) (H : Hp) : V → Prop where
  | non : Kn CP H .non
  | bl (b : Bool) : Kn CP H (.bl b)
  | int (i : Int) : Kn CP H (.int i)
  | str (x : Str) : Kn CP H (.str x)
  | lst {a : Addr} {xs : List V} (h : H a = some (.lst xs)) : Kn CP H (.ref a)
  | tup {a : Addr} {xs : List V} (h : H a = some (.tup xs)) : Kn CP H (.ref a)
  | dK {a : Addr} {xs : List (Key × V)} (h : H a = some (.dK xs)) : Kn CP H (.ref a)
  | pl {a dx : Addr} {fs : List (Str × V)} (h : H a = some (.ins CP dx fs)) : Kn CP H (.ref a)
def isI : V → Bool
  | .int _ => true
  | _ => false
def isN : V → Bool
  | .int i => decide (0 ≤ i)
  | _ => false
def iIsh : V → Bool
  | .int _ => true
  | .bl _ => true
  | _ => false
def bIsh : V → Bool
  | .bl _ => true
  | _ => false
structure PCl (K : PySem.W.Frag) (CP : Addr) : Prop where
  cl : Cls K CP
  c1 : PySem.W.findIn K (.ref CP) "__class__" = some (some (.builtin "object.__class__"))
  c2 : PySem.W.specialIn K (.builtin "object.__class__") "__get__" = some (some (.builtin "getset_descriptor.__get__"))
  c3 : PySem.W.takesIn K (.builtin "object.__class__") = some true
  c4 : PySem.W.mroIn K CP (.type "object") = some true
  c5 : PySem.W.kitOne K (.ref CP) (.type "int") = some false
  c6 : PySem.W.kitOne K (.ref CP) (.type "bool") = some false
theorem Kn.ty {K : PySem.W.Frag} {CP : Addr} {H : Hp} {v : V} (p : PCl K CP) (h : Kn CP H v) : ∃ t, TyX K H v t ∧ PySem.W.kitOne K t (.type "int") = some (iIsh v) ∧ PySem.W.kitOne K t (.type "bool") = some (bIsh v) := by
  cases h with
  | non => exact ⟨_, .base .non, kit_ty (show kitB "NoneType" "int" = some false by decide +kernel), kit_ty (show kitB "NoneType" "bool" = some false by decide +kernel)⟩
  | bl b => exact ⟨_, .base (.bl b), kit_ty (show kitB "bool" "int" = some true by decide +kernel), kit_ty (show kitB "bool" "bool" = some true by decide +kernel)⟩
  | int i => exact ⟨_, .base (.int i), kit_ty (show kitB "int" "int" = some true by decide +kernel), kit_ty (show kitB "int" "bool" = some false by decide +kernel)⟩
  | str x => exact ⟨_, .base (.str x), kit_ty (show kitB "str" "int" = some false by decide +kernel), kit_ty (show kitB "str" "bool" = some false by decide +kernel)⟩
  | lst h => exact ⟨_, .base (.lst h), kit_ty (show kitB "list" "int" = some false by decide +kernel), kit_ty (show kitB "list" "bool" = some false by decide +kernel)⟩
  | tup h => exact ⟨_, .base (.tup h), kit_ty (show kitB "tuple" "int" = some false by decide +kernel), kit_ty (show kitB "tuple" "bool" = some false by decide +kernel)⟩
  | dK h => exact ⟨_, .base (.dK h), kit_ty (show kitB "dict" "int" = some false by decide +kernel), kit_ty (show kitB "dict" "bool" = some false by decide +kernel)⟩
  | pl h => exact ⟨_, .base (.ins h p.cl p.c1 p.c2 p.c3 p.c4), p.c5, p.c6⟩
section
variable {P : Program} {w : World} {K : PySem.W.Frag} {mg : Str → Option Value} {base : Heap} {CP CR E : Addr}
/-! ### is_integer, is_number -/
def spIsInt (CP : Addr) : Sp := fun vs H Q _ => ∃ v, vs = [v] ∧ Good H ∧ Kn CP H v ∧ Q (.bl (isI v)) H
theorem c_is_integer (D : DefAt K mg "is_integer" s_is_integer) (T : Txt K mg CP CR E) (p : PCl K CP) : Cal P w K mg base "is_integer" 1 ["value"] (spIsInt CP) := by
  refine cal_of D sc_is_integer (fun _ _ _ _ _ _ us hl => match us, hl with | [_], _ => rfl) (fun vs H Q E' h => ?_) (fun f cdv A outer s H vs Q E' hr h => ?_)
  · obtain ⟨v, rfl, _⟩ := h
    rfl
  obtain ⟨v, rfl, g, kn, q⟩ := h
  obtain ⟨t, ht, k1, k2⟩ := kn.ty p
  refine ⟨_, (pss_one (ps_ret (pe_and (pe_callB call_isi (by rfl) T.isinstance_ (by decide +kernel) (pa_cons (pv 0) (pa_cons (pe_bltn (v := .ty "int") (by rfl) T.int_ (by decide +kernel) rfl) pa_nil))) (pe_one (pe_not (pe_callB call_isi (by rfl) T.isinstance_ (by decide +kernel) (pa_cons (pv 0) (pa_cons (pe_bltn (v := .ty "bool") (by rfl) T.bool_ (by decide +kernel) rfl) pa_nil)))))))), ?_⟩
  refine ⟨_, rfl, _, _, t, _, _, rfl, .ty "int", ht, k1, _, rfl, ?_⟩
  cases v with
  | int i => exact iteT ⟨_, rfl, _, _, t, _, _, rfl, .ty "bool", ht, k2, _, rfl, fin0 g (Same.refl H) q⟩
  | bl b => exact iteT ⟨_, rfl, _, _, t, _, _, rfl, .ty "bool", ht, k2, _, rfl, fin0 g (Same.refl H) q⟩
  | _ => exact iteF (fin0 g (Same.refl H) q)
def spIsNum (CP : Addr) : Sp := fun vs H Q _ => ∃ v, vs = [v] ∧ Good H ∧ Kn CP H v ∧ Q (.bl (isN v)) H
theorem c_is_number (D : DefAt K mg "is_number" s_is_number) (T : Txt K mg CP CR E) (c_is_integer : Cal P w K mg base "is_integer" 1 ["value"] (spIsInt CP)) : Cal P w K mg base "is_number" 2 ["value"] (spIsNum CP) := by
  refine cal_of D sc_is_number (fun _ _ _ _ _ _ us hl => match us, hl with | [_], _ => rfl) (fun vs H Q E' h => ?_) (fun f cdv A outer s H vs Q E' hr h => ?_)
  · obtain ⟨v, rfl, _⟩ := h
    rfl
  obtain ⟨v, rfl, g, kn, q⟩ := h
  refine ⟨_, (pss_one (ps_ret (pe_and (pe_cal c_is_integer hr (pa_cons (pv 0) pa_nil)) (pe_one (pe_cmpR op_ge (pv 0) pe_int (nomark _)))))), ?_⟩
  refine ⟨_, rfl, v, rfl, g, kn, _, rfl, ?_⟩
  cases v with
  | int i => exact iteT ⟨_, rfl, _, _, rfl, rfl, fin0 g (Same.refl H) q⟩
  | _ => exact iteF (fin0 g (Same.refl H) q)
/-! ### wrong_shape -/
theorem cal_none {x : Str} {st : Stmt} {ps : List Str} {sp : Sp} (D : DefAt K mg x st) (bb : BindsBy x x st ps) (no : ∀ vs H Q E, ¬ sp vs H Q E) : Cal P w K mg base x 0 ps sp := by
  obtain ⟨f, fd, h1, F⟩ := D.ex
  exact ⟨f, fd, h1, F.kp, F.bindsN bb, fun vs H Q E h => absurd h (no vs H Q E), fun A outer s H args us vs Q E _ _ _ _ h => absurd h (no vs H Q E)⟩
def spWS (n : Nat) : Sp := fun vs H Q _ => ∃ v s, vs = [v] ∧ Good H ∧ ShV H v s ∧ s.dp < n ∧ Q .non H
/-- the parts of a shape, as a tuple -/
theorem ShV.tup {H : Hp} {v : V} {s : Sh} (h : ShV H v s) : ∃ (a : Addr) (xs : List V), v = .ref a ∧ H a = some (.tup xs) ∧ (xs.length = 0 ∨ xs.length = 2) ∧ ∀ (i : Nat) (x : V), xs[i]? = some x → ∃ u, ShV H x u ∧ u.dp < s.dp := by
  cases s with
  | o =>
    obtain ⟨a, rfl, h1⟩ := h
    exact ⟨a, [], rfl, h1, .inl rfl, fun i x e => by simp at e⟩
  | n l r =>
    obtain ⟨a, x, y, rfl, h1, h2, h3⟩ := h
    refine ⟨a, [x, y], rfl, h1, .inr rfl, fun i z e => ?_⟩
    have e1 : Sh.dp (.n l r) = max l.dp r.dp + 1 := rfl
    match i, e with
    | 0, e =>
      cases e
      exact ⟨l, h2, by omega⟩
    | 1, e =>
      cases e
      exact ⟨r, h3, by omega⟩
    | i + 2, e => simp at e
theorem c_wrong_shape (D : DefAt K mg "wrong_shape" s_wrong_shape) (T : Txt K mg CP CR E) : ∀ n, Cal P w K mg base "wrong_shape" n ["value"] (spWS n)
  | 0 => cal_none D (fun _ _ _ _ _ _ us hl => match us, hl with | [_], _ => rfl) fun vs H Q E' h => by
    obtain ⟨v, s, _, _, _, z, _⟩ := h
    exact Nat.not_lt_zero _ z
  | n + 1 => by
    have c_wrong_shape := c_wrong_shape D T n
    refine cal_of D sc_wrong_shape (fun _ _ _ _ _ _ us hl => match us, hl with | [_], _ => rfl) (fun vs H Q E' h => ?_) (fun f cdv A outer s H vs Q E' hr h => ?_)
    · obtain ⟨v, s, rfl, _⟩ := h
      rfl
    obtain ⟨v, sh, rfl, g, hs, hd, q⟩ := h
    obtain ⟨a, xs, rfl, ha, hl, hi⟩ := hs.tup
    refine ⟨_, (pss_cons (ps_if (PW.pt (pw_or (pt_not (pt_val (pe_callB call_isi (by rfl) T.isinstance_ (by decide +kernel) (pa_cons (pv 0) (pa_cons (pe_bltn (v := .ty "tuple") (by rfl) T.tuple_ (by decide +kernel) rfl) pa_nil))))) (pw_or1 (pt_tmp (pt_cmpR op_notIn_seq (pe_callB call_len_seq (by rfl) T.len_ PySem.boot_len (pa_cons (pv 0) pa_nil)) (pe_tup (pa_cons pe_int (pa_cons pe_int pa_nil))) (by rfl)))))) (pss_one (ps_ret (pe_tup pa_nil))) pss_nil) (pss_cons (ps_for PassesOwn.never rfl (pi_enumT (by rfl) T.enumerate_ (pa_cons (pv 0) pa_nil)) (pg_tup rfl (pgs_cons (pg_name (i := 1) sc_wrong_shape.nd rfl (Or.inl rfl)) (pgs_cons (pg_name (i := 2) sc_wrong_shape.nd rfl (Or.inl rfl)) pgs_nil))) (pss_cons (ps_set (i := 3) sc_wrong_shape.nd rfl (Or.inl rfl) (pe_cal c_wrong_shape hr (pa_cons (pv 2) pa_nil) (Nat.le_refl _))) (pss_one (ps_if (pt_cmpR op_notN (pv 3) pe_non (nomark _)) (pss_one ps_never) pss_nil)))) (pss_one (ps_ret pe_non)))), ?_⟩
    refine ⟨_, rfl, _, _, _, _, _, rfl, .ty "tuple", .base (.tup ha), kit_ty (by decide +kernel : kitB "tuple" "tuple" = some true), _, rfl, iteF ?_⟩
    refine ⟨g, _, rfl, a, xs, rfl, .inr (SqT.of ha), (by show 2 ≤ sizeLine; decide), fun p hp => ?_⟩
    refine ⟨p, _, rfl, .inr (SqT.of upd_same), rfl, rfl, _, rfl, same_new hp, ?_⟩
    have e : inV (.int (xs.length : Int)) [.int 0, .int 2] = true := by
      rcases hl with z | z <;> rw [z] <;> rfl
    have e2 : (if true = true then !inV (.int (xs.length : Int)) [.int 0, .int 2] else inV (.int (xs.length : Int)) [.int 0, .int 2]) = false := by
      rw [e]
      rfl
    show if (if true = true then !inV (.int (xs.length : Int)) [.int 0, .int 2] else inV (.int (xs.length : Int)) [.int 0, .int 2]) = true then _ else _
    rw [e2]
    refine iteF ?_
    refine ⟨_, rfl, a, xs, rfl, SqT.of ha, for_enumT (K := K) (xs := xs) (fun i σ H' => ∃ x1 x2 x3 : Option V, σ = [some (.ref a), x1, x2, x3] ∧ Good H' ∧ Same H H') ⟨none, none, none, rfl, g, Same.refl H⟩ (fun i σ H' _ h => ?_) ?_ ?_⟩
    · obtain ⟨_, _, _, _, _, sm⟩ := h
      exact SqT.of (sm _ _ ha)
    · rintro i x σ H' T' hx ⟨x1, x2, x3, rfl, g', sm⟩ hT
      obtain ⟨u, hu, hud⟩ := hi i x hx
      refine ⟨T', _, rfl, SqT.of upd_same, rfl, _, _, rfl, _, _, rfl, rfl, ?_⟩
      refine ⟨_, rfl, x, u, rfl, g'.tup hT, ShV.mono (TM.of (Same.upd sm (Same.free sm hT))) hu, by omega, ?_⟩
      refine ⟨_, rfl, rfl, _, rfl, iteF ?_⟩
      exact ⟨_, _, _, rfl, g'.tup hT, Same.upd sm (Same.free sm hT)⟩
    · rintro σ H' ⟨x1, x2, x3, rfl, g', sm⟩
      exact fin0 g sm q
end
end KL

namespace KL
open PySem PySem.Spec L2
open PyProof.Rows hiding St
/-! ### tables and plans as data -/
structure TbB (t : Tb) : Prop where
  ok : TbOk t
  le : t.length ≤ 11
theorem TbB.dp {t : Tb} (b : TbB t) {s : Sh} (h : s ∈ t) : s.dp ≤ 11 ∧ s.sz ≤ 12 := by
  obtain ⟨i, hi, e⟩ := List.mem_iff_getElem.mp h
  have h1 := b.ok.sz i hi
  have h2 := b.le
  have h3 := s.dp_lt
  rw [e] at h1
  omega
theorem TbB.entB {t : Tb} (b : TbB t) {m : Nat} (h1 : 1 ≤ m) (h2 : m ≤ bs t) : (ent t m).dp ≤ 11 ∧ (ent t m).sz ≤ 12 := by
  have h3 := ent_sz b.ok h1 h2
  have h4 := (ent t m).dp_lt
  have h5 := b.le
  have h6 : bs t = t.length + 1 := rfl
  omega
structure PlB (P : Pl) : Prop where
  ok : PlOk P
  t1 : ∀ t ∈ P.tabs, TbB t
  t2 : ∀ ts, P.en = .round ts → ∀ t ∈ ts, TbB t
theorem PlB.stage {P : Pl} (b : PlB P) {k : Nat} {t : Tb} (h : P.stage k = some t) : TbB t := by
  unfold Pl.stage at h
  by_cases e : k < P.tabs.length
  · rw [if_pos e] at h
    exact b.t1 t (List.mem_of_getElem? h)
  · rw [if_neg e] at h
    cases q : P.en with
    | left =>
      rw [q] at h
      cases h
    | right =>
      rw [q] at h
      cases h
    | round ts =>
      rw [q] at h
      exact b.t2 ts q t (List.mem_of_getElem? h)
def tbD (t : Tb) : PyData := .tuple (t.map Sh.d)
def tsD (ts : List Tb) : PyData := .tuple (ts.map tbD)
theorem tbD_lay (t : Tb) : (tbD t).canLay0 = true := lays t
theorem tbD_dp {t : Tb} (b : TbB t) : (tbD t).depth ≤ 13 := by
  have h : PyData.depthAll (t.map Sh.d) ≤ 12 := depths (n := 11) fun s hs => (b.dp hs).1
  show PyData.depthAll (t.map Sh.d) + 1 ≤ 13
  omega
theorem tsD_lay : ∀ ts : List Tb, PyData.canLayAll0 (ts.map tbD) = true
  | [] => rfl
  | t :: r => by
    show ((tbD t).canLay0 && PyData.canLayAll0 (r.map tbD)) = true
    rw [tbD_lay t, tsD_lay r]
    rfl
theorem tsD_dp : ∀ {ts : List Tb}, (∀ t ∈ ts, TbB t) → PyData.depthAll (ts.map tbD) ≤ 13
  | [], _ => Nat.zero_le _
  | t :: r, h => by
    have h1 := tbD_dp (h t (List.mem_cons_self ..))
    have h2 := tsD_dp (ts := r) fun x hx => h x (List.mem_cons_of_mem _ hx)
    show max (tbD t).depth (PyData.depthAll (r.map tbD)) ≤ 13
    omega
theorem tbD_sh {t : Tb} (b : TbB t) : SeqAt.shaped (tbD t) = true := shaped_of (tbD_lay t) (by have := tbD_dp b; omega)
theorem tsD_sh {ts : List Tb} (b : ∀ t ∈ ts, TbB t) : SeqAt.shaped (tsD ts) = true := shaped_of (tsD_lay ts) (by
  have := tsD_dp b
  show PyData.depthAll (ts.map tbD) + 1 ≤ 64
  omega)
theorem TbV.dat {K : PySem.W.Frag} {H : Hp} {v : V} {t : Tb} (h : TbV H v t) : Dp K H v (tbD t) := by
  obtain ⟨a, xs, rfl, h1, h2⟩ := h
  exact .tup (SqT.of h1) (ShVs.dat h2)
theorem TbVs.dat {K : PySem.W.Frag} {H : Hp} : ∀ {xs : List V} {ts : List Tb}, Paired (TbV H) xs ts → DpAll K H xs (ts.map tbD)
  | _, _, .nil => .nil
  | _, _, .cons r t => .cons (TbV.dat r) (TbVs.dat t)
theorem TsV.dat {K : PySem.W.Frag} {H : Hp} {v : V} {ts : List Tb} (h : TsV H v ts) : Dp K H v (tsD ts) := by
  obtain ⟨a, xs, rfl, h1, h2⟩ := h
  exact .tup (SqT.of h1) (TbVs.dat h2)
def enD : En → PyData
  | .left => .str "left"
  | .right => .str "right"
  | .round ts => tsD ts
theorem EnV.dat {K : PySem.W.Frag} {H : Hp} {v : V} {e : En} (h : EnV H v e) : Dp K H v (enD e) := by
  cases e with
  | left =>
    cases h
    exact .str _
  | right =>
    cases h
    exact .str _
  | round ts => exact TsV.dat h
/-! ### a Plan -/
def plF (tv ev : V) : List (Str × V) := putF "own_end" ev (putF "own_tables" tv [])
theorem ne_te : ¬ (("own_tables" : Str) = "own_end") := by decide +kernel
theorem plF_t (tv ev : V) : (plF tv ev).lookup ("own_tables" : Str) = some tv := by
  unfold plF
  rw [lookup_putF, if_neg ne_te, lookup_putF, if_pos rfl]
theorem plF_e (tv ev : V) : (plF tv ev).lookup ("own_end" : Str) = some ev := by
  unfold plF
  rw [lookup_putF, if_pos rfl]
theorem plF_no (tv ev : V) {m : Str} (h1 : ¬ m = "own_end") (h2 : ¬ m = "own_tables") : (plF tv ev).lookup m = none := by
  unfold plF
  rw [lookup_putF, if_neg h1, lookup_putF, if_neg h2]
  rfl
structure PlAt (CP : Addr) (H : Hp) (p : Addr) (tv ev : V) (Q : Pl) : Prop where
  ob : ∃ dx, H p = some (.ins CP dx (plF tv ev))
  ts : TsV H tv Q.tabs
  en : EnV H ev Q.en
def PlV (CP : Addr) (H : Hp) (v : V) (Q : Pl) : Prop := ∃ p tv ev, v = .ref p ∧ PlAt CP H p tv ev Q
/-- what a stage is -/
def StV (H : Hp) (v : V) : Option Tb → Prop
  | some t => TbV H v t
  | none => v = .non
theorem pe_never {X : Cx} {e : Expr} : PE X e (fun _ _ _ => False) := ⟨fun _ _ _ _ _ _ h => h.elim⟩
section
variable {P : Program} {w : World} {K : PySem.W.Frag} {mg : Str → Option Value} {base : Heap} {CP CR E : Addr}
/-! ### wrong_sizes, wrong_table -/
def spWSz : Sp := fun vs H Q _ => ∃ v t, vs = [v] ∧ Good H ∧ TbV H v t ∧ TbB t ∧ Q .non H
theorem c_wrong_sizes (D : DefAt K mg "wrong_sizes" s_wrong_sizes) (T : Txt K mg CP CR E) (c_size_of : Cal P w K mg base "size_of" 1 ["shape"] spSize) : Cal P w K mg base "wrong_sizes" 2 ["shapes"] spWSz := by
  refine cal_of D sc_wrong_sizes (fun _ _ _ _ _ _ us hl => match us, hl with | [_], _ => rfl) (fun vs H Q E' h => ?_) (fun f cdv A outer s H vs Q E' hr h => ?_)
  · obtain ⟨v, t, rfl, _⟩ := h
    rfl
  obtain ⟨v, t, rfl, g, ⟨a, xs, rfl, ha, hp⟩, tb, q⟩ := h
  refine ⟨_, (pss_cons (ps_for PassesOwn.never rfl (pi_enumT (by rfl) T.enumerate_ (pa_cons (pv 0) pa_nil)) (pg_tup rfl (pgs_cons (pg_name (i := 1) sc_wrong_sizes.nd rfl (Or.inl rfl)) (pgs_cons (pg_name (i := 2) sc_wrong_sizes.nd rfl (Or.inl rfl)) pgs_nil))) (pss_one (ps_if (pt_cmpR op_ne (pe_cal c_size_of hr (pa_cons (pv 2) pa_nil)) (pe_op op_add (pv 1) pe_int) (nomark _)) (pss_one (ps_ret (pe_tup (pa_cons (pv 1) pa_nil)))) pss_nil))) (pss_one (ps_ret pe_non))), ?_⟩
  refine ⟨_, rfl, a, xs, rfl, SqT.of ha, for_enumT (K := K) (xs := xs) (fun i σ H' => ∃ x1 x2 : Option V, σ = [some (.ref a), x1, x2] ∧ Good H' ∧ Same H H') ⟨none, none, rfl, g, Same.refl H⟩ (fun i σ H' _ h => ?_) ?_ ?_⟩
  · obtain ⟨_, _, _, _, sm⟩ := h
    exact SqT.of (sm _ _ ha)
  · rintro i x σ H' T' hx ⟨x1, x2, rfl, g', sm⟩ hT
    obtain ⟨u, hu, hxu⟩ := Paired.at' hp hx
    have hi := (List.getElem?_eq_some_iff.mp hu).1
    have hmem : u ∈ t := List.mem_of_getElem? hu
    have esz : u.sz = i + 2 := by
      rw [← tb.ok.sz i hi, (List.getElem?_eq_some_iff.mp hu).2]
    have sm2 := Same.upd sm (Same.free sm hT) (o := .tup [.int (i : Nat), x])
    refine ⟨T', _, rfl, SqT.of upd_same, rfl, _, _, rfl, _, _, rfl, rfl, ?_⟩
    refine ⟨_, rfl, x, u, rfl, g'.tup hT, ShV.mono (TM.of sm2) hxu, by have := tb.dp hmem; omega, ?_⟩
    refine ⟨_, rfl, _, _, rfl, rfl, rfl, _, rfl, iteNS (by rw [esz]; rfl) ?_⟩
    exact ⟨_, _, rfl, g'.tup hT, sm2⟩
  · rintro σ H' ⟨x1, x2, rfl, g', sm⟩
    exact fin0 g sm q
theorem c_wrong_table (D : DefAt K mg "wrong_table" s_wrong_table) (T : Txt K mg CP CR E) (c_wrong_shape : Cal P w K mg base "wrong_shape" 12 ["value"] (spWS 12)) (c_wrong_sizes : Cal P w K mg base "wrong_sizes" 2 ["shapes"] spWSz) : Cal P w K mg base "wrong_table" 13 ["value"] spWSz := by
  refine cal_of D sc_wrong_table (fun _ _ _ _ _ _ us hl => match us, hl with | [_], _ => rfl) (fun vs H Q E' h => ?_) (fun f cdv A outer s H vs Q E' hr h => ?_)
  · obtain ⟨v, t, rfl, _⟩ := h
    rfl
  obtain ⟨v, t, rfl, g, tv, tb, q⟩ := h
  obtain ⟨a, xs, rfl, ha, hp⟩ := id tv
  have hu := hr.units
  refine ⟨_, (pss_cons (ps_if (PW.pt (pw_or (pt_not (pt_val (pe_callB call_isi (by rfl) T.isinstance_ (by decide +kernel) (pa_cons (pv 0) (pa_cons (pe_bltn (v := .ty "tuple") (by rfl) T.tuple_ (by decide +kernel) rfl) pa_nil))))) (pw_or1 (pt_isE hu (pv 0))))) (pss_one (ps_ret (pe_tup pa_nil))) pss_nil) (pss_cons (ps_for PassesOwn.never rfl (pi_enumT (by rfl) T.enumerate_ (pa_cons (pv 0) pa_nil)) (pg_tup rfl (pgs_cons (pg_name (i := 1) sc_wrong_table.nd rfl (Or.inl rfl)) (pgs_cons (pg_name (i := 2) sc_wrong_table.nd rfl (Or.inl rfl)) pgs_nil))) (pss_cons (ps_set (i := 3) sc_wrong_table.nd rfl (Or.inl rfl) (pe_cal c_wrong_shape hr (pa_cons (pv 2) pa_nil))) (pss_one (ps_if (pt_cmpR op_notN (pv 3) pe_non (nomark _)) (pss_one ps_never) pss_nil)))) (pss_one (ps_ret (pe_cal c_wrong_sizes hr (pa_cons (pv 0) pa_nil)))))), ?_⟩
  refine ⟨_, rfl, _, _, _, _, _, rfl, .ty "tuple", .base (.tup ha), kit_ty (by decide +kernel : kitB "tuple" "tuple" = some true), _, rfl, iteF ?_⟩
  refine ⟨_, rfl, g, tbD t, fun H2 s2 => TbV.dat (TbV.mono (TM.of s2) tv), tbD_sh tb, ?_⟩
  have e : PyData.eqv (tbD t) (.tuple []) = false := by
    have h := tb.ok.ne
    cases t with
    | nil => cases h
    | cons s r => rfl
  rw [e]
  refine iteF ?_
  refine ⟨_, rfl, a, xs, rfl, SqT.of ha, for_enumT (K := K) (xs := xs) (fun i σ H' => ∃ x1 x2 x3 : Option V, σ = [some (.ref a), x1, x2, x3] ∧ Good H' ∧ Same H H') ⟨none, none, none, rfl, g, Same.refl H⟩ (fun i σ H' _ h => ?_) ?_ ?_⟩
  · obtain ⟨_, _, _, _, _, sm⟩ := h
    exact SqT.of (sm _ _ ha)
  · rintro i x σ H' T' hx ⟨x1, x2, x3, rfl, g', sm⟩ hT
    obtain ⟨u, hu, hxu⟩ := Paired.at' hp hx
    have hmem : u ∈ t := List.mem_of_getElem? hu
    have sm2 := Same.upd sm (Same.free sm hT) (o := .tup [.int (i : Nat), x])
    refine ⟨T', _, rfl, SqT.of upd_same, rfl, _, _, rfl, _, _, rfl, rfl, ?_⟩
    refine ⟨_, rfl, x, u, rfl, g'.tup hT, ShV.mono (TM.of sm2) hxu, by have := tb.dp hmem; omega, ?_⟩
    refine ⟨_, rfl, rfl, _, rfl, iteF ?_⟩
    exact ⟨_, _, _, rfl, g'.tup hT, sm2⟩
  · rintro σ H' ⟨x1, x2, x3, rfl, g', sm⟩
    exact ⟨_, rfl, _, t, rfl, g', TbV.mono (TM.of sm) tv, tb, fin0 g sm q⟩
/-! ### table_size, entry -/
def spTSize : Sp := fun vs H Q _ => ∃ v t, vs = [v] ∧ Good H ∧ TbV H v t ∧ Q (.int (bs t : Nat)) H
theorem c_table_size (D : DefAt K mg "table_size" s_table_size) (T : Txt K mg CP CR E) : Cal P w K mg base "table_size" 1 ["table"] spTSize := by
  refine cal_of D sc_table_size (fun _ _ _ _ _ _ us hl => match us, hl with | [_], _ => rfl) (fun vs H Q E' h => ?_) (fun f cdv A outer s H vs Q E' hr h => ?_)
  · obtain ⟨v, t, rfl, _⟩ := h
    rfl
  obtain ⟨v, t, rfl, g, ⟨a, xs, rfl, ha, hp⟩, q⟩ := h
  refine ⟨_, (pss_one (ps_ret (pe_op op_add (pe_callB call_len_seq (by rfl) T.len_ PySem.boot_len (pa_cons (pv 0) pa_nil)) pe_int))), ?_⟩
  refine ⟨_, rfl, a, xs, rfl, .inr (SqT.of ha), _, _, rfl, rfl, fin0 g (Same.refl H) ?_⟩
  rw [hp.length]
  exact q
def spEntry : Sp := fun vs H Q _ => ∃ v t, ∃ m : Nat, vs = [v, .int m] ∧ Good H ∧ TbV H v t ∧ 1 ≤ m ∧ m ≤ bs t ∧ ∀ v' H', Same H H' → Good H' → ShV H' v' (ent t m) → Q v' H'
theorem ent_at {t : Tb} {m : Nat} (h1 : m ≠ 1) (h2 : m - 2 < t.length) : t[m - 2]? = some (ent t m) := by
  unfold ent
  rw [if_neg h1, List.getD_eq_getElem?_getD, List.getElem?_eq_getElem h2]
  rfl
theorem c_entry (D : DefAt K mg "entry" s_entry) (T : Txt K mg CP CR E) : Cal P w K mg base "entry" 1 ["table", "m"] spEntry := by
  refine cal_of D sc_entry (fun _ _ _ _ _ _ us hl => match us, hl with | [_, _], _ => rfl) (fun vs H Q E' h => ?_) (fun f cdv A outer s H vs Q E' hr h => ?_)
  · obtain ⟨v, t, m, rfl, _⟩ := h
    rfl
  obtain ⟨v, t, m, rfl, g, ⟨a, xs, rfl, ha, hp⟩, h1, h2, q⟩ := h
  refine ⟨_, (pss_one (ps_ret (pe_ifExp (pt_cmpR op_eq (pv 1) pe_int (nomark _)) (pe_tup pa_nil) (pe_ix ix_tup (pv 0) (pe_op op_sub (pv 1) pe_int) (fun _ _ => rfl))))), ?_⟩
  refine ⟨_, rfl, rfl, _, rfl, ?_⟩
  by_cases e : m = 1
  · subst e
    refine iteT ?_
    refine ⟨by show 0 ≤ sizeLine; decide, fun p hp' => ?_⟩
    exact fin1 (g.tup hp') (same_new hp') (q _ _ (same_new hp') (g.tup hp') ⟨p, rfl, upd_same⟩)
  · have e2 : decide (V.int (m : Int) = V.int 1) = false := decide_eq_false (fun z => e (by injection z with z; omega))
    show if decide (V.int (m : Int) = V.int 1) = true then _ else _
    rw [e2]
    refine iteF ?_
    have h3 : bs t = t.length + 1 := rfl
    have h4 : m - 2 < t.length := by omega
    obtain ⟨x, hx, hxs⟩ := Paired.atr hp (ent_at e h4)
    refine ⟨_, rfl, _, rfl, _, _, rfl, rfl, ?_⟩
    refine ⟨a, xs, (m : Int) - 2, x, rfl, rfl, SqT.of ha, at_of (j := m - 2) (by omega) hx, ?_⟩
    exact fin0 g (Same.refl H) (q _ _ (Same.refl H) g hxs)
/-! ### wrong_member, wrong_plan -/
def spWM : Sp := fun vs H Q _ => ∃ v ts, vs = [v] ∧ Good H ∧ TsV H v ts ∧ (∀ t ∈ ts, TbB t) ∧ Q .non H
theorem c_wrong_member (D : DefAt K mg "wrong_member" s_wrong_member) (T : Txt K mg CP CR E) (c_wrong_table : Cal P w K mg base "wrong_table" 13 ["value"] spWSz) : Cal P w K mg base "wrong_member" 14 ["tables"] spWM := by
  refine cal_of D sc_wrong_member (fun _ _ _ _ _ _ us hl => match us, hl with | [_], _ => rfl) (fun vs H Q E' h => ?_) (fun f cdv A outer s H vs Q E' hr h => ?_)
  · obtain ⟨v, t, rfl, _⟩ := h
    rfl
  obtain ⟨v, ts, rfl, g, ⟨a, xs, rfl, ha, hp⟩, tb, q⟩ := h
  refine ⟨_, (pss_cons (ps_for PassesOwn.never rfl (pi_enumT (by rfl) T.enumerate_ (pa_cons (pv 0) pa_nil)) (pg_tup rfl (pgs_cons (pg_name (i := 1) sc_wrong_member.nd rfl (Or.inl rfl)) (pgs_cons (pg_name (i := 2) sc_wrong_member.nd rfl (Or.inl rfl)) pgs_nil))) (pss_cons (ps_set (i := 3) sc_wrong_member.nd rfl (Or.inl rfl) (pe_cal c_wrong_table hr (pa_cons (pv 2) pa_nil))) (pss_one (ps_if (pt_cmpR op_notN (pv 3) pe_non (nomark _)) (pss_one ps_never) pss_nil)))) (pss_one (ps_ret pe_non))), ?_⟩
  refine ⟨_, rfl, a, xs, rfl, SqT.of ha, for_enumT (K := K) (xs := xs) (fun i σ H' => ∃ x1 x2 x3 : Option V, σ = [some (.ref a), x1, x2, x3] ∧ Good H' ∧ Same H H') ⟨none, none, none, rfl, g, Same.refl H⟩ (fun i σ H' _ h => ?_) ?_ ?_⟩
  · obtain ⟨_, _, _, _, _, sm⟩ := h
    exact SqT.of (sm _ _ ha)
  · rintro i x σ H' T' hx ⟨x1, x2, x3, rfl, g', sm⟩ hT
    obtain ⟨u, hu, hxu⟩ := Paired.at' hp hx
    have sm2 := Same.upd sm (Same.free sm hT) (o := .tup [.int (i : Nat), x])
    refine ⟨T', _, rfl, SqT.of upd_same, rfl, _, _, rfl, _, _, rfl, rfl, ?_⟩
    refine ⟨_, rfl, x, u, rfl, g'.tup hT, TbV.mono (TM.of sm2) hxu, tb u (List.mem_of_getElem? hu), ?_⟩
    refine ⟨_, rfl, rfl, _, rfl, iteF ?_⟩
    exact ⟨_, _, _, rfl, g'.tup hT, sm2⟩
  · rintro σ H' ⟨x1, x2, x3, rfl, g', sm⟩
    exact fin0 g sm q
def spWP : Sp := fun vs H Q _ => ∃ tv ev R, vs = [tv, ev] ∧ Good H ∧ TsV H tv (Pl.tabs R) ∧ EnV H ev (Pl.en R) ∧ PlB R ∧ Q .non H
theorem c_wrong_plan (D : DefAt K mg "wrong_plan" s_wrong_plan) (T : Txt K mg CP CR E) (c_wrong_member : Cal P w K mg base "wrong_member" 14 ["tables"] spWM) : Cal P w K mg base "wrong_plan" 15 ["tables", "end"] spWP := by
  refine cal_of D sc_wrong_plan (fun _ _ _ _ _ _ us hl => match us, hl with | [_, _], _ => rfl) (fun vs H Q E' h => ?_) (fun f cdv A outer s H vs Q E' hr h => ?_)
  · obtain ⟨v, t, R, rfl, _⟩ := h
    rfl
  obtain ⟨tv, ev, R, rfl, g, ht, he, pb, q⟩ := h
  have hu := hr.units
  refine ⟨_, (pss_cons (ps_if (pt_not (pt_tmp (pt_val (pe_callB call_isiT (by rfl) T.isinstance_ (by decide +kernel) (pa_cons (pv 0) (pa_cons (pe_tup (pa_cons (pe_bltn (v := .ty "list") (by rfl) T.list_ (by decide +kernel) rfl) (pa_cons (pe_bltn (v := .ty "tuple") (by rfl) T.tuple_ (by decide +kernel) rfl) pa_nil))) pa_nil)))))) (pss_one (ps_ret (pe_tup (pa_cons pe_int pa_nil)))) pss_nil) (pss_cons (ps_set (i := 2) sc_wrong_plan.nd rfl (Or.inl rfl) (pe_cal c_wrong_member hr (pa_cons (pv 0) pa_nil))) (pss_cons (ps_if (pt_cmpR op_notN (pv 2) pe_non (nomark _)) (pss_one ps_never) pss_nil) (pss_cons (ps_if (PW.pt (pw_and (pt_val (pe_callB call_isi (by rfl) T.isinstance_ (by decide +kernel) (pa_cons (pv 1) (pa_cons (pe_bltn (v := .ty "str") (by rfl) T.str_ (by decide +kernel) rfl) pa_nil)))) (pw_and1 (pt_cmpR op_in_seq (pv 1) (pe_glob (v := .ref E) (by rfl) T.ends rfl) (by rfl))))) (pss_one (ps_ret pe_non)) pss_nil) (pss_cons (ps_if (PW.pt (pw_or (pt_not (pt_val (pe_callB call_isi (by rfl) T.isinstance_ (by decide +kernel) (pa_cons (pv 1) (pa_cons (pe_bltn (v := .ty "tuple") (by rfl) T.tuple_ (by decide +kernel) rfl) pa_nil))))) (pw_or1 (pt_isE hu (pv 1))))) (pss_one (ps_ret (pe_tup (pa_cons pe_int pa_nil)))) pss_nil) (pss_cons (ps_set (i := 2) sc_wrong_plan.nd rfl (Or.inl rfl) (pe_cal c_wrong_member hr (pa_cons (pv 1) pa_nil))) (pss_one (ps_ret (pe_ifExp (pt_cmpR op_isN (pv 2) pe_non (nomark _)) pe_non pe_never))))))))), ?_⟩
  obtain ⟨a, xs, rfl, ha, hp⟩ := id ht
  refine ⟨g, _, rfl, by show 2 ≤ sizeLine; decide, fun p hp' => ?_⟩
  refine ⟨_, p, _, _, [.type "list", .type "tuple"], _, rfl, upd_same, .cons (.ty "list") (.cons (.ty "tuple") .nil), .base (.tup (same_new hp' _ _ ha)),
    kitAny_cons (b := false) (r := true) (kit_ty (by decide +kernel : kitB "tuple" "list" = some false)) (fun _ => kitAny_cons (b := true) (kit_ty (by decide +kernel : kitB "tuple" "tuple" = some true)) (fun z => nomatch z) fun _ => rfl) (fun _ => rfl), _, rfl, same_new hp', iteF ?_⟩
  refine ⟨_, rfl, _, R.tabs, rfl, g, ht, pb.t1, ?_⟩
  refine ⟨_, rfl, rfl, _, rfl, iteF ?_⟩
  cases hen : R.en with
  | left =>
    rw [hen] at he
    cases he
    refine ⟨_, rfl, _, _, _, _, _, rfl, .ty "str", .base (.str _), kit_ty (by decide +kernel : kitB "str" "str" = some true), _, rfl, iteT ?_⟩
    refine ⟨_, rfl, E, _, rfl, .inr (T.endsT H), rfl, rfl, _, rfl, ?_⟩
    have e : inV (.str "left") [.str "left", .str "right"] = true := by decide +kernel
    show if (if false = true then !inV (.str "left") [.str "left", .str "right"] else inV (.str "left") [.str "left", .str "right"]) = true then _ else _
    rw [e]
    exact iteT (fin0 g (Same.refl H) q)
  | right =>
    rw [hen] at he
    cases he
    refine ⟨_, rfl, _, _, _, _, _, rfl, .ty "str", .base (.str _), kit_ty (by decide +kernel : kitB "str" "str" = some true), _, rfl, iteT ?_⟩
    refine ⟨_, rfl, E, _, rfl, .inr (T.endsT H), rfl, rfl, _, rfl, ?_⟩
    have e : inV (.str "right") [.str "left", .str "right"] = true := by decide +kernel
    show if (if false = true then !inV (.str "right") [.str "left", .str "right"] else inV (.str "right") [.str "left", .str "right"]) = true then _ else _
    rw [e]
    exact iteT (fin0 g (Same.refl H) q)
  | round ts =>
    rw [hen] at he
    obtain ⟨b, ys, rfl, hb, hpb⟩ := id he
    refine ⟨_, rfl, _, _, _, _, _, rfl, .ty "str", .base (.tup hb), kit_ty (by decide +kernel : kitB "tuple" "str" = some false), _, rfl, iteF ?_⟩
    refine iteF ?_
    refine ⟨_, rfl, _, _, _, _, _, rfl, .ty "tuple", .base (.tup hb), kit_ty (by decide +kernel : kitB "tuple" "tuple" = some true), _, rfl, iteF ?_⟩
    refine ⟨_, rfl, g, tsD ts, fun H2 s2 => TsV.dat (TsV.mono (TM.of s2) he), tsD_sh (pb.t2 ts hen), ?_⟩
    have e : PyData.eqv (tsD ts) (.tuple []) = false := by
      have h := (pb.ok.rnd ts hen).1
      cases ts with
      | nil => cases h
      | cons s r => rfl
    rw [e]
    refine iteF ?_
    refine ⟨_, rfl, _, ts, rfl, g, he, pb.t2 ts hen, ?_⟩
    exact ⟨_, rfl, rfl, _, rfl, iteT (fin0 g (Same.refl H) q)⟩
end
end KL

namespace KL
open PySem PySem.Spec L2
open PyProof.Rows hiding St
/-! ### the numbers ahead of each stage -/
def cnts (P : Pl) : Nat → Nat → Nat → List Nat
  | 0, _, m => [m]
  | f + 1, k, m => if m ≤ 1 then [m] else match P.stage k with
    | some t => m :: cnts P f (k + 1) (cd m (bs t))
    | none => [m]
def cntF (P : Pl) (n : Nat) : List Nat := cnts P n 0 n
def vi (n : Nat) : V := .int (n : Int)
theorem cnts_ne (P : Pl) : ∀ f k m, 1 ≤ (cnts P f k m).length
  | 0, k, m => Nat.le_refl _
  | f + 1, k, m => by
    unfold cnts
    by_cases e : m ≤ 1
    · rw [if_pos e]
      exact Nat.le_refl _
    · rw [if_neg e]
      cases P.stage k with
      | none => exact Nat.le_refl _
      | some t => exact Nat.succ_le_succ (Nat.zero_le _)
theorem cnts_le (P : Pl) : ∀ f k m, (cnts P f k m).length ≤ f + 1
  | 0, k, m => Nat.le_refl _
  | f + 1, k, m => by
    unfold cnts
    by_cases e : m ≤ 1
    · rw [if_pos e]
      exact Nat.succ_le_succ (Nat.zero_le _)
    · rw [if_neg e]
      cases P.stage k with
      | none => exact Nat.succ_le_succ (Nat.zero_le _)
      | some t => exact Nat.succ_le_succ (cnts_le P f (k + 1) _)
/-- a stage that presses -/
theorem cnts_stage (P : Pl) : ∀ (f k m i : Nat), i + 1 < (cnts P f k m).length → ∃ t, P.stage (k + i) = some t
  | 0, k, m, i, h => by
    have h1 : i + 1 < 1 := h
    omega
  | f + 1, k, m, i, h => by
    unfold cnts at h
    by_cases e : m ≤ 1
    · rw [if_pos e] at h
      have h1 : i + 1 < 1 := h
      omega
    · rw [if_neg e] at h
      cases q : P.stage k with
      | none =>
        rw [q] at h
        have h1 : i + 1 < 1 := h
        omega
      | some t =>
        rw [q] at h
        cases i with
        | zero => exact ⟨t, q⟩
        | succ i =>
          have h1 : i + 1 + 1 < (cnts P f (k + 1) (cd m (bs t))).length + 1 := h
          obtain ⟨t', h2⟩ := cnts_stage P f (k + 1) (cd m (bs t)) i (by omega)
          have e2 : k + (i + 1) = k + 1 + i := by omega
          exact ⟨t', by rw [e2]; exact h2⟩
def wdF (P : Pl) (n : Nat) : List Nat := (List.range (cntF P n).length).map (wf P 0)
/-- pairs of numbers, as they stand -/
def PrV (H : Hp) (v : V) (q : Nat × Nat) : Prop := ∃ t, v = .ref t ∧ H t = some (.tup [vi q.1, vi q.2])
theorem PrV.mono {H H' : Hp} (m : TM H H') {v : V} {q : Nat × Nat} (h : PrV H v q) : PrV H' v q := by
  obtain ⟨t, e, h1⟩ := h
  exact ⟨t, e, m _ _ h1⟩
section
variable {P : Program} {w : World} {K : PySem.W.Frag} {mg : Str → Option Value} {base : Heap} {CP CR E : Addr}
/-! ### Plan -/
theorem PlAt.mono {H H' : Hp} {p : Addr} {tv ev : V} {R : Pl} (s : Same H H') (h : PlAt CP H p tv ev R) : PlAt CP H' p tv ev R := by
  obtain ⟨⟨dx, h1⟩, h2, h3⟩ := h
  exact ⟨⟨dx, s _ _ h1⟩, h2.mono (TM.of s), h3.mono (TM.of s)⟩
theorem PlV.mono {H H' : Hp} {v : V} {R : Pl} (s : Same H H') (h : PlV CP H v R) : PlV CP H' v R := by
  obtain ⟨p, tv, ev, e, h1⟩ := h
  exact ⟨p, tv, ev, e, h1.mono s⟩
def spPI (CP : Addr) : Sp := fun vs H Q _ => ∃ p dx tv ev R, vs = [.ref p, tv, ev] ∧ Good H ∧ H p = some (.ins CP dx []) ∧ TsV H tv (Pl.tabs R) ∧ EnV H ev (Pl.en R) ∧ PlB R ∧ Q .non (upd H p (.ins CP dx (plF tv ev)))
theorem c_Plan_init (D : IDefAt K mg CP "Plan" "Plan.__init__" s_Plan_init) (T : Txt K mg CP CR E) (c_wrong_plan : Cal P w K mg base "wrong_plan" 15 ["tables", "end"] spWP) : ICal P w K mg base CP "Plan" 16 ["self", "tables", "end"] (spPI CP) := by
  refine ical_of D sc_Plan_init (fun _ _ _ _ _ _ us hl => match us, hl with | [_, _, _], _ => rfl) (fun vs H Q E' h => ?_) (fun f cdv A outer s H vs Q E' hr h => ?_)
  · obtain ⟨p, dx, tv, ev, R, rfl, _⟩ := h
    rfl
  obtain ⟨p, dx, tv, ev, R, rfl, g, hp, ht, he, pb, q⟩ := h
  refine ⟨_, (pss_cons (ps_set (i := 3) sc_Plan_init.nd rfl (Or.inl rfl) (pe_cal c_wrong_plan hr (pa_cons (pv 1) (pa_cons (pv 2) pa_nil)))) (pss_cons (ps_if (pt_cmpR op_notN (pv 3) pe_non (nomark _)) (pss_one ps_never) pss_nil) (pss_cons (ps_fld (pv 0) (pe_callTy call_tuple_of (by rfl) T.tuple_ (by decide +kernel) (pa_cons (pv 1) pa_nil)) rfl) (pss_one (ps_fld (pv 0) (pv 2) rfl))))), ?_⟩
  obtain ⟨a, xs, rfl, ha, hx⟩ := id ht
  refine ⟨_, rfl, _, rfl, _, _, R, rfl, g, ht, he, pb, ?_⟩
  refine ⟨_, rfl, rfl, _, rfl, iteF ?_⟩
  refine ⟨_, rfl, a, xs, rfl, .inr ⟨SqT.of ha, ?_⟩⟩
  refine ⟨_, rfl, p, CP, dx, [], rfl, hp, T.clP, T.nT, (by show 0 < 1000; decide), ?_⟩
  refine ⟨_, rfl, _, rfl, p, CP, dx, _, rfl, upd_same, T.clP, T.nE, (by show 1 < 1000; decide), ?_⟩
  rw [upd_self]
  exact fin2 (g.ins' hp) Dom.upd q
def spPEnd (CP : Addr) : Sp := fun vs H Q _ => ∃ p tv ev R, vs = [.ref p] ∧ Good H ∧ PlAt CP H p tv ev R ∧ Q ev H
theorem c_Plan_end (D : MDefAt K CP "end" "Plan.end" s_Plan_end) (T : Txt K mg CP CR E) : MCal P w K mg base CP "end" 1 ["self"] (spPEnd CP) := by
  refine mcal_of D sc_Plan_end (fun _ _ _ _ _ _ us hl => match us, hl with | [_], _ => rfl) (fun vs H Q E' h => ?_) (fun f cdv A outer s H vs Q E' hr h => ?_)
  · obtain ⟨p, tv, ev, R, rfl, _⟩ := h
    rfl
  obtain ⟨p, tv, ev, R, rfl, g, ⟨⟨dx, hp⟩, _, _⟩, q⟩ := h
  refine ⟨_, (pss_one (ps_ret (pe_fld (pv 0) rfl))), ?_⟩
  exact ⟨_, rfl, p, CP, dx, _, _, rfl, hp, T.clP, T.nE, plF_e _ _, fin0 g (Same.refl H) q⟩
def spStage (CP : Addr) : Sp := fun vs H Q _ => ∃ v R, ∃ k : Nat, vs = [v, .int k] ∧ Good H ∧ PlV CP H v R ∧ PlB R ∧ ∀ r, StV H r (Pl.stage R k) → Q r H
theorem ends_d (E : Addr) (T : Txt K mg CP CR E) (H : Hp) : Dp K H (.ref E) (.tuple [.str "left", .str "right"]) := .tup (T.endsT H) (.cons (.str _) (.cons (.str _) .nil))
theorem ends_sh : SeqAt.shaped (.tuple [.str "left", .str "right"]) = true := by decide +kernel
theorem str_sh1 : SeqAt.shaped (.str "left") = true := by decide +kernel
theorem str_sh2 : SeqAt.shaped (.str "right") = true := by decide +kernel
theorem enD_sh {R : Pl} (b : PlB R) : SeqAt.shaped (enD R.en) = true := by
  cases h : R.en with
  | left => exact str_sh1
  | right => exact str_sh2
  | round ts => exact tsD_sh (b.t2 ts h)
def En.flat : En → Bool
  | .round _ => false
  | _ => true
theorem en_in (e : En) : ([.str "left", .str "right"] : List PyData).any (fun z => PyData.eqv z (enD e)) = e.flat := by
  cases e with
  | left => decide +kernel
  | right => decide +kernel
  | round ts => rfl
theorem c_Plan_stage (D : MDefAt K CP "stage" "Plan.stage" s_Plan_stage) (T : Txt K mg CP CR E) : MCal P w K mg base CP "stage" 1 ["self", "k"] (spStage CP) := by
  refine mcal_of D sc_Plan_stage (fun _ _ _ _ _ _ us hl => match us, hl with | [_, _], _ => rfl) (fun vs H Q E' h => ?_) (fun f cdv A outer s H vs Q E' hr h => ?_)
  · obtain ⟨v, R, k, rfl, _⟩ := h
    rfl
  obtain ⟨v, R, k, rfl, g, ⟨p, tv, ev, rfl, ⟨dx, hp⟩, ht, he⟩, pb, q⟩ := h
  have hu : (A.deeper (envOfC "Plan.stage" (L2.defScope s_Plan_stage) s.heap.objs.size f cdv)).units + 65 < cLine := by
    have := hr.un
    omega
  obtain ⟨a, xs, rfl, ha, hx⟩ := id ht
  refine ⟨_, (pss_cons (ps_if (pt_cmpR op_lt (pv 1) (pe_callB call_len_seq (by rfl) T.len_ PySem.boot_len (pa_cons (pe_fld (pv 0) rfl) pa_nil)) (nomark _)) (pss_one (ps_ret (pe_ix ix_tup (pe_fld (pv 0) rfl) (pv 1) (fun _ _ => rfl)))) pss_nil) (pss_cons (ps_if (pt_cmpR (op_inT hu) (pe_fld (pv 0) rfl) (pe_glob (v := .ref E) (by rfl) T.ends rfl) (by rfl)) (pss_one (ps_ret pe_non)) pss_nil) (pss_one (ps_ret (pe_ix ix_tup (pe_fld (pv 0) rfl) (pe_op op_mod (pe_op op_sub (pv 1) (pe_callB call_len_seq (by rfl) T.len_ PySem.boot_len (pa_cons (pe_fld (pv 0) rfl) pa_nil))) (pe_callB call_len_seq (by rfl) T.len_ PySem.boot_len (pa_cons (pe_fld (pv 0) rfl) pa_nil))) (fun _ _ => rfl)))))), ?_⟩
  refine ⟨_, rfl, _, rfl, p, CP, dx, _, _, rfl, hp, T.clP, T.nT, plF_t _ _, a, xs, rfl, .inr (SqT.of ha), _, _, rfl, rfl, _, rfl, ?_⟩
  have hlen := hx.length
  by_cases c : k < R.tabs.length
  · have e : decide ((k : Int) < (xs.length : Int)) = true := decide_eq_true (by omega)
    rw [e]
    refine iteT ?_
    obtain ⟨x, hx1, hx2⟩ := Paired.atr hx (List.getElem?_eq_getElem c)
    refine ⟨_, rfl, p, CP, dx, _, _, rfl, hp, T.clP, T.nT, plF_t _ _, _, rfl, a, xs, (k : Int), x, rfl, rfl, SqT.of ha, atI_nat hx1, fin0 g (Same.refl H) (q _ ?_)⟩
    unfold Pl.stage
    rw [if_pos c, List.getElem?_eq_getElem c]
    exact hx2
  · have e : decide ((k : Int) < (xs.length : Int)) = false := decide_eq_false (by omega)
    rw [e]
    refine iteF ?_
    refine ⟨_, rfl, p, CP, dx, _, _, rfl, hp, T.clP, T.nE, plF_e _ _, _, _, EnV.dat he, ends_d E T H, enD_sh pb, ends_sh, _, rfl, ?_⟩
    rw [en_in]
    cases hen : R.en with
    | left =>
      refine iteT (fin0 g (Same.refl H) (q _ ?_))
      unfold Pl.stage
      rw [if_neg c, hen]
      rfl
    | right =>
      refine iteT (fin0 g (Same.refl H) (q _ ?_))
      unfold Pl.stage
      rw [if_neg c, hen]
      rfl
    | round ts =>
      refine iteF ?_
      rw [hen] at he
      obtain ⟨b, ys, rfl, hb, hy⟩ := id he
      have h1 := (pb.ok.rnd ts hen).1
      have hl2 := hy.length
      have hm : (k - R.tabs.length) % ts.length < ts.length := Nat.mod_lt _ h1
      obtain ⟨y, hy1, hy2⟩ := Paired.atr hy (List.getElem?_eq_getElem hm)
      refine ⟨_, rfl, p, CP, dx, _, _, rfl, hp, T.clP, T.nE, plF_e _ _, _, rfl, _, rfl, p, CP, dx, _, _, rfl, hp, T.clP, T.nT, plF_t _ _, a, xs, rfl, .inr (SqT.of ha), _, _, rfl, rfl, _, rfl, p, CP, dx, _, _, rfl, hp, T.clP, T.nE, plF_e _ _, b, ys, rfl, .inr (SqT.of hb), _, _, rfl, rfl, (by show (0 : Int) < ys.length; omega), ?_⟩
      refine ⟨b, ys, _, y, rfl, rfl, SqT.of hb, at_of (j := (k - R.tabs.length) % ts.length) ?_ hy1, fin0 g (Same.refl H) (q _ ?_)⟩
      · rw [hlen, hl2]
        have e1 : (k : Int) - (R.tabs.length : Int) = ((k - R.tabs.length : Nat) : Int) := by omega
        rw [e1]
        exact (Int.natCast_emod _ _).symm
      · unfold Pl.stage
        rw [if_neg c, hen]
        show StV H y ts[(k - R.tabs.length) % ts.length]?
        rw [List.getElem?_eq_getElem hm]
        exact hy2
end
end KL

namespace KL
open PySem PySem.Spec L2
open PyProof.Rows hiding St
theorem cd_int {m b : Nat} (hm : 1 ≤ m + b) : ((m : Int) + (b : Int) - 1) / (b : Int) = ((cd m b : Nat) : Int) := by
  have e : (m : Int) + (b : Int) - 1 = ((m + b - 1 : Nat) : Int) := by omega
  rw [e]
  exact (Int.natCast_ediv _ _).symm
theorem cnts_done (P : Pl) {f k m : Nat} (h : m ≤ 1 ∨ P.stage k = none) : cnts P f k m = [m] := by
  cases f with
  | zero => rfl
  | succ f =>
    unfold cnts
    by_cases e : m ≤ 1
    · rw [if_pos e]
    · rw [if_neg e]
      rcases h with h | h
      · exact absurd h e
      · rw [h]
theorem cnts_step (P : Pl) {f k m : Nat} {t : Tb} (h1 : 1 < m) (h2 : P.stage k = some t) : cnts P (f + 1) k m = m :: cnts P f (k + 1) (cd m (bs t)) := by
  rw [cnts, if_neg (show ¬ m ≤ 1 by omega), h2]
section
variable {P : Program} {w : World} {K : PySem.W.Frag} {mg : Str → Option Value} {base : Heap} {CP CR E : Addr}
/-- what a method call on a plan's value asks first -/
theorem PlV.ob {H : Hp} {v : V} {R : Pl} (h : PlV CP H v R) : ∃ p dx tv ev, v = .ref p ∧ H p = some (.ins CP dx (plF tv ev)) := by
  obtain ⟨p, tv, ev, e, ⟨dx, h1⟩, _, _⟩ := h
  exact ⟨p, dx, tv, ev, e, h1⟩
theorem no_stage (tv ev : V) : (plF tv ev).lookup ("stage" : Str) = none := plF_no _ _ (by decide +kernel) (by decide +kernel)
theorem no_end (tv ev : V) : (plF tv ev).lookup ("end" : Str) = none := plF_no _ _ (by decide +kernel) (by decide +kernel)
def spCounts (CP : Addr) : Sp := fun vs H Q _ => ∃ v R, ∃ n : Nat, vs = [v, vi n] ∧ Good H ∧ PlV CP H v R ∧ PlB R ∧ 1 ≤ n ∧ n ≤ 1000 ∧ ∀ p, H p = none → Q (.ref p) (upd H p (.lst ((cntF R n).map vi)))
theorem c_counts (D : DefAt K mg "counts" s_counts) (T : Txt K mg CP CR E) (m_stage : MCal P w K mg base CP "stage" 1 ["self", "k"] (spStage CP)) (c_table_size : Cal P w K mg base "table_size" 1 ["table"] spTSize) :
    Cal P w K mg base "counts" 2 ["plan", "n"] (spCounts CP) := by
  refine cal_of D sc_counts (fun _ _ _ _ _ _ us hl => match us, hl with | [_, _], _ => rfl) (fun vs H Q E' h => ?_) (fun f cdv A outer s H vs Q E' hr h => ?_)
  · obtain ⟨v, R, n, rfl, _⟩ := h
    rfl
  obtain ⟨v, R, n, rfl, g, pv_, pb, hn1, hn2, q⟩ := h
  refine ⟨_, (pss_cons (ps_set (i := 2) sc_counts.nd rfl (Or.inl rfl) (pe_lst (pa_cons (pv 1) pa_nil))) (pss_cons (ps_while PassesOwn.never (PW.pt (pw_and (pt_cmpR op_gt (pe_ix ix_list (pv 2) (pe_un un_neg pe_int) (fun _ _ => rfl)) pe_int (nomark _)) (pw_and1 (pt_cmpR op_notN (pe_mcal m_stage T.clP hr (pv 0) (pa_cons (pe_op op_sub (pe_callB call_len_seq (by rfl) T.len_ PySem.boot_len (pa_cons (pv 2) pa_nil)) pe_int) pa_nil)) pe_non (nomark _))))) (pss_cons (ps_set (i := 3) sc_counts.nd rfl (Or.inl rfl) (pe_cal c_table_size hr (pa_cons (pe_mcal m_stage T.clP hr (pv 0) (pa_cons (pe_op op_sub (pe_callB call_len_seq (by rfl) T.len_ PySem.boot_len (pa_cons (pv 2) pa_nil)) pe_int) pa_nil)) pa_nil))) (pss_one (ps_expr (pe_bm PySem.F.plainAttrs_list PySem.F.slot_list_append PySem.F.type_list_append mt_append (pv 2) (pa_cons (pe_op op_fdiv (pe_op op_sub (pe_op op_add (pe_ix ix_list (pv 2) (pe_un un_neg pe_int) (fun _ _ => rfl)) (pv 3)) pe_int) (pv 3)) pa_nil)))))) (pss_one (ps_ret (pv 2))))), ?_⟩
  refine ⟨_, rfl, (by show 1 ≤ sizeLine; decide), fun l hl => ?_⟩
  refine ⟨fun mm σ H' => ∃ (pre : List Nat) (m : Nat) (x : Option V), σ = [some v, some (vi n), some (.ref l), x] ∧ H' = upd H l (.lst (pre.map vi ++ [vi m])) ∧ cntF R n = pre ++ cnts R mm pre.length m ∧ m ≤ mm ∧ 1 ≤ m ∧ pre.length + m ≤ n,
    ⟨n, [], n, none, rfl, rfl, rfl, Nat.le_refl _, hn1, by simp⟩, ?_⟩
  rintro mm σ H' ⟨pre, m, x, rfl, rfl, he, h1, h2, h3⟩
  have gH : Good (upd H l (.lst (pre.map vi ++ [vi m]))) := g.lst hl
  have pvH : PlV CP (upd H l (.lst (pre.map vi ++ [vi m]))) v R := pv_.mono (same_new hl)
  obtain ⟨p, dx, tv, ev, rfl, hp⟩ := pvH.ob
  have hlen : ((pre.map vi ++ [vi m]).length : Int) - 1 = (pre.length : Int) := by
    rw [List.length_append, List.length_map]
    simp
  have fin : cnts R mm pre.length m = [m] → Fin H Q (.ref l) (upd H l (.lst (pre.map vi ++ [vi m]))) := fun e => by
    rw [e] at he
    have q2 := q l hl
    rw [he, List.map_append] at q2
    exact fin1 gH (same_new hl) q2
  refine ⟨_, rfl, _, rfl, l, _, -1, vi m, rfl, rfl, SqL.of upd_same, atI_last _ _, _, _, rfl, rfl, _, rfl, ?_⟩
  by_cases c : 1 < m
  · have e : decide ((1 : Int) < (m : Int)) = true := decide_eq_true (by omega)
    rw [e]
    refine iteT ?_
    refine ⟨_, rfl, p, dx, _, rfl, hp, no_stage _ _, _, rfl, l, _, rfl, .inl (SqL.of upd_same), _, _, rfl, rfl, .ref p, R, pre.length, congrArg (fun z => [V.ref p, V.int z]) hlen, gH, pvH, pb, fun r hr' => ?_⟩
    refine ⟨rfl, _, rfl, ?_⟩
    cases hs : R.stage pre.length with
    | none =>
      rw [hs] at hr'
      cases hr'
      refine iteF ?_
      exact ⟨_, rfl, fin (cnts_done R (.inr hs))⟩
    | some t =>
      rw [hs] at hr'
      have tb := pb.stage hs
      obtain ⟨a, xs, rfl, _⟩ := id hr'
      refine iteT ?_
      refine ⟨Below _ _, below, ?_⟩
      refine ⟨_, rfl, p, dx, _, rfl, hp, no_stage _ _, _, rfl, l, _, rfl, .inl (SqL.of upd_same), _, _, rfl, rfl, .ref p, R, pre.length, congrArg (fun z => [V.ref p, V.int z]) hlen, gH, pvH, pb, fun r2 hr2 => ?_⟩
      rw [hs] at hr2
      refine ⟨_, t, rfl, gH, hr2, ?_⟩
      have b3 : bs t = t.length + 1 := rfl
      have b4 := tb.le
      refine ⟨_, rfl, .inl ⟨rfl, _, SqL.of upd_same⟩, ?_⟩
      refine ⟨_, rfl, _, rfl, l, _, -1, vi m, rfl, rfl, SqL.of upd_same, atI_last _ _, _, rfl, _, _, rfl, rfl, _, _, rfl, rfl, _, rfl, _, _, rfl, rfl, ⟨by omega, by omega⟩, ?_⟩
      refine ⟨l, _, _, rfl, rfl, upd_same, small1000 (by rw [List.length_append, List.length_map]; simp; omega), ?_⟩
      have ecd := cd_int (m := m) (b := bs t) (by omega)
      have tw := tb.ok.two
      have c1 := cd_pos m (bs t) tw (by omega)
      have c2 := cd_lt m (bs t) tw (by omega)
      obtain ⟨mm, rfl⟩ : ∃ z, mm = z + 1 := ⟨mm - 1, by omega⟩
      rw [cnts_step R c hs] at he
      refine ⟨mm, Nat.lt_succ_self _, pre ++ [m], cd m (bs t), some (.int (bs t : Nat)), rfl, ?_, ?_, by omega, c1, ?_⟩
      · show upd (upd H l _) l (HO.lst (List.map vi pre ++ [vi m] ++ [V.int (((m : Int) + (bs t : Int) - 1) / (bs t : Int))])) = _
        rw [upd_self, ecd, List.map_append]
        rfl
      · rw [he, List.append_assoc, List.length_append]
        rfl
      · rw [List.length_append]
        show pre.length + 1 + cd m (bs t) ≤ n
        omega
  · have e : decide ((1 : Int) < (m : Int)) = false := decide_eq_false (by omega)
    rw [e]
    refine iteF ?_
    refine iteF ?_
    exact ⟨_, rfl, fin (cnts_done R (.inl (by omega)))⟩
def spWidths (CP : Addr) : Sp := fun vs H Q _ => ∃ v R, ∃ n : Nat, vs = [v, vi n] ∧ Good H ∧ PlV CP H v R ∧ PlB R ∧ 1 ≤ n ∧ n ≤ 1000 ∧ ∀ p, H p = none → Q (.ref p) (upd H p (.lst ((wdF R n).map vi)))
theorem c_widths (D : DefAt K mg "widths" s_widths) (T : Txt K mg CP CR E) (c_counts : Cal P w K mg base "counts" 2 ["plan", "n"] (spCounts CP)) (m_stage : MCal P w K mg base CP "stage" 1 ["self", "k"] (spStage CP))
    (c_table_size : Cal P w K mg base "table_size" 1 ["table"] spTSize) : Cal P w K mg base "widths" 3 ["plan", "n"] (spWidths CP) := by
  refine cal_of D sc_widths (fun _ _ _ _ _ _ us hl => match us, hl with | [_, _], _ => rfl) (fun vs H Q E' h => ?_) (fun f cdv A outer s H vs Q E' hr h => ?_)
  · obtain ⟨v, R, n, rfl, _⟩ := h
    rfl
  obtain ⟨v, R, n, rfl, g, pv_, pb, hn1, hn2, q⟩ := h
  refine ⟨_, (pss_cons (ps_set (i := 2) sc_widths.nd rfl (Or.inl rfl) (pe_lst (pa_cons pe_int pa_nil))) (pss_cons (ps_for PassesOwn.never rfl (pi_range1 (by rfl) T.range_ (pa_cons (pe_tmp (pe_op op_sub (pe_callB call_len_seq (by rfl) T.len_ PySem.boot_len (pa_cons (pe_cal c_counts hr (pa_cons (pv 0) (pa_cons (pv 1) pa_nil))) pa_nil)) pe_int)) pa_nil)) (pg_name (i := 3) sc_widths.nd rfl (Or.inl rfl)) (pss_one (ps_expr (pe_bm PySem.F.plainAttrs_list PySem.F.slot_list_append PySem.F.type_list_append mt_append (pv 2) (pa_cons (pe_op op_mul (pe_ix ix_list (pv 2) (pe_un un_neg pe_int) (fun _ _ => rfl)) (pe_cal c_table_size hr (pa_cons (pe_mcal m_stage T.clP hr (pv 0) (pa_cons (pv 3) pa_nil)) pa_nil))) pa_nil))))) (pss_one (ps_ret (pv 2))))), ?_⟩
  refine ⟨by show 1 ≤ sizeLine; decide, fun l hl => ?_⟩
  have gH : ∀ ys, Good (upd H l (.lst ys)) := fun ys => g.lst hl
  have pvH : ∀ ys, PlV CP (upd H l (.lst ys)) v R := fun ys => pv_.mono (same_new hl)
  have hlen := cnts_ne R n 0 n
  have hle := cnts_le R n 0 n
  refine ⟨gH _, _, rfl, _, rfl, v, R, n, rfl, gH _, pvH _, pb, hn1, hn2, fun p hp => ⟨p, _, rfl, .inl (SqL.of upd_same), _, _, rfl, rfl, same_new hp, _, rfl, ?_, ?_, ?_⟩⟩
  · rw [List.length_map]
    show -(2 ^ 62) ≤ (((cntF R n).length : Nat) : Int) - 1
    have : 1 ≤ (cntF R n).length := hlen
    omega
  · rw [List.length_map]
    show (((cntF R n).length : Nat) : Int) - 1 < 2 ^ 62
    have : (cntF R n).length ≤ n + 1 := hle
    omega
  have etn : (((((cntF R n).map vi).length : Nat) : Int) - 1).toNat = (cntF R n).length - 1 := by
    rw [List.length_map]
    omega
  refine for_range (lo := 0) (n := (((((cntF R n).map vi).length : Nat) : Int) - 1).toNat) (fun i σ H' => ∃ x, σ = [some v, some (vi n), some (.ref l), x] ∧ H' = upd H l (.lst ((List.range (i + 1)).map fun d => vi (wf R 0 d)))) ⟨none, rfl, rfl⟩ ?_ ?_
  · rintro i σ H' hi ⟨x, rfl, rfl⟩
    rw [etn] at hi
    obtain ⟨t, hs⟩ := cnts_stage R n 0 n i (by
      have : cntF R n = cnts R n 0 n := rfl
      rw [← this]
      omega)
    rw [Nat.zero_add] at hs
    have tb := pb.stage hs
    obtain ⟨p2, dx, tv, ev, rfl, hp2⟩ := (pvH ((List.range (i + 1)).map fun d => vi (wf R 0 d))).ob
    have el : (List.range (i + 1)).map (fun d => vi (wf R 0 d)) = (List.range i).map (fun d => vi (wf R 0 d)) ++ [vi (wf R 0 i)] := by
      rw [List.range_succ, List.map_append]
      rfl
    have b3 : bs t = t.length + 1 := rfl
    have b4 := tb.le
    refine ⟨_, rfl, .inl ⟨rfl, _, SqL.of upd_same⟩, ?_⟩
    refine ⟨_, rfl, _, rfl, l, _, -1, vi (wf R 0 i), rfl, rfl, SqL.of upd_same, by rw [el]; exact atI_last _ _, ?_⟩
    refine ⟨_, rfl, p2, dx, _, rfl, hp2, no_stage _ _, _, rfl, .ref p2, R, i, by rw [Int.zero_add], gH _, pvH _, pb, fun r hr' => ?_⟩
    rw [hs] at hr'
    refine ⟨_, t, rfl, gH _, hr', ?_⟩
    refine ⟨_, _, rfl, rfl, .inr ⟨by omega, by omega⟩, ?_⟩
    refine ⟨l, _, _, rfl, rfl, upd_same, small1000 (by rw [List.length_map, List.length_range]; have : (cntF R n).length ≤ n + 1 := hle; omega), ?_⟩
    rw [upd_self]
    refine ⟨_, rfl, ?_⟩
    congr 1
    rw [List.range_succ (n := i + 1), List.map_append]
    congr 1
    have e2 : wf R 0 (i + 1) = wf R 0 i * bs t := by
      rw [wf_succ, Nat.zero_add]
      unfold bsAt
      rw [hs]
    congr 1
    show [V.int ((wf R 0 i : Int) * (bs t : Int))] = [V.int ((wf R 0 (i + 1) : Nat) : Int)]
    rw [e2, Int.natCast_mul]
  · rintro σ H' ⟨x, rfl, rfl⟩
    refine ⟨_, rfl, ?_⟩
    have q2 := q l hl
    rw [etn]
    have e1 : (cntF R n).length - 1 + 1 = (cntF R n).length := by
      have : 1 ≤ (cntF R n).length := hlen
      omega
    rw [e1]
    unfold wdF at q2
    rw [List.map_map] at q2
    exact fin1 (gH _) (same_new hl) q2
end
end KL

namespace KL
open PySem PySem.Spec L2
open PyProof.Rows hiding St
open Sh (sz dp lumps isL fill)
/-! ### shape_lumps: its two lists -/
def SkV (H : Hp) (v : V) (q : Nat × Sh) : Prop := ∃ t x, v = .ref t ∧ H t = some (.tup [vi q.1, x]) ∧ ShV H x q.2
theorem SkV.mono {H H' : Hp} (m : TM H H') {v : V} {q : Nat × Sh} (h : SkV H v q) : SkV H' v q := by
  obtain ⟨t, x, e, h1, h2⟩ := h
  exact ⟨t, x, e, m _ _ h1, h2.mono m⟩
structure SLt (H H' : Hp) (l1 l2 : Addr) (xs ys : List V) (st : List (Nat × Sh)) (dn : List (Nat × Nat)) : Prop where
  g : Good H'
  sm : Same H H'
  h1 : H' l1 = some (.lst xs)
  h2 : H' l2 = some (.lst ys)
  s : Paired (SkV H') xs st
  d : Paired (PrV H') ys dn
section
variable {H H' : Hp} {l1 l2 T : Addr} {xs ys : List V} {st : List (Nat × Sh)} {dn : List (Nat × Nat)}
theorem SLt.pop {y : V} {q : Nat × Sh} (ne : l1 ≠ l2) (n1 : H l1 = none) (S : SLt H H' l1 l2 (xs ++ [y]) ys (st ++ [q]) dn) (hs : Paired (SkV H') xs st) : SLt H (upd H' l1 (.lst xs)) l1 l2 xs ys st dn where
  g := S.g.lst' S.h1
  sm := Same.upd S.sm n1
  h1 := upd_same
  h2 := by
    rw [upd_ne (Ne.symm ne)]
    exact S.h2
  s := Paired.imp (fun _ _ z => z.mono (TM.lst S.h1)) hs
  d := Paired.imp (fun _ _ z => z.mono (TM.lst S.h1)) S.d
theorem SLt.found {a b : Nat} (ne : l1 ≠ l2) (n2 : H l2 = none) (S : SLt H H' l1 l2 xs ys st dn) (hT : H' T = none) :
    SLt H (upd (upd H' T (.tup [vi a, vi b])) l2 (.lst (ys ++ [.ref T]))) l1 l2 xs (ys ++ [.ref T]) st (dn ++ [(a, b)]) := by
  have h2 : (upd H' T (.tup [vi a, vi b])) l2 = some (.lst ys) := same_new hT _ _ S.h2
  have m : TM H' (upd (upd H' T (.tup [vi a, vi b])) l2 (.lst (ys ++ [.ref T]))) := TM.trans (TM.new hT) (TM.lst h2)
  have tl : T ≠ l2 := (ne_of_none S.h2 hT).symm
  refine ⟨(S.g.tup hT).lst' h2, Same.upd (Same.upd S.sm (S.sm.free hT)) n2, ?_, upd_same, Paired.imp (fun _ _ z => z.mono m) S.s, Paired.app (Paired.imp (fun _ _ z => z.mono m) S.d) (.cons ⟨T, rfl, ?_⟩ .nil)⟩
  · rw [upd_ne ne]
    exact same_new hT _ _ S.h1
  · rw [upd_ne tl, upd_same]
theorem SLt.push {a : Nat} {x : V} {s : Sh} (ne : l1 ≠ l2) (n1 : H l1 = none) (S : SLt H H' l1 l2 xs ys st dn) (hT : H' T = none) (hx : ShV H' x s) :
    SLt H (upd (upd H' T (.tup [vi a, x])) l1 (.lst (xs ++ [.ref T]))) l1 l2 (xs ++ [.ref T]) ys (st ++ [(a, s)]) dn := by
  have h1 : (upd H' T (.tup [vi a, x])) l1 = some (.lst xs) := same_new hT _ _ S.h1
  have m : TM H' (upd (upd H' T (.tup [vi a, x])) l1 (.lst (xs ++ [.ref T]))) := TM.trans (TM.new hT) (TM.lst h1)
  have tl : T ≠ l1 := (ne_of_none S.h1 hT).symm
  refine ⟨(S.g.tup hT).lst' h1, Same.upd (Same.upd S.sm (S.sm.free hT)) n1, upd_same, ?_, Paired.app (Paired.imp (fun _ _ z => z.mono m) S.s) (.cons ⟨T, x, rfl, ?_, hx.mono m⟩ .nil), Paired.imp (fun _ _ z => z.mono m) S.d⟩
  · rw [upd_ne (Ne.symm ne)]
    exact same_new hT _ _ S.h2
  · rw [upd_ne tl, upd_same]
end
def restL (st : List (Nat × Sh)) : List (Nat × Nat) := st.reverse.flatMap fun q => q.2.lumps q.1
theorem restL_snoc (st : List (Nat × Sh)) (q : Nat × Sh) : restL (st ++ [q]) = q.2.lumps q.1 ++ restL st := by
  unfold restL
  rw [List.reverse_append]
  rfl
def skm (st : List (Nat × Sh)) : Nat := mzs (st.map (·.2))
def skz (st : List (Nat × Sh)) : Nat := szs (st.map (·.2))
def skD (q : Nat × Sh) : PyData := .tuple [.int q.1, q.2.d]
theorem skD_lay : ∀ st : List (Nat × Sh), PyData.canLayAll0 (st.map skD) = true
  | [] => rfl
  | q :: r => by
    show ((true && (q.2.d.canLay0 && true)) && PyData.canLayAll0 (r.map skD)) = true
    rw [q.2.lay, skD_lay r]
    rfl
theorem skD_dp : ∀ {st : List (Nat × Sh)}, skz st ≤ 60 → PyData.depthAll (st.map skD) ≤ 62
  | [], _ => Nat.zero_le _
  | q :: r, h => by
    have h0 : q.2.sz + skz r ≤ 60 := h
    have h1 := q.2.dp_lt
    have h2 := skD_dp (st := r) (by omega)
    show max (max 0 (max q.2.d.depth 0) + 1) (PyData.depthAll (r.map skD)) ≤ 62
    rw [q.2.ddp]
    omega
theorem skD_sh {st : List (Nat × Sh)} (h : skz st ≤ 60) : SeqAt.shaped (.list (st.map skD)) = true := shaped_of (skD_lay st) (by
  have := skD_dp h
  show PyData.depthAll (st.map skD) + 1 ≤ 64
  omega)
theorem SkVs.dat {K : PySem.W.Frag} {H : Hp} : ∀ {xs : List V} {st : List (Nat × Sh)}, Paired (SkV H) xs st → DpAll K H xs (st.map skD)
  | _, _, .nil => .nil
  | _, _, .cons r t => by
    obtain ⟨a, x, rfl, h1, h2⟩ := r
    exact .cons (.tup (SqT.of h1) (.cons (.int _) (.cons h2.dat .nil))) (SkVs.dat t)
def prD' (q : Nat × Nat) : PyData := .tuple [.int q.1, .int q.2]
theorem prD'_lay : ∀ st : List (Nat × Nat), PyData.canLayAll0 (st.map prD') = true
  | [] => rfl
  | q :: r => by
    show (true && PyData.canLayAll0 (r.map prD')) = true
    rw [prD'_lay r]
    rfl
theorem prD'_dp : ∀ st : List (Nat × Nat), PyData.depthAll (st.map prD') ≤ 1
  | [] => Nat.zero_le _
  | q :: r => by
    have h := prD'_dp r
    show max 1 (PyData.depthAll (r.map prD')) ≤ 1
    omega
theorem prD'_sh (st : List (Nat × Nat)) : SeqAt.shaped (.list (st.map prD')) = true := shaped_of (prD'_lay st) (by
  have := prD'_dp st
  show PyData.depthAll (st.map prD') + 1 ≤ 64
  omega)
theorem prD'_sh1 (q : Nat × Nat) : SeqAt.shaped (prD' q) = true := shaped_of rfl (by show 1 ≤ 64; decide)
theorem PrVs.dat {K : PySem.W.Frag} {H : Hp} : ∀ {xs : List V} {st : List (Nat × Nat)}, Paired (PrV H) xs st → DpAll K H xs (st.map prD')
  | _, _, .nil => .nil
  | _, _, .cons r t => by
    obtain ⟨a, rfl, h1⟩ := r
    exact .cons (.tup (SqT.of h1) (.cons (.int _) (.cons (.int _) .nil))) (PrVs.dat t)
theorem prD'_eqv (a b : Nat × Nat) : PyData.eqv (prD' a) (prD' b) = decide (a = b) := by
  have e : PyData.eqv (prD' a) (prD' b) = (((a.1 : Int) == (b.1 : Int)) && (((a.2 : Int) == (b.2 : Int)) && true)) := by simp only [prD', PyData.eqv, PyData.eqvAll]
  rw [e]
  obtain ⟨a1, a2⟩ := a
  obtain ⟨b1, b2⟩ := b
  by_cases h1 : a1 = b1
  · by_cases h2 : a2 = b2
    · subst h1 h2
      show (((a1 : Int) == (a1 : Int)) && (((a2 : Int) == (a2 : Int)) && true)) = decide ((a1, a2) = (a1, a2))
      rw [decide_eq_true rfl, beq_self_eq_true, beq_self_eq_true]
      rfl
    · have q : ((a2 : Int) == (b2 : Int)) = false := beq_eq_false_iff_ne.mpr (by omega)
      have z : ¬ ((a1, a2) = (b1, b2)) := fun h => h2 (congrArg Prod.snd h)
      rw [decide_eq_false z]
      show (((a1 : Int) == (b1 : Int)) && (((a2 : Int) == (b2 : Int)) && true)) = false
      rw [q, Bool.false_and, Bool.and_false]
  · have q : ((a1 : Int) == (b1 : Int)) = false := beq_eq_false_iff_ne.mpr (by omega)
    have z : ¬ ((a1, a2) = (b1, b2)) := fun h => h1 (congrArg Prod.fst h)
    rw [decide_eq_false z]
    show (((a1 : Int) == (b1 : Int)) && (((a2 : Int) == (b2 : Int)) && true)) = false
    rw [q]
    rfl
theorem prs_in (q : Nat × Nat) : ∀ st : List (Nat × Nat), ((st.map prD').any fun z => PyData.eqv z (prD' q)) = decide (q ∈ st)
  | [] => rfl
  | p :: r => by
    rw [List.map_cons, List.any_cons, prs_in q r, prD'_eqv]
    by_cases h1 : p = q
    · subst h1
      rw [decide_eq_true rfl, decide_eq_true (List.mem_cons_self ..)]
      rfl
    · rw [decide_eq_false h1, Bool.false_or]
      by_cases h2 : q ∈ r
      · rw [decide_eq_true h2, decide_eq_true (List.mem_cons_of_mem _ h2)]
      · rw [decide_eq_false h2, decide_eq_false fun z => (List.mem_cons.mp z).elim (fun e => h1 e.symm) h2]
section
variable {P : Program} {w : World} {K : PySem.W.Frag} {mg : Str → Option Value} {base : Heap} {CP CR E : Addr}
def spSL : Sp := fun vs H Q _ => ∃ v s, vs = [v] ∧ Good H ∧ ShV H v s ∧ s.sz ≤ 60 ∧ ∀ p ys H', Same H H' → Good H' → H p = none → H' p = some (.lst ys) → Paired (PrV H') ys (s.lumps 0) → Q (.ref p) H'
theorem c_shape_lumps (D : DefAt K mg "shape_lumps" s_shape_lumps) (T : Txt K mg CP CR E) (c_size_of : Cal P w K mg base "size_of" 1 ["shape"] spSize) : Cal P w K mg base "shape_lumps" 2 ["form"] spSL := by
  refine cal_of D sc_shape_lumps (fun _ _ _ _ _ _ us hl => match us, hl with | [_], _ => rfl) (fun vs H Q E' h => ?_) (fun f cdv A outer s H vs Q E' hr h => ?_)
  · obtain ⟨v, s, rfl, _⟩ := h
    rfl
  obtain ⟨v, sh, rfl, g, hs, hz, q⟩ := h
  have hu := hr.units
  refine ⟨_, (pss_cons (ps_par (i := 1) (j := 2) (by rfl) sc_shape_lumps.nd rfl rfl (by decide) rfl rfl (pa_cons (pe_lst (pa_cons (pe_tup (pa_cons pe_int (pa_cons (pv 0) pa_nil))) pa_nil)) (pa_cons (pe_lst pa_nil) pa_nil)) (by rfl)) (pss_cons (ps_while PassesOwn.never (pt_notN hu (pv 1)) (pss_cons (ps_asg (pe_bm0 PySem.F.plainAttrs_list PySem.F.slot_list_pop PySem.F.type_list_pop mt_pop (pv 1)) (pg_tup rfl (pgs_cons (pg_name (i := 3) sc_shape_lumps.nd rfl (Or.inl rfl)) (pgs_cons (pg_name (i := 4) sc_shape_lumps.nd rfl (Or.inl rfl)) pgs_nil)))) (pss_cons (ps_expr (pe_bm PySem.F.plainAttrs_list PySem.F.slot_list_append PySem.F.type_list_append mt_append (pv 2) (pa_cons (pe_tup (pa_cons (pv 3) (pa_cons (pe_op op_add (pv 3) (pe_cal c_size_of hr (pa_cons (pv 4) pa_nil))) pa_nil))) pa_nil))) (pss_one (ps_if (pt_notO hu (pv 4)) (pss_cons (ps_expr (pe_bm PySem.F.plainAttrs_list PySem.F.slot_list_append PySem.F.type_list_append mt_append (pv 1) (pa_cons (pe_tup (pa_cons (pe_op op_add (pv 3) (pe_cal c_size_of hr (pa_cons (pe_ix ix_tup (pv 4) pe_int (fun _ _ => rfl)) pa_nil))) (pa_cons (pe_ix ix_tup (pv 4) pe_int (fun _ _ => rfl)) pa_nil))) pa_nil))) (pss_one (ps_expr (pe_bm PySem.F.plainAttrs_list PySem.F.slot_list_append PySem.F.type_list_append mt_append (pv 1) (pa_cons (pe_tup (pa_cons (pv 3) (pa_cons (pe_ix ix_tup (pv 4) pe_int (fun _ _ => rfl)) pa_nil))) pa_nil))))) pss_nil))))) (pss_one (ps_ret (pv 2))))), ?_⟩
  refine ⟨_, rfl, (by show 2 ≤ sizeLine; decide), fun t0 ht0 => ?_⟩
  refine ⟨(by show 1 ≤ sizeLine; decide), fun l1 hl1 => ?_⟩
  refine ⟨(by show 0 ≤ sizeLine; decide), fun l2 hl2 => ?_⟩
  refine ⟨_, _, rfl, ?_⟩
  have ne : l1 ≠ l2 := fun e => by
    rw [← e, upd_same] at hl2
    cases hl2
  have n1 : H l1 = none := (same_new ht0).free hl1
  have n2 : H l2 = none := (same_new ht0).free ((same_new hl1).free hl2)
  have m0 : TM H (upd (upd (upd H t0 (.tup [.int 0, v])) l1 (.lst [.ref t0])) l2 (.lst [])) := TM.trans (TM.new ht0) (TM.trans (TM.new hl1) (TM.new hl2))
  have S0 : SLt H (upd (upd (upd H t0 (.tup [.int 0, v])) l1 (.lst [.ref t0])) l2 (.lst [])) l1 l2 [.ref t0] [] [(0, sh)] [] := by
    refine ⟨((g.tup ht0).lst hl1).lst hl2, Same.upd (Same.upd (same_new ht0) n1) n2, ?_, upd_same, .cons ⟨t0, v, rfl, ?_, hs.mono m0⟩ .nil, .nil⟩
    · rw [upd_ne ne, upd_same]
    · rw [upd_ne (ne_of_none (same_new hl1 _ _ upd_same) hl2), upd_ne (ne_of_none upd_same hl1), upd_same]
      rfl
  refine ⟨fun m σ H' => ∃ (xs ys : List V) (st : List (Nat × Sh)) (dn : List (Nat × Nat)) (x1 x2 : Option V), σ = [some v, some (.ref l1), some (.ref l2), x1, x2] ∧ SLt H H' l1 l2 xs ys st dn ∧ dn ++ restL st = sh.lumps 0 ∧ skz st ≤ sh.sz ∧ m = skm st,
    ⟨_, _, _, _, _, none, none, rfl, S0, by show [] ++ (sh.lumps 0 ++ []) = sh.lumps 0; rw [List.nil_append, List.append_nil], by show sh.sz + 0 ≤ sh.sz; omega, rfl⟩, ?_⟩
  rintro m σ H' ⟨xs, ys, st, dn, x1, x2, rfl, S, he, hsz, rfl⟩
  have hll := Sh.lumps_len sh 0
  have hdl : dn.length ≤ 120 := by
    have := congrArg List.length he
    rw [List.length_append] at this
    omega
  refine ⟨_, rfl, S.g, l1, xs, st.map skD, rfl, S.h1, fun H2 s2 => SkVs.dat (Paired.imp (fun _ _ z => SkV.mono (TM.of s2) z) S.s), skD_sh (by omega), ?_⟩
  rcases List.eq_nil_or_concat xs with rfl | ⟨xs0, y, rfl⟩
  · refine iteF ?_
    obtain ⟨_, _, _, _, hk, _⟩ := id S
    cases hk
    have e : dn = sh.lumps 0 := by
      rw [← he]
      exact (List.append_nil dn).symm
    rw [e] at S
    exact ⟨_, rfl, fin1 S.g S.sm (q l2 ys H' S.sm S.g n2 S.h2 S.d)⟩
  · rw [List.concat_eq_append] at S ⊢
    have nem : (!(xs0 ++ [y]).isEmpty) = true := by
      cases xs0 <;> rfl
    rw [nem]
    refine iteT ?_
    obtain ⟨st0, ⟨a, s⟩, rfl, hp0, hy⟩ := paired_snoc S.s
    have S1 := S.pop ne n1 hp0
    obtain ⟨t, x, rfl, ht, hx⟩ := hy
    replace ht : H' t = some (.tup [vi a, x]) := ht
    replace hx : ShV H' x s := hx
    have hxl := hp0.length
    have hyl := S.d.length
    have ez : skz (st0 ++ [(a, s)]) = skz st0 + s.sz := by
      unfold skz
      rw [List.map_append, szs_app]
      rfl
    have em : skm (st0 ++ [(a, s)]) = skm st0 + (2 * s.sz - 1) := by
      unfold skm
      rw [List.map_append, mzs_app]
      rfl
    rw [ez] at hsz
    have hlz := szs_len (st0.map (·.2))
    rw [List.length_map] at hlz
    have hlz2 : st0.length ≤ skz st0 := hlz
    rw [restL_snoc] at he
    have hx1 : ShV (upd H' l1 (.lst xs0)) x s := hx.mono (TM.lst S.h1)
    refine ⟨Below _ _, below, ?_⟩
    refine ⟨_, rfl, .inl ⟨rfl, _, SqL.of S.h1⟩, l1, xs0 ++ [.ref t], .ref t, rfl, rfl, S.h1, by rw [List.length_append]; simp, ?_⟩
    rw [List.dropLast_concat]
    refine ⟨t, _, rfl, SqT.of ((TM.lst S.h1) _ _ ht), rfl, _, _, rfl, _, _, rfl, rfl, ?_⟩
    refine ⟨_, rfl, .inl ⟨rfl, _, SqL.of S1.h2⟩, _, rfl, _, rfl, _, rfl, x, s, rfl, S1.g, hx1, by omega, _, _, rfl, rfl, (by show 2 ≤ sizeLine; decide), fun T' hT => ?_⟩
    refine ⟨l2, ys, _, rfl, rfl, same_new hT _ _ S1.h2, small1000 (by omega), ?_⟩
    have S2 := S1.found (a := a) (b := a + s.sz) ne n2 hT
    have eab : [V.int (a : Int), V.int ((a : Int) + (s.sz : Int))] = [vi a, vi (a + s.sz)] := by
      show _ = [V.int (a : Int), V.int ((a + s.sz : Nat) : Int)]
      rw [Int.natCast_add]
    show tIfS (ttNotO (tVar 4)) _ tNext _ _ (upd _ l2 _)
    show tIfS (ttNotO (tVar 4)) _ tNext _ _ (upd (upd (upd H' l1 (.lst xs0)) T' (.tup [V.int (a : Int), V.int ((a : Int) + (s.sz : Int))])) l2 (.lst (ys ++ [.ref T'])))
    rw [eab]
    have m2 : TM (upd H' l1 (.lst xs0)) (upd (upd (upd H' l1 (.lst xs0)) T' (.tup [vi a, vi (a + s.sz)])) l2 (.lst (ys ++ [.ref T']))) := TM.trans (TM.new hT) (TM.lst (same_new hT _ _ S1.h2))
    have hx2 := hx1.mono m2
    refine ⟨_, rfl, S2.g, s, hx2, by have := s.dp_lt; omega, ?_⟩
    cases s with
    | o =>
      refine iteF ?_
      refine ⟨skm st0, by rw [em]; show skm st0 < skm st0 + 1; omega, xs0, ys ++ [.ref T'], st0, dn ++ [(a, a + Sh.sz .o)], _, _, rfl, S2, ?_, by omega, rfl⟩
      rw [← he, List.append_assoc]
      rfl
    | n c d =>
      refine iteT ?_
      obtain ⟨b, xc, xd, rfl, hb, hc, hd⟩ := id hx2
      have esz : Sh.sz (.n c d) = c.sz + d.sz := rfl
      have pc := c.sz_pos
      have pd := d.sz_pos
      -- waiting.append((start + size_of(part[0]), part[1]))
      refine ⟨_, rfl, .inl ⟨rfl, _, SqL.of S2.h1⟩, _, rfl, _, rfl, b, _, 0, xc, rfl, rfl, SqT.of hb, rfl, xc, c, rfl, S2.g, hc, by omega, _, _, rfl, rfl, _, rfl, b, _, 1, xd, rfl, rfl, SqT.of hb, rfl, (by show 2 ≤ sizeLine; decide), fun T2 hT2 => ?_⟩
      refine ⟨l1, xs0, _, rfl, rfl, same_new hT2 _ _ S2.h1, small1000 (by omega), ?_⟩
      have S3 := S2.push (a := a + c.sz) (x := xd) ne n1 hT2 hd
      have m3 := TM.trans (TM.new hT2 (o := .tup [vi (a + c.sz), xd])) (TM.lst (o := .lst (xs0 ++ [.ref T2])) (same_new hT2 _ _ S2.h1))
      have hc3 := hc.mono m3
      have hb3 := m3 _ _ hb
      have ecast : V.int ((a : Int) + (c.sz : Int)) = vi (a + c.sz) := by
        show _ = V.int ((a + c.sz : Nat) : Int)
        rw [Int.natCast_add]
      show tDrop (tBM K "list" rAppend (tVar 1) _) _ _ (upd _ l1 _)
      show tDrop (tBM K "list" rAppend (tVar 1) _) _ _ (upd (upd _ T2 (.tup [V.int ((a : Int) + (c.sz : Int)), xd])) l1 _)
      rw [ecast]
      -- waiting.append((start, part[0]))
      refine ⟨_, rfl, .inl ⟨rfl, _, SqL.of S3.h1⟩, _, rfl, _, rfl, b, _, 0, xc, rfl, rfl, SqT.of hb3, rfl, (by show 2 ≤ sizeLine; decide), fun T3 hT3 => ?_⟩
      refine ⟨l1, _, _, rfl, rfl, same_new hT3 _ _ S3.h1, small1000 (by rw [List.length_append]; simp; omega), ?_⟩
      have S4 := S3.push (a := a) (x := xc) ne n1 hT3 hc3
      refine ⟨skm (st0 ++ [(a + c.sz, d)] ++ [(a, c)]), ?_, _, _, _, _, _, _, rfl, S4, ?_, ?_, rfl⟩
      · rw [em]
        have e4 : skm (st0 ++ [(a + c.sz, d)] ++ [(a, c)]) = skm st0 + (2 * d.sz - 1) + (2 * c.sz - 1) := by
          unfold skm
          rw [List.map_append, List.map_append, mzs_app, mzs_app]
          rfl
        omega
      · rw [← he, restL_snoc, restL_snoc]
        show dn ++ [(a, a + (c.sz + d.sz))] ++ (c.lumps a ++ (d.lumps (a + c.sz) ++ restL st0)) = dn ++ (((a, a + (c.sz + d.sz)) :: (c.lumps a ++ d.lumps (a + c.sz))) ++ restL st0)
        simp only [List.append_assoc, List.cons_append, List.nil_append]
      · have e4 : skz (st0 ++ [(a + c.sz, d)] ++ [(a, c)]) = skz st0 + d.sz + c.sz := by
          unfold skz
          rw [List.map_append, List.map_append, szs_app, szs_app]
          rfl
        omega
end
end KL

/-! KLNat: rules for whole numbers that are not below nought. -/
namespace KL
open PySem PySem.Spec L2
open PyProof.Rows hiding St
section
variable {X : Cx}
def rN2 (g : Nat → Nat → V) : R2 := fun x y H Q => ∃ n m : Nat, x = .int (n : Int) ∧ y = .int (m : Int) ∧ Q (g n m) H
theorem op_eqN : OpR X (compareOp .Eq) (rN2 fun n m => .bl (decide (n = m))) := by
  intro pins s σ H x y v u Q I rx ry h
  obtain ⟨n, m, rfl, rfl, q⟩ := h
  refine op_eq pins s σ H _ _ v u Q I rx ry ⟨rfl, ?_⟩
  have e : decide (V.int (n : Int) = V.int (m : Int)) = decide (n = m) := by
    rw [decide_eq_decide]
    refine ⟨fun h => ?_, fun h => by rw [h]⟩
    injection h with h
    exact Int.ofNat.inj h
  rw [e]
  exact q
theorem op_neN : OpR X (compareOp .NotEq) (rN2 fun n m => .bl (!decide (n = m))) := by
  intro pins s σ H x y v u Q I rx ry h
  obtain ⟨n, m, rfl, rfl, q⟩ := h
  refine op_ne pins s σ H _ _ v u Q I rx ry ⟨rfl, ?_⟩
  have e : decide (V.int (n : Int) = V.int (m : Int)) = decide (n = m) := by
    rw [decide_eq_decide]
    refine ⟨fun h => ?_, fun h => by rw [h]⟩
    injection h with h
    exact Int.ofNat.inj h
  rw [e]
  exact q
theorem op_ltN : OpR X (compareOp .Lt) (rN2 fun n m => .bl (decide (n < m))) := by
  intro pins s σ H x y v u Q I rx ry h
  obtain ⟨n, m, rfl, rfl, q⟩ := h
  refine op_lt pins s σ H _ _ v u Q I rx ry ⟨_, _, rfl, rfl, ?_⟩
  have e : decide ((n : Int) < (m : Int)) = decide (n < m) := by
    rw [decide_eq_decide]
    omega
  show Q (.bl (decide ((n : Int) < (m : Int)))) H
  rw [e]
  exact q
theorem op_gtN : OpR X (compareOp .Gt) (rN2 fun n m => .bl (decide (m < n))) := by
  intro pins s σ H x y v u Q I rx ry h
  obtain ⟨n, m, rfl, rfl, q⟩ := h
  refine op_gt pins s σ H _ _ v u Q I rx ry ⟨_, _, rfl, rfl, ?_⟩
  have e : decide ((m : Int) < (n : Int)) = decide (m < n) := by
    rw [decide_eq_decide]
    omega
  show Q (.bl (decide ((m : Int) < (n : Int)))) H
  rw [e]
  exact q
theorem op_leN : OpR X (compareOp .LtE) (rN2 fun n m => .bl (decide (n ≤ m))) := by
  intro pins s σ H x y v u Q I rx ry h
  obtain ⟨n, m, rfl, rfl, q⟩ := h
  refine op_le pins s σ H _ _ v u Q I rx ry ⟨_, _, rfl, rfl, ?_⟩
  have e : decide ((n : Int) ≤ (m : Int)) = decide (n ≤ m) := by
    rw [decide_eq_decide]
    omega
  show Q (.bl (decide ((n : Int) ≤ (m : Int)))) H
  rw [e]
  exact q
theorem op_modNN : OpR X (binaryOp .Mod) (fun x y H Q => ∃ n m : Nat, x = .int (n : Int) ∧ y = .int (m : Int) ∧ 1 ≤ m ∧ Q (.int ((n % m : Nat) : Int)) H) := by
  intro pins s σ H x y v u Q I rx ry h
  obtain ⟨n, m, rfl, rfl, c, q⟩ := h
  rw [Int.natCast_emod] at q
  exact op_mod pins s σ H _ _ v u Q I rx ry ⟨_, _, rfl, rfl, show (0 : Int) < (m : Int) by omega, q⟩
/-- a product with a small factor on either side -/
theorem op_mulNs : OpR X (binaryOp .Mult) (fun x y H Q => ∃ n m : Nat, x = .int (n : Int) ∧ y = .int (m : Int) ∧ (n ≤ 4294967296 ∨ m ≤ 4294967296) ∧ Q (.int ((n * m : Nat) : Int)) H) := by
  intro pins s σ H x y v u Q I rx ry h
  obtain ⟨n, m, rfl, rfl, c, q⟩ := h
  rw [Int.natCast_mul] at q
  refine op_mul pins s σ H _ _ v u Q I rx ry ⟨_, _, rfl, rfl, ?_, q⟩
  rcases c with c | c
  · exact show CMul (n : Int) (m : Int) from Or.inl ⟨by omega, by omega⟩
  · exact show CMul (n : Int) (m : Int) from Or.inr ⟨by omega, by omega⟩
theorem call_min2N (hc : X.calm = true) : CallR X (.builtin "min") (fun xs H Q => ∃ n m : Nat, xs = [.int (n : Int), .int (m : Int)] ∧ Q (.int ((min n m : Nat) : Int)) H) := by
  intro pins s σ H xs us Q I r h
  obtain ⟨n, m, e, q⟩ := h
  refine call_min2 hc pins s σ H xs us Q I r ⟨_, _, e, ?_⟩
  have e2 : (if (m : Int) < (n : Int) then (m : Int) else (n : Int)) = ((min n m : Nat) : Int) := by
    by_cases c : m < n
    · rw [if_pos (by omega)]
      omega
    · rw [if_neg (by omega)]
      omega
  rw [e2]
  exact q
theorem call_max2N (hc : X.calm = true) : CallR X (.builtin "max") (fun xs H Q => ∃ n m : Nat, xs = [.int (n : Int), .int (m : Int)] ∧ Q (.int ((max n m : Nat) : Int)) H) := by
  intro pins s σ H xs us Q I r h
  obtain ⟨n, m, e, q⟩ := h
  refine call_max2 hc pins s σ H xs us Q I r ⟨_, _, e, ?_⟩
  have e2 : (if (m : Int) > (n : Int) then (m : Int) else (n : Int)) = ((max n m : Nat) : Int) := by
    by_cases c : m > n
    · rw [if_pos (by omega)]
      omega
    · rw [if_neg (by omega)]
      omega
  rw [e2]
  exact q
end
end KL

namespace KL
open PySem PySem.Spec L2
open PyProof.Rows hiding St
section
variable {P : Program} {w : World} {K : PySem.W.Frag} {mg : Str → Option Value} {base : Heap} {CP CR E : Addr}
/-! ### comb_parts -/
def lrS (l : Bool) : Str := if l then "left" else "right"
def cmid (l : Bool) (a b : Nat) : Nat := if l then b - 1 else a + 1
def spComb : Sp := fun vs H Q _ => ∃ (l : Bool) (a b : Nat), vs = [vi a, vi b, .str (lrS l)] ∧ Good H ∧ 1 ≤ b ∧ ∀ p x y H', Same H H' → Good H' → H' p = some (.tup [x, y]) → PrV H' x (a, cmid l a b) → PrV H' y (cmid l a b, b) → Q (.ref p) H'
theorem c_comb_parts (D : DefAt K mg "comb_parts" s_comb_parts) (T : Txt K mg CP CR E) : Cal P w K mg base "comb_parts" 1 ["one", "other", "end"] spComb := by
  refine cal_of D sc_comb_parts (fun _ _ _ _ _ _ us hl => match us, hl with | [_, _, _], _ => rfl) (fun vs H Q E' h => ?_) (fun f cdv A outer s H vs Q E' hr h => ?_)
  · obtain ⟨l, a, b, rfl, _⟩ := h
    rfl
  obtain ⟨l, a, b, rfl, g, hb, q⟩ := h
  refine ⟨_, (pss_one (ps_ret (pe_ifExp (pt_cmpR op_eq (pv 2) pe_str (nomark _)) (pe_tup (pa_cons (pe_tup (pa_cons (pv 0) (pa_cons (pe_op op_subN (pv 1) pe_int) pa_nil))) (pa_cons (pe_tup (pa_cons (pe_op op_subN (pv 1) pe_int) (pa_cons (pv 1) pa_nil))) pa_nil))) (pe_tup (pa_cons (pe_tup (pa_cons (pv 0) (pa_cons (pe_op op_addN (pv 0) pe_int) pa_nil))) (pa_cons (pe_tup (pa_cons (pe_op op_addN (pv 0) pe_int) (pa_cons (pv 1) pa_nil))) pa_nil)))))), ?_⟩
  have fin : ∀ p1 p2 p, H p1 = none → (upd H p1 (.tup [vi a, vi (cmid l a b)])) p2 = none → (upd (upd H p1 (.tup [vi a, vi (cmid l a b)])) p2 (.tup [vi (cmid l a b), vi b])) p = none →
      Fin H Q (.ref p) (upd (upd (upd H p1 (.tup [vi a, vi (cmid l a b)])) p2 (.tup [vi (cmid l a b), vi b])) p (.tup [.ref p1, .ref p2])) := fun p1 p2 p h1 h2 h3 => by
    have s1 := same_new (o := .tup [vi a, vi (cmid l a b)]) h1
    have s2 := same_new (o := .tup [vi (cmid l a b), vi b]) h2
    have s3 := same_new (o := .tup [.ref p1, .ref p2]) h3
    have sm := (s1.trans s2).trans s3
    have gg := ((g.tup h1).tup h2).tup (xs := [.ref p1, .ref p2]) h3
    exact fin1 gg sm (q p _ _ _ sm gg upd_same ⟨p1, rfl, s3 _ _ (s2 _ _ upd_same)⟩ ⟨p2, rfl, s3 _ _ upd_same⟩)
  refine ⟨_, rfl, rfl, _, rfl, ?_⟩
  cases l with
  | true =>
    have e : decide (V.str (lrS true) = V.str "left") = true := by decide +kernel
    show if decide (V.str (lrS true) = V.str "left") = true then _ else _
    rw [e]
    refine iteT ?_
    exact ⟨_, rfl, _, rfl, _, 1, rfl, rfl, hb, (by show 2 ≤ sizeLine; decide), fun p1 h1 => ⟨_, rfl, _, 1, rfl, rfl, hb, _, rfl, (by show 2 ≤ sizeLine; decide), fun p2 h2 => ⟨(by show 2 ≤ sizeLine; decide), fun p h3 => fin p1 p2 p h1 h2 h3⟩⟩⟩
  | false =>
    have e : decide (V.str (lrS false) = V.str "left") = false := by decide +kernel
    show if decide (V.str (lrS false) = V.str "left") = true then _ else _
    rw [e]
    refine iteF ?_
    exact ⟨_, rfl, _, rfl, _, 1, rfl, rfl, (by show 2 ≤ sizeLine; decide), fun p1 h1 => ⟨_, rfl, _, 1, rfl, rfl, _, rfl, (by show 2 ≤ sizeLine; decide), fun p2 h2 => ⟨(by show 2 ≤ sizeLine; decide), fun p h3 => fin p1 p2 p h1 h2 h3⟩⟩⟩
/-! ### are_lump_numbers -/
def spAre (CP : Addr) : Sp := fun vs H Q _ => ∃ v R, ∃ n i j : Nat, vs = [v, vi n, vi i, vi j] ∧ Good H ∧ PlV CP H v R ∧ PlB R ∧ i < j ∧ j ≤ n ∧ n ≤ 1000 ∧ Q (.bl (alr R n 0 n i j)) H
theorem EnV.strL {H : Hp} {v : V} {R : Pl} (h : EnV H v R.en) (k : R.en = .left ∨ R.en = .right) : v = .str (lrS R.isLeft) := by
  unfold Pl.isLeft
  rcases k with k | k <;> rw [k] at h ⊢ <;> exact h
theorem lr_eq (l : Bool) : decide (V.str (lrS l) = V.str "left") = l := by
  cases l <;> decide +kernel
theorem c_are_lump_numbers (D : DefAt K mg "are_lump_numbers" s_are_lump_numbers) (T : Txt K mg CP CR E) (m_stage : MCal P w K mg base CP "stage" 1 ["self", "k"] (spStage CP)) (m_end : MCal P w K mg base CP "end" 1 ["self"] (spPEnd CP))
    (c_table_size : Cal P w K mg base "table_size" 1 ["table"] spTSize) (c_entry : Cal P w K mg base "entry" 1 ["table", "m"] spEntry) (c_shape_lumps : Cal P w K mg base "shape_lumps" 2 ["form"] spSL) :
    Cal P w K mg base "are_lump_numbers" 3 ["plan", "n", "i", "j"] (spAre CP) := by
  refine cal_of D sc_are_lump_numbers (fun _ _ _ _ _ _ us hl => match us, hl with | [_, _, _, _], _ => rfl) (fun vs H Q E' h => ?_) (fun f cdv A outer s H vs Q E' hr h => ?_)
  · obtain ⟨v, R, n, i, j, rfl, _⟩ := h
    rfl
  obtain ⟨v, R, n, i, j, rfl, g, pv_, pb, hij, hjn, hn, q⟩ := h
  have hu : (A.deeper (envOfC "are_lump_numbers" (L2.defScope s_are_lump_numbers) s.heap.objs.size f cdv)).units + 65 < cLine := by
    have := hr.un
    omega
  obtain ⟨p, tv, ev, rfl, pat⟩ := id pv_
  obtain ⟨dx, hp⟩ := pat.ob
  refine ⟨_, (pss_cons (ps_set (i := 4) sc_are_lump_numbers.nd rfl (Or.inl rfl) pe_int) (pss_cons (ps_while PassesOwn.never (PW.pt (pw_and (pt_cmpR op_gtN (pe_op op_subN (pv 3) (pv 2)) pe_int (nomark _)) (pw_and1 (pt_cmpR op_notN (pe_mcal m_stage T.clP hr (pv 0) (pa_cons (pv 4) pa_nil)) pe_non (nomark _))))) (pss_cons (ps_set (i := 5) sc_are_lump_numbers.nd rfl (Or.inl rfl) (pe_mcal m_stage T.clP hr (pv 0) (pa_cons (pv 4) pa_nil))) (pss_cons (ps_set (i := 6) sc_are_lump_numbers.nd rfl (Or.inl rfl) (pe_cal c_table_size hr (pa_cons (pv 5) pa_nil))) (pss_cons (ps_set (i := 7) sc_are_lump_numbers.nd rfl (Or.inl rfl) (pe_op op_mulNs (pe_op op_fdivNN (pv 2) (pv 6)) (pv 6))) (pss_cons (ps_if (pt_cmpR op_eqN (pv 7) (pe_op op_mulNs (pe_op op_fdivNN (pe_op op_subN (pv 3) pe_int) (pv 6)) (pv 6)) (nomark _)) (pss_one (ps_ret (pe_cmpR (op_inD hu) (pe_tup (pa_cons (pe_op op_subN (pv 2) (pv 7)) (pa_cons (pe_op op_subN (pv 3) (pv 7)) pa_nil))) (pe_cal c_shape_lumps hr (pa_cons (pe_cal c_entry hr (pa_cons (pv 5) (pa_cons (pe_callB (call_min2N rfl) (by rfl) T.min_ (by decide +kernel) (pa_cons (pv 6) (pa_cons (pe_op op_subN (pv 1) (pv 7)) pa_nil))) pa_nil))) pa_nil)) (by rfl)))) pss_nil) (pss_cons (ps_if (PW.pt (pw_or (pt_cmpR op_neN (pv 2) (pv 7) (nomark _)) (pw_or1 (PW.pt (pw_and (pt_cmpR op_neN (pe_op op_modNN (pv 3) (pv 6)) pe_int (nomark _)) (pw_and1 (pt_cmpR op_neN (pv 3) (pv 1) (nomark _)))))))) (pss_one (ps_ret pe_bl)) pss_nil) (pss_cons (ps_par3 (i := 2) (j := 3) (l := 1) (by rfl) sc_are_lump_numbers.nd rfl rfl rfl (by decide) (by decide) (by decide) rfl rfl rfl (pa_cons (pe_op op_fdivNN (pv 2) (pv 6)) (pa_cons (pe_op op_fdivNN (pe_op op_subN (pe_op op_addN (pv 3) (pv 6)) pe_int) (pv 6)) (pa_cons (pe_op op_fdivNN (pe_op op_subN (pe_op op_addN (pv 1) (pv 6)) pe_int) (pv 6)) pa_nil))) (by rfl)) (pss_one (ps_aug (i := 4) sc_are_lump_numbers.nd rfl (Or.inl rfl) pe_int ip_add))))))))) (pss_one (ps_ret (pe_or (pe_cmpR op_eqN (pe_op op_subN (pv 3) (pv 2)) pe_int (nomark _)) (pe_one (pe_ifExp (pt_cmpR op_eq (pe_mcal0 m_end T.clP hr (pv 0)) pe_str (nomark _)) (pe_cmpR op_eqN (pv 2) pe_int (nomark _)) (pe_cmpR op_eqN (pv 3) (pv 1) (nomark _))))))))), ?_⟩
  refine ⟨fun m σ H' => ∃ (k n' i' j' : Nat) (x1 x2 x3 : Option V), σ = [some (.ref p), some (vi n'), some (vi i'), some (vi j'), some (vi k), x1, x2, x3] ∧ H' = H ∧ alr R n 0 n i j = alr R m k n' i' j' ∧ i' < j' ∧ j' ≤ n' ∧ n' ≤ m ∧ n' ≤ n,
    ⟨n, 0, n, i, j, none, none, none, rfl, rfl, rfl, hij, hjn, Nat.le_refl _, Nat.le_refl _⟩, ?_⟩
  rintro m σ H' ⟨k, n', i', j', x1, x2, x3, rfl, rfl, ha, h1, h2, h3, h4⟩
  obtain ⟨m, rfl⟩ : ∃ z, m = z + 1 := ⟨m - 1, by omega⟩
  rw [ha] at q
  refine ⟨_, rfl, _, rfl, _, _, rfl, rfl, by omega, _, 1, rfl, rfl, _, rfl, ?_⟩
  by_cases c : 1 < j' - i'
  · rw [decide_eq_true c]
    refine iteT ?_
    refine ⟨_, rfl, p, dx, _, rfl, hp, no_stage _ _, _, rfl, _, R, k, rfl, g, pv_, pb, fun r hr' => ?_⟩
    refine ⟨rfl, _, rfl, ?_⟩
    unfold alr at q
    rw [if_pos c] at q
    cases hs : R.stage k with
    | none =>
      rw [hs] at hr' q
      cases hr'
      refine iteF ?_
      refine ⟨_, rfl, _, rfl, _, _, rfl, rfl, by omega, _, 1, rfl, rfl, _, rfl, ?_⟩
      rw [decide_eq_false (show ¬ j' - i' = 1 by omega)]
      refine iteF ?_
      have es := EnV.strL pat.en (pb.ok.nost hs).2
      refine ⟨_, rfl, p, dx, _, rfl, hp, no_end _ _, p, tv, ev, R, rfl, g, pat, by rw [es]; rfl, _, rfl, ?_⟩
      rw [es]
      show if decide (V.str (lrS R.isLeft) = V.str "left") = true then _ else _
      rw [lr_eq]
      cases hl : R.isLeft with
      | true =>
        rw [hl] at q
        exact iteT ⟨_, rfl, _, 0, rfl, rfl, fin0 g (Same.refl H') q⟩
      | false =>
        rw [hl] at q
        exact iteF ⟨_, rfl, _, rfl, _, _, rfl, rfl, fin0 g (Same.refl H') q⟩
    | some t =>
      rw [hs] at hr' q
      replace q : Q (.bl (if i' / bs t * bs t = (j' - 1) / bs t * bs t then
            decide ((i' - i' / bs t * bs t, j' - i' / bs t * bs t) ∈ Sh.lumps (ent t (min (bs t) (n' - i' / bs t * bs t))) 0)
          else if i' ≠ i' / bs t * bs t ∨ (j' % bs t ≠ 0 ∧ j' ≠ n') then false
          else alr R m (k + 1) (cd n' (bs t)) (i' / bs t) (cd j' (bs t)))) H' := q
      have tb := pb.stage hs
      obtain ⟨ta, txs, rfl, _⟩ := id hr'
      refine iteT ?_
      refine ⟨Below _ _, below, ?_⟩
      have two := tb.ok.two
      have b3 : bs t = t.length + 1 := rfl
      have b4 := tb.le
      obtain ⟨d1, d2⟩ := div_facts i' (bs t) two
      refine ⟨_, rfl, p, dx, _, rfl, hp, no_stage _ _, _, rfl, _, R, k, rfl, g, pv_, pb, fun r2 hr2 => ?_⟩
      rw [hs] at hr2
      refine ⟨_, rfl, _, t, rfl, g, hr2, ?_⟩
      refine ⟨_, rfl, _, rfl, _, _, rfl, rfl, ⟨by omega, by omega⟩, _, rfl, _, _, rfl, rfl, .inr (by omega), ?_⟩
      refine ⟨_, rfl, _, rfl, _, 1, rfl, rfl, by omega, _, rfl, _, _, rfl, rfl, ⟨by omega, by omega⟩, _, rfl, _, _, rfl, rfl, .inr (by omega), _, _, rfl, rfl, _, rfl, ?_⟩
      by_cases same : i' / bs t * bs t = (j' - 1) / bs t * bs t
      · rw [decide_eq_true same]
        rw [if_pos same] at q
        refine iteT ?_
        have hm1 : 1 ≤ min (bs t) (n' - i' / bs t * bs t) := by omega
        have hm2 : min (bs t) (n' - i' / bs t * bs t) ≤ bs t := Nat.min_le_left _ _
        have eb := tb.entB hm1 hm2
        refine ⟨_, rfl, _, rfl, _, _, rfl, rfl, d1, _, rfl, _, rfl, _, _, rfl, rfl, by omega, (by show 2 ≤ sizeLine; decide), fun T1 hT1 => ?_⟩
        have sT : Same H' (upd H' T1 (.tup [vi (i' - i' / bs t * bs t), vi (j' - i' / bs t * bs t)])) := same_new hT1
        have gT : Good (upd H' T1 (.tup [vi (i' - i' / bs t * bs t), vi (j' - i' / bs t * bs t)])) := g.tup hT1
        refine ⟨_, rfl, _, rfl, _, rfl, _, rfl, _, _, rfl, rfl, by omega, _, _, rfl, _, t, _, rfl, gT, hr2.mono (TM.of sT), hm1, hm2, fun v1 H1 s1 g1 hv1 => ?_⟩
        refine ⟨v1, _, rfl, g1, hv1, by omega, fun p1 ys H2 s2 g2 hp1 hp2 hpp => ?_⟩
        refine ⟨prD' (i' - i' / bs t * bs t, j' - i' / bs t * bs t), (Sh.lumps (ent t (min (bs t) (n' - i' / bs t * bs t))) 0).map prD', .tup (SqT.of (s2 _ _ (s1 _ _ upd_same))) (.cons (.int _) (.cons (.int _) .nil)), .lst (SqL.of hp2) (PrVs.dat hpp), prD'_sh1 _, prD'_sh _, ?_⟩
        rw [prs_in]
        exact fin0 g ((sT.trans s1).trans s2) q
      · rw [decide_eq_false same]
        rw [if_neg same] at q
        refine iteF ?_
        refine ⟨_, rfl, _, rfl, _, _, rfl, rfl, _, rfl, ?_⟩
        by_cases bad1 : i' = i' / bs t * bs t
        · rw [decide_eq_true bad1]
          refine iteF ?_
          refine ⟨_, rfl, _, rfl, _, _, rfl, rfl, by omega, _, 0, rfl, rfl, _, rfl, ?_⟩
          have step : ¬ (i' ≠ i' / bs t * bs t ∨ (j' % bs t ≠ 0 ∧ j' ≠ n')) → alr R n 0 n i j = alr R m (k + 1) (cd n' (bs t)) (i' / bs t) (cd j' (bs t)) := fun bad => by
            rw [ha]
            rw [alr, if_pos c, hs]
            show (if i' / bs t * bs t = (j' - 1) / bs t * bs t then _ else if _ then _ else _) = _
            rw [if_neg same, if_neg bad]
          have c1 := cd_pos n' (bs t) two (by omega)
          have c2 := cd_lt n' (bs t) two (by omega)
          have hne : i' / bs t ≠ (j' - 1) / bs t := fun e => same (by rw [e])
          have hlt2 : i' / bs t < (j' - 1) / bs t := by
            have : i' / bs t ≤ (j' - 1) / bs t := Nat.div_le_div_right (by omega)
            omega
          have hij : i' / bs t < cd j' (bs t) := by
            have := cd_up j' (bs t) two
            exact cd_gt j' (bs t) _ two (by omega)
          have cjn : cd j' (bs t) ≤ cd n' (bs t) := by
            rcases Nat.lt_or_ge (cd n' (bs t)) (cd j' (bs t)) with h | h
            · have h5 := cd_lo j' (bs t) _ two h
              have h6 := cd_up n' (bs t) two
              omega
            · exact h
          by_cases z1 : j' % bs t = 0
          · rw [decide_eq_true z1]
            refine iteF ?_
            refine iteF ?_
            have nb : ¬ (i' ≠ i' / bs t * bs t ∨ (j' % bs t ≠ 0 ∧ j' ≠ n')) := fun z => z.elim (fun z => z bad1) fun z => z.1 z1
            refine ⟨_, rfl, _, rfl, _, _, rfl, rfl, ⟨by omega, by omega⟩, _, rfl, _, rfl, _, _, rfl, rfl, _, 1, rfl, rfl, by omega, _, rfl, _, _, rfl, rfl, ⟨by omega, by omega⟩, _, rfl, _, rfl, _, _, rfl, rfl, _, 1, rfl, rfl, by omega, _, rfl, _, _, rfl, rfl, ⟨by omega, by omega⟩, _, _, _, rfl, ?_⟩
            refine ⟨_, rfl, _, _, rfl, rfl, ?_⟩
            exact ⟨m, Nat.lt_succ_self _, k + 1, cd n' (bs t), i' / bs t, cd j' (bs t), _, _, _, rfl, rfl, step nb, hij, cjn, by omega, by omega⟩
          · rw [decide_eq_false z1]
            refine iteT ?_
            refine ⟨_, rfl, _, rfl, _, _, rfl, rfl, _, rfl, ?_⟩
            by_cases z2 : j' = n'
            · rw [decide_eq_true z2]
              refine iteF ?_
              have nb : ¬ (i' ≠ i' / bs t * bs t ∨ (j' % bs t ≠ 0 ∧ j' ≠ n')) := fun z => z.elim (fun z => z bad1) fun z => z.2 z2
              refine ⟨_, rfl, _, rfl, _, _, rfl, rfl, ⟨by omega, by omega⟩, _, rfl, _, rfl, _, _, rfl, rfl, _, 1, rfl, rfl, by omega, _, rfl, _, _, rfl, rfl, ⟨by omega, by omega⟩, _, rfl, _, rfl, _, _, rfl, rfl, _, 1, rfl, rfl, by omega, _, rfl, _, _, rfl, rfl, ⟨by omega, by omega⟩, _, _, _, rfl, ?_⟩
              refine ⟨_, rfl, _, _, rfl, rfl, ?_⟩
              exact ⟨m, Nat.lt_succ_self _, k + 1, cd n' (bs t), i' / bs t, cd j' (bs t), _, _, _, rfl, rfl, step nb, hij, cjn, by omega, by omega⟩
            · rw [decide_eq_false z2]
              refine iteT ?_
              rw [if_pos (Or.inr ⟨z1, z2⟩)] at q
              exact fin0 g (Same.refl H') q
        · rw [decide_eq_false bad1]
          refine iteT ?_
          rw [if_pos (Or.inl bad1)] at q
          exact fin0 g (Same.refl H') q
  · rw [decide_eq_false c]
    refine iteF ?_
    refine iteF ?_
    unfold alr at q
    rw [if_neg c] at q
    refine ⟨_, rfl, _, rfl, _, _, rfl, rfl, by omega, _, 1, rfl, rfl, _, rfl, ?_⟩
    rw [decide_eq_true (show j' - i' = 1 by omega)]
    exact iteT (fin0 g (Same.refl H') q)
end
end KL

namespace KL
open PySem PySem.Spec L2
open PyProof.Rows hiding St
section
variable {P : Program} {w : World} {K : PySem.W.Frag} {mg : Str → Option Value} {base : Heap} {CP CR E : Addr}
/-! ### is_lump -/
def spIsLump (CP : Addr) : Sp := fun vs H Q _ => ∃ v R N x y b, vs = [v, .int N, x, y] ∧ Good H ∧ PlV CP H v R ∧ PlB R ∧ Kn CP H x ∧ Kn CP H y ∧
  (((isN x && isN y) = false ∧ b = false) ∨ ∃ n i j : Nat, N = n ∧ n ≤ 1000 ∧ x = vi i ∧ y = vi j ∧ b = (decide (i < j) && (decide (j ≤ n) && alr R n 0 n i j))) ∧ Q (.bl b) H
theorem c_is_lump (D : DefAt K mg "is_lump" s_is_lump) (T : Txt K mg CP CR E) (c_is_number : Cal P w K mg base "is_number" 2 ["value"] (spIsNum CP)) (c_are_lump_numbers : Cal P w K mg base "are_lump_numbers" 3 ["plan", "n", "i", "j"] (spAre CP)) :
    Cal P w K mg base "is_lump" 4 ["plan", "n", "i", "j"] (spIsLump CP) := by
  refine cal_of D sc_is_lump (fun _ _ _ _ _ _ us hl => match us, hl with | [_, _, _, _], _ => rfl) (fun vs H Q E' h => ?_) (fun f cdv A outer s H vs Q E' hr h => ?_)
  · obtain ⟨v, R, N, x, y, b, rfl, _⟩ := h
    rfl
  obtain ⟨v, R, N, x, y, b, rfl, g, pv_, pb, kx, ky, hb, q⟩ := h
  refine ⟨_, (pss_one (ps_ret (pe_and (pe_cal c_is_number hr (pa_cons (pv 2) pa_nil)) (pe_and (pe_cal c_is_number hr (pa_cons (pv 3) pa_nil)) (pe_and (pe_chain op_ltN op_leN (pv 2) (pv 3) (pv 1)) (pe_one (pe_cal c_are_lump_numbers hr (pa_cons (pv 0) (pa_cons (pv 1) (pa_cons (pv 2) (pa_cons (pv 3) pa_nil))))))))))), ?_⟩
  refine ⟨_, rfl, x, rfl, g, kx, _, rfl, ?_⟩
  rcases hb with ⟨no, rfl⟩ | ⟨n, i, j, rfl, hn, rfl, rfl, rfl⟩
  · cases hx : isN x with
    | false => exact iteF (fin0 g (Same.refl H) q)
    | true =>
      refine iteT ?_
      refine ⟨_, rfl, y, rfl, g, ky, _, rfl, ?_⟩
      rw [hx, Bool.true_and] at no
      rw [no]
      exact iteF (fin0 g (Same.refl H) q)
  · have ei : isN (vi i) = true := decide_eq_true (Int.natCast_nonneg i)
    have ej : isN (vi j) = true := decide_eq_true (Int.natCast_nonneg j)
    rw [ei]
    refine iteT ?_
    refine ⟨_, rfl, vi j, rfl, g, ky, _, rfl, ?_⟩
    rw [ej]
    refine iteT ?_
    refine ⟨_, rfl, _, rfl, _, _, rfl, rfl, _, rfl, ?_⟩
    by_cases c : i < j
    · rw [decide_eq_true c] at q ⊢
      refine iteT ?_
      refine ⟨_, rfl, _, _, rfl, rfl, _, rfl, ?_⟩
      by_cases c2 : j ≤ n
      · rw [decide_eq_true c2] at q ⊢
        refine iteT ?_
        exact ⟨_, rfl, _, rfl, _, rfl, _, rfl, v, R, n, i, j, rfl, g, pv_, pb, c, c2, hn, fin0 g (Same.refl H) q⟩
      · rw [decide_eq_false c2] at q ⊢
        exact iteF (fin0 g (Same.refl H) q)
    · rw [decide_eq_false c] at q ⊢
      exact iteF ⟨_, rfl, iteF (fin0 g (Same.refl H) q)⟩
/-! ### Rows -/
def rwF (pv mv wv : V) : List (Str × V) := putF "width" wv (putF "many" mv (putF "plan" pv []))
theorem ne_wm : ¬ (("many" : Str) = "width") := by decide +kernel
theorem ne_wp : ¬ (("plan" : Str) = "width") := by decide +kernel
theorem ne_mp : ¬ (("plan" : Str) = "many") := by decide +kernel
theorem rwF_p (pv mv wv : V) : (rwF pv mv wv).lookup ("plan" : Str) = some pv := by
  unfold rwF
  rw [lookup_putF, if_neg ne_wp, lookup_putF, if_neg ne_mp, lookup_putF, if_pos rfl]
theorem rwF_m (pv mv wv : V) : (rwF pv mv wv).lookup ("many" : Str) = some mv := by
  unfold rwF
  rw [lookup_putF, if_neg ne_wm, lookup_putF, if_pos rfl]
theorem rwF_w (pv mv wv : V) : (rwF pv mv wv).lookup ("width" : Str) = some wv := by
  unfold rwF
  rw [lookup_putF, if_pos rfl]
theorem rwF_no (pv mv wv : V) {m : Str} (h1 : ¬ m = "width") (h2 : ¬ m = "many") (h3 : ¬ m = "plan") : (rwF pv mv wv).lookup m = none := by
  unfold rwF
  rw [lookup_putF, if_neg h1, lookup_putF, if_neg h2, lookup_putF, if_neg h3]
  rfl
structure RwAt (CP CR : Addr) (H : Hp) (r : Addr) (pv : V) (ml wl : Addr) (R : Pl) (n : Nat) : Prop where
  ob : ∃ dx, H r = some (.ins CR dx (rwF pv (.ref ml) (.ref wl)))
  pl : PlV CP H pv R
  m : H ml = some (.lst ((cntF R n).map vi))
  w : H wl = some (.lst ((wdF R n).map vi))
def RwV (CP CR : Addr) (H : Hp) (v : V) (R : Pl) (n : Nat) : Prop := ∃ r pv ml wl, v = .ref r ∧ RwAt CP CR H r pv ml wl R n
theorem RwV.mono {H H' : Hp} {v : V} {R : Pl} {n : Nat} (s : Same H H') (h : RwV CP CR H v R n) : RwV CP CR H' v R n := by
  obtain ⟨r, pv, ml, wl, e, ⟨dx, h1⟩, h2, h3, h4⟩ := h
  exact ⟨r, pv, ml, wl, e, ⟨dx, s _ _ h1⟩, h2.mono s, s _ _ h3, s _ _ h4⟩
/-- all but one object stand -/
def KeepR (r : Addr) (H H' : Hp) : Prop := ∀ b o, H b = some o → b ≠ r → H' b = some o
theorem KeepR.trans {r : Addr} {H H1 H2 : Hp} (a : KeepR r H H1) (b : KeepR r H1 H2) : KeepR r H H2 := fun x o h n => b x o (a x o h n) n
theorem KeepR.upd {r : Addr} {H : Hp} {o : HO} : KeepR r H (L2.upd H r o) := fun b u h n => by
  rw [upd_ne n]
  exact h
theorem KeepR.new {r q : Addr} {H : Hp} {o : HO} (h : H q = none) : KeepR r H (L2.upd H q o) := fun b u e _ => same_new h b u e
theorem KeepR.tm {r : Addr} {H H' : Hp} {C dx : Addr} {fs : List (Str × V)} (k : KeepR r H H') (h : H r = some (.ins C dx fs)) : TM H H' := fun a xs e => k a _ e fun z => by
  rw [z, h] at e
  cases e
theorem PlV.keepR {r : Addr} {H H' : Hp} {C dx : Addr} {fs : List (Str × V)} {v : V} {R : Pl} (k : KeepR r H H') (h : H r = some (.ins C dx fs)) (no : fs.lookup ("own_tables" : Str) = none) (p : PlV CP H v R) : PlV CP H' v R := by
  obtain ⟨a, tv, ev, e, ⟨dx', h1⟩, h2, h3⟩ := p
  refine ⟨a, tv, ev, e, ⟨dx', k _ _ h1 fun z => ?_⟩, h2.mono (k.tm h), h3.mono (k.tm h)⟩
  rw [z, h] at h1
  injection h1 with h1
  injection h1 with _ _ h1
  rw [h1, plF_t] at no
  cases no
def spRI (CP CR : Addr) : Sp := fun vs H Q _ => ∃ r dx v R, ∃ n : Nat, vs = [.ref r, v, vi n] ∧ Good H ∧ H r = some (.ins CR dx []) ∧ PlV CP H v R ∧ PlB R ∧ 1 ≤ n ∧ n ≤ 1000 ∧ ∀ H', Good H' → KeepR r H H' → RwV CP CR H' (.ref r) R n → Q .non H'
theorem c_Rows_init (D : IDefAt K mg CR "Rows" "Rows.__init__" s_Rows_init) (T : Txt K mg CP CR E) (c_counts : Cal P w K mg base "counts" 2 ["plan", "n"] (spCounts CP)) (c_widths : Cal P w K mg base "widths" 3 ["plan", "n"] (spWidths CP)) : ICal P w K mg base CR "Rows" 4 ["self", "plan", "n"] (spRI CP CR) := by
  refine ical_of D sc_Rows_init (fun _ _ _ _ _ _ us hl => match us, hl with | [_, _, _], _ => rfl) (fun vs H Q E' h => ?_) (fun f cdv A outer s H vs Q E' hr h => ?_)
  · obtain ⟨r, dx, v, R, n, rfl, _⟩ := h
    rfl
  obtain ⟨r, dx, v, R, n, rfl, g, hr0, pv_, pb, hn1, hn2, q⟩ := h
  refine ⟨_, (pss_cons (ps_fld (pv 0) (pv 1) rfl) (pss_cons (ps_fld (pv 0) (pe_cal c_counts hr (pa_cons (pv 1) (pa_cons (pv 2) pa_nil))) rfl) (pss_one (ps_fld (pv 0) (pe_cal c_widths hr (pa_cons (pv 1) (pa_cons (pv 2) pa_nil))) rfl)))), ?_⟩
  have k1 : KeepR r H (upd H r (.ins CR dx (putF "plan" v []))) := KeepR.upd
  have g1 : Good (upd H r (.ins CR dx (putF "plan" v []))) := g.ins' hr0
  have p1 := pv_.keepR k1 hr0 rfl
  refine ⟨_, rfl, _, rfl, r, CR, dx, _, rfl, hr0, T.clR, T.nP, (by show 0 < 1000; decide), ?_⟩
  refine ⟨_, rfl, _, rfl, v, R, n, rfl, g1, p1, pb, hn1, hn2, fun ml hml => ?_⟩
  have nm : r ≠ ml := ne_of_none upd_same hml
  have hr2 : (upd (upd H r (.ins CR dx (putF "plan" v []))) ml (.lst ((cntF R n).map vi))) r = some (.ins CR dx (putF "plan" v [])) := by
    rw [upd_ne nm, upd_same]
  refine ⟨_, rfl, r, CR, dx, _, rfl, hr2, T.clR, T.nM, (by show 1 < 1000; decide), ?_⟩
  have k2 := k1.trans ((KeepR.new hml (o := .lst ((cntF R n).map vi))).trans (KeepR.upd (o := .ins CR dx (putF "many" (.ref ml) (putF "plan" v [])))))
  have g2 := (g1.lst hml (xs := (cntF R n).map vi)).ins' hr2 (fs := putF "many" (.ref ml) (putF "plan" v []))
  have p2 := pv_.keepR k2 hr0 rfl
  refine ⟨_, rfl, _, rfl, v, R, n, rfl, g2, p2, pb, hn1, hn2, fun wl hwl => ?_⟩
  have nw : r ≠ wl := ne_of_none upd_same hwl
  have hm2 : (upd (upd (upd H r (.ins CR dx (putF "plan" v []))) ml (.lst ((cntF R n).map vi))) r (.ins CR dx (putF "many" (.ref ml) (putF "plan" v [])))) ml = some (.lst ((cntF R n).map vi)) := by
    rw [upd_ne (Ne.symm nm), upd_same]
  have hr3 : (upd (upd (upd (upd H r (.ins CR dx (putF "plan" v []))) ml (.lst ((cntF R n).map vi))) r (.ins CR dx (putF "many" (.ref ml) (putF "plan" v [])))) wl (.lst ((wdF R n).map vi))) r = some (.ins CR dx (putF "many" (.ref ml) (putF "plan" v []))) := by
    rw [upd_ne nw, upd_same]
  refine ⟨_, rfl, r, CR, dx, _, rfl, hr3, T.clR, T.nW, (by show 2 < 1000; decide), ?_⟩
  have k3 := k2.trans ((KeepR.new hwl (o := .lst ((wdF R n).map vi))).trans (KeepR.upd (o := .ins CR dx (rwF v (.ref ml) (.ref wl)))))
  have g3 := (g2.lst hwl (xs := (wdF R n).map vi)).ins' hr3 (fs := rwF v (.ref ml) (.ref wl))
  have nmw := ne_of_none hm2 hwl
  refine fin2 g3 (Dom.trans Dom.upd (Dom.trans Dom.upd (Dom.trans Dom.upd (Dom.trans Dom.upd Dom.upd)))) (q _ g3 k3 ⟨r, v, ml, wl, rfl, ⟨dx, upd_same⟩, pv_.keepR k3 hr0 rfl, ?_, ?_⟩)
  · rw [upd_ne (Ne.symm nm), upd_ne nmw]
    exact hm2
  · rw [upd_ne (Ne.symm nw), upd_same]
end
end KL

namespace KL
open PySem PySem.Spec L2
open PyProof.Rows hiding St
/-! ### nodes -/
theorem cnts_zero (P : Pl) (f k m : Nat) : (cnts P f k m)[0]? = some m := by
  cases f with
  | zero => rfl
  | succ f =>
    unfold cnts
    by_cases e : m ≤ 1
    · rw [if_pos e]
      rfl
    · rw [if_neg e]
      cases P.stage k <;> rfl
/-- what the numbers are, level by level -/
theorem cnts_at {P : Pl} (pb : PlB P) : ∀ (f k m i c : Nat), 1 ≤ m → (cnts P f k m)[i]? = some c → 1 ≤ c ∧ c ≤ m ∧ m ≤ c * wf P k i ∧
    (i + 1 < (cnts P f k m).length → ∃ t, P.stage (k + i) = some t ∧ (cnts P f k m)[i + 1]? = some (cd c (bs t)) ∧ 2 ≤ c)
  | 0, k, m, i, c, hm, h => by
    have e : i = 0 := by
      have : i < 1 := (List.getElem?_eq_some_iff.mp h).1
      omega
    subst e
    cases h
    refine ⟨hm, Nat.le_refl _, by show m ≤ m * 1; omega, fun z => ?_⟩
    have z1 : 0 + 1 < 1 := z
    omega
  | f + 1, k, m, i, c, hm, h => by
    by_cases e : m ≤ 1
    · have ec : cnts P (f + 1) k m = [m] := cnts_done P (.inl e)
      rw [ec] at h ⊢
      have e0 : i = 0 := by
        have : i < 1 := (List.getElem?_eq_some_iff.mp h).1
        omega
      subst e0
      cases h
      refine ⟨hm, Nat.le_refl _, by show m ≤ m * 1; omega, fun z => ?_⟩
      have z1 : 0 + 1 < 1 := z
      omega
    · cases q : P.stage k with
      | none =>
        have ec : cnts P (f + 1) k m = [m] := cnts_done P (.inr q)
        rw [ec] at h ⊢
        have e0 : i = 0 := by
          have : i < 1 := (List.getElem?_eq_some_iff.mp h).1
          omega
        subst e0
        cases h
        refine ⟨hm, Nat.le_refl _, by show m ≤ m * 1; omega, fun z => ?_⟩
        have z1 : 0 + 1 < 1 := z
        omega
      | some t =>
        have ec := cnts_step P (f := f) (k := k) (m := m) (by omega) q
        have ht := (pb.stage q).ok
        have c1 := cd_pos m (bs t) ht.two hm
        have c2 := cd_lt m (bs t) ht.two (by omega)
        have c3 := cd_up m (bs t) ht.two
        rw [ec] at h ⊢
        cases i with
        | zero =>
          cases h
          refine ⟨hm, Nat.le_refl _, by show m ≤ m * 1; omega, fun _ => ⟨t, q, ?_, by omega⟩⟩
          exact cnts_zero P f (k + 1) _
        | succ i =>
          have h' : (cnts P f (k + 1) (cd m (bs t)))[i]? = some c := h
          obtain ⟨g1, g2, g3, g4⟩ := cnts_at pb f (k + 1) (cd m (bs t)) i c c1 h'
          have eb : bsAt P k = bs t := by
            unfold bsAt
            rw [q]
          refine ⟨g1, by omega, ?_, fun z => ?_⟩
          · show m ≤ c * (bsAt P k * wf P (k + 1) i)
            rw [eb, Nat.mul_comm (bs t), ← Nat.mul_assoc]
            exact Nat.le_trans c3 (Nat.mul_le_mul_right _ g3)
          · obtain ⟨t', z1, z2, z3⟩ := g4 (by have z0 : i + 1 + 1 < (cnts P f (k + 1) (cd m (bs t))).length + 1 := z; omega)
            exact ⟨t', by have e2 : k + (i + 1) = k + 1 + i := by omega
                          rw [e2]; exact z1, z2, z3⟩
structure NdOk (R : Pl) (n lv one oth : Nat) : Prop where
  lt : one < oth
  le : ∃ c, (cntF R n)[lv]? = some c ∧ oth ≤ c
def plc (R : Pl) (n lv one oth : Nat) : Nat × Nat := (one * wf R 0 lv, min (oth * wf R 0 lv) n)
def NdL (H : Hp) (v : V) (lv one oth : Nat) : Prop := ∃ t fv, v = .ref t ∧ H t = some (.tup [vi lv, vi one, vi oth, fv])
theorem NdL.mono {H H' : Hp} {v : V} {lv one oth : Nat} (m : TM H H') (h : NdL H v lv one oth) : NdL H' v lv one oth := by
  obtain ⟨t, fv, e, h1⟩ := h
  exact ⟨t, fv, e, m _ _ h1⟩
theorem wd_at {R : Pl} {n lv : Nat} (h : lv < (cntF R n).length) : ((wdF R n).map vi)[lv]? = some (vi (wf R 0 lv)) := by
  unfold wdF
  rw [List.map_map, List.getElem?_map, List.getElem?_range h]
  rfl
theorem cn_at {R : Pl} {n lv c : Nat} (h : (cntF R n)[lv]? = some c) : ((cntF R n).map vi)[lv]? = some (vi c) := by
  rw [List.getElem?_map, h]
  rfl
theorem RwV.ob {CP CR : Addr} {H : Hp} {v : V} {R : Pl} {n : Nat} (h : RwV CP CR H v R n) : ∃ r dx pv ml wl, v = .ref r ∧ H r = some (.ins CR dx (rwF pv (.ref ml) (.ref wl))) ∧ PlV CP H pv R ∧ H ml = some (.lst ((cntF R n).map vi)) ∧ H wl = some (.lst ((wdF R n).map vi)) := by
  obtain ⟨r, pv, ml, wl, e, ⟨dx, h1⟩, h2, h3, h4⟩ := h
  exact ⟨r, dx, pv, ml, wl, e, h1, h2, h3, h4⟩
section
variable {P : Program} {w : World} {K : PySem.W.Frag} {mg : Str → Option Value} {base : Heap} {CP CR E : Addr}
def spPlaces (CP CR : Addr) : Sp := fun vs H Q _ => ∃ rv nv R, ∃ n lv one oth : Nat, vs = [rv, nv] ∧ Good H ∧ RwV CP CR H rv R n ∧ PlB R ∧ n ≤ 1000 ∧ 1 ≤ n ∧ NdL H nv lv one oth ∧ NdOk R n lv one oth ∧ ∀ r H', Same H H' → Good H' → PrV H' r (plc R n lv one oth) → Q r H'
theorem c_Rows_places (D : MDefAt K CR "places" "Rows.places" s_Rows_places) (T : Txt K mg CP CR E) : MCal P w K mg base CR "places" 1 ["self", "node"] (spPlaces CP CR) := by
  refine mcal_of D sc_Rows_places (fun _ _ _ _ _ _ us hl => match us, hl with | [_, _], _ => rfl) (fun vs H Q E' h => ?_) (fun f cdv A outer s H vs Q E' hr h => ?_)
  · obtain ⟨rv, nv, R, n, lv, one, oth, rfl, _⟩ := h
    rfl
  obtain ⟨rv, nv, R, n, lv, one, oth, rfl, g, rw_, pb, hn, hn1, ⟨t, fv, rfl, ht⟩, ok, q⟩ := h
  obtain ⟨r, dx, plv, ml, wl, rfl, hr0, hpv, hml, hwl⟩ := rw_.ob
  obtain ⟨hlt, c, hc, hle⟩ := ok
  have hlv := (List.getElem?_eq_some_iff.mp hc).1
  obtain ⟨cc1, cc2, cc3, cc4⟩ := cnts_at pb n 0 n lv c hn1 hc
  refine ⟨_, (pss_cons (ps_asg (pv 1) (pg_tup rfl (pgs_cons (pg_name (i := 2) sc_Rows_places.nd rfl (Or.inl rfl)) (pgs_cons (pg_name (i := 3) sc_Rows_places.nd rfl (Or.inl rfl)) (pgs_cons (pg_name (i := 4) sc_Rows_places.nd rfl (Or.inl rfl)) (pgs_cons (pg_name (i := 5) sc_Rows_places.nd rfl (Or.inl rfl)) pgs_nil)))))) (pss_one (ps_ret (pe_tup (pa_cons (pe_op op_mulNs (pv 3) (pe_ix ix_list (pe_fld (pv 0) rfl) (pv 2) (fun _ _ => rfl))) (pa_cons (pe_callB (call_min2N rfl) (by rfl) T.min_ (by decide +kernel) (pa_cons (pe_op op_mulNs (pv 4) (pe_ix ix_list (pe_fld (pv 0) rfl) (pv 2) (fun _ _ => rfl))) (pa_cons (pe_ix ix_list (pe_fld (pv 0) rfl) pe_int (fun _ _ => rfl)) pa_nil))) pa_nil)))))), ?_⟩
  refine ⟨_, rfl, t, _, rfl, SqT.of ht, rfl, _, _, rfl, _, _, rfl, _, _, rfl, _, _, rfl, rfl, ?_⟩
  refine ⟨_, rfl, _, rfl, r, CR, dx, _, _, rfl, hr0, T.clR, T.nW, rwF_w _ _ _, _, rfl, wl, _, _, _, rfl, rfl, SqL.of hwl, atI_nat (wd_at hlv), _, _, rfl, rfl, .inl (by omega), ?_⟩
  refine ⟨_, rfl, _, rfl, r, CR, dx, _, _, rfl, hr0, T.clR, T.nW, rwF_w _ _ _, _, rfl, wl, _, _, _, rfl, rfl, SqL.of hwl, atI_nat (wd_at hlv), _, _, rfl, rfl, .inl (by omega), ?_⟩
  refine ⟨_, rfl, r, CR, dx, _, _, rfl, hr0, T.clR, T.nM, rwF_m _ _ _, ml, _, _, _, rfl, rfl, SqL.of hml, atI_nat (j := 0) (cn_at (cnts_zero R n 0 n)), _, _, rfl, (by show 2 ≤ sizeLine; decide), fun p hp => ?_⟩
  exact fin1 (g.tup hp) (same_new hp) (q _ _ (same_new hp) (g.tup hp) ⟨p, rfl, upd_same⟩)
def spStretch (CP CR : Addr) : Sp := fun vs H Q _ => ∃ rv R, ∃ n k a c : Nat, ∃ t : Tb, vs = [rv, vi k, vi a] ∧ Good H ∧ RwV CP CR H rv R n ∧ PlB R ∧ n ≤ 1000 ∧ (cntF R n)[k]? = some c ∧ R.stage k = some t ∧ a * bs t < c ∧ c ≤ n ∧
  ∀ p e H', Same H H' → Good H' → H' p = some (.tup [vi (a * bs t), vi (min (bs t) (c - a * bs t)), e]) → ShV H' e (ent t (min (bs t) (c - a * bs t))) → Q (.ref p) H'
theorem c_Rows_stretch (D : MDefAt K CR "stretch" "Rows.stretch" s_Rows_stretch) (T : Txt K mg CP CR E) (m_stage : MCal P w K mg base CP "stage" 1 ["self", "k"] (spStage CP)) (c_table_size : Cal P w K mg base "table_size" 1 ["table"] spTSize)
    (c_entry : Cal P w K mg base "entry" 1 ["table", "m"] spEntry) : MCal P w K mg base CR "stretch" 2 ["self", "level", "number"] (spStretch CP CR) := by
  refine mcal_of D sc_Rows_stretch (fun _ _ _ _ _ _ us hl => match us, hl with | [_, _, _], _ => rfl) (fun vs H Q E' h => ?_) (fun f cdv A outer s H vs Q E' hr h => ?_)
  · obtain ⟨rv, R, n, k, a, c, t, rfl, _⟩ := h
    rfl
  obtain ⟨rv, R, n, k, a, c, t, rfl, g, rw_, pb, hn, hc, hs, hac, hcn, q⟩ := h
  obtain ⟨r, dx, plv, ml, wl, rfl, hr0, hpv, hml, hwl⟩ := rw_.ob
  obtain ⟨p, dxp, tv, ev, rfl, hp⟩ := hpv.ob
  have tb := pb.stage hs
  have two := tb.ok.two
  have b3 : bs t = t.length + 1 := rfl
  have b4 := tb.le
  refine ⟨_, (pss_cons (ps_set (i := 3) sc_Rows_stretch.nd rfl (Or.inl rfl) (pe_mcal m_stage T.clP hr (pe_fld (pv 0) rfl) (pa_cons (pv 1) pa_nil))) (pss_cons (ps_set (i := 4) sc_Rows_stretch.nd rfl (Or.inl rfl) (pe_op op_mulNs (pv 2) (pe_cal c_table_size hr (pa_cons (pv 3) pa_nil)))) (pss_cons (ps_set (i := 5) sc_Rows_stretch.nd rfl (Or.inl rfl) (pe_callB (call_min2N rfl) (by rfl) T.min_ (by decide +kernel) (pa_cons (pe_cal c_table_size hr (pa_cons (pv 3) pa_nil)) (pa_cons (pe_op op_subN (pe_ix ix_list (pe_fld (pv 0) rfl) (pv 1) (fun _ _ => rfl)) (pv 4)) pa_nil)))) (pss_one (ps_ret (pe_tup (pa_cons (pv 4) (pa_cons (pv 5) (pa_cons (pe_cal c_entry hr (pa_cons (pv 3) (pa_cons (pv 5) pa_nil))) pa_nil))))))))), ?_⟩
  refine ⟨_, rfl, r, CR, dx, _, _, rfl, hr0, T.clR, T.nP, rwF_p _ _ _, p, dxp, _, rfl, hp, no_stage _ _, _, rfl, .ref p, R, k, rfl, g, hpv, pb, fun r1 hr1 => ?_⟩
  rw [hs] at hr1
  refine ⟨_, rfl, _, rfl, _, t, rfl, g, hr1, _, _, rfl, rfl, .inr (by omega), ?_⟩
  refine ⟨_, rfl, _, t, rfl, g, hr1, _, rfl, r, CR, dx, _, _, rfl, hr0, T.clR, T.nM, rwF_m _ _ _, _, rfl, ml, _, _, _, rfl, rfl, SqL.of hml, atI_nat (cn_at hc), _, rfl, _, _, rfl, rfl, by omega, _, _, rfl, ?_⟩
  refine ⟨_, rfl, _, rfl, _, rfl, _, rfl, _, t, _, rfl, g, hr1, by omega, Nat.min_le_left _ _, fun e H1 s1 g1 he => ⟨(by show 3 ≤ sizeLine; decide), fun p1 hp1 => ?_⟩⟩
  have s2 := s1.trans (same_new (o := .tup [vi (a * bs t), vi (min (bs t) (c - a * bs t)), e]) hp1)
  exact fin1 (g1.tup hp1) s2 (q p1 e _ s2 (g1.tup hp1) upd_same (he.mono (TM.new hp1)))
end
end KL

namespace KL
open PySem PySem.Spec L2
open PyProof.Rows hiding St
theorem ip_subN {X : Cx} : PIp X .Sub (fun x y H Q => ∃ n m : Nat, x = .int (n : Int) ∧ y = .int (m : Int) ∧ m ≤ n ∧ Q (.int ((n - m : Nat) : Int)) H) := by
  intro pins s σ H x y v u Q I r1 r2 h
  obtain ⟨n, m, rfl, rfl, c, q⟩ := h
  have e : ((n - m : Nat) : Int) = (n : Int) - (m : Int) := by omega
  rw [e] at q
  exact ip_sub pins s σ H _ _ v u Q I r1 r2 ⟨_, _, rfl, rfl, q⟩
/-- one level down -/
theorem plc_down {R : Pl} {n k a c : Nat} {t : Tb} (pb : PlB R) (hn : 1 ≤ n) (hc : (cntF R n)[k]? = some c) (hs : R.stage k = some t) (h : a * bs t < c) : plc R n k (a * bs t) (a * bs t + min (bs t) (c - a * bs t)) = plc R n (k + 1) a (a + 1) := by
  obtain ⟨c1, c2, c3, _⟩ := cnts_at pb n 0 n k c hn hc
  have eb : bsAt R (0 + k) = bs t := by
    unfold bsAt
    rw [Nat.zero_add, hs]
  unfold plc
  rw [wf_succ, eb]
  have e1 : a * bs t * wf R 0 k = a * (wf R 0 k * bs t) := by
    rw [Nat.mul_assoc, Nat.mul_comm (bs t)]
  have e2 : (a + 1) * (wf R 0 k * bs t) = (a * bs t + bs t) * wf R 0 k := by
    rw [Nat.mul_comm (wf R 0 k), ← Nat.mul_assoc, Nat.succ_mul]
  rw [e1, e2]
  congr 1
  rcases Nat.le_total (bs t) (c - a * bs t) with q | q
  · rw [Nat.min_eq_left q]
  · rw [Nat.min_eq_right q]
    have e3 : a * bs t + (c - a * bs t) = c := by omega
    rw [e3, Nat.min_eq_right c3]
    have h4 : c * wf R 0 k ≤ (a * bs t + bs t) * wf R 0 k := Nat.mul_le_mul_right _ (by omega)
    omega
section
variable {P : Program} {w : World} {K : PySem.W.Frag} {mg : Str → Option Value} {base : Heap} {CP CR E : Addr}
theorem no_stretch (a b c : V) : (rwF a b c).lookup ("stretch" : Str) = none := rwF_no _ _ _ (by decide +kernel) (by decide +kernel) (by decide +kernel)
theorem no_opened (a b c : V) : (rwF a b c).lookup ("opened" : Str) = none := rwF_no _ _ _ (by decide +kernel) (by decide +kernel) (by decide +kernel)
theorem no_narrowed (a b c : V) : (rwF a b c).lookup ("narrowed" : Str) = none := rwF_no _ _ _ (by decide +kernel) (by decide +kernel) (by decide +kernel)
theorem no_least (a b c : V) : (rwF a b c).lookup ("least" : Str) = none := rwF_no _ _ _ (by decide +kernel) (by decide +kernel) (by decide +kernel)
theorem no_parts (a b c : V) : (rwF a b c).lookup ("parts" : Str) = none := rwF_no _ _ _ (by decide +kernel) (by decide +kernel) (by decide +kernel)
theorem no_places (a b c : V) : (rwF a b c).lookup ("places" : Str) = none := rwF_no _ _ _ (by decide +kernel) (by decide +kernel) (by decide +kernel)
def spOpened (CP CR : Addr) : Sp := fun vs H Q _ => ∃ rv nv R, ∃ n lv one oth : Nat, vs = [rv, nv] ∧ Good H ∧ RwV CP CR H rv R n ∧ PlB R ∧ n ≤ 1000 ∧ 1 ≤ n ∧ NdL H nv lv one oth ∧ NdOk R n lv one oth ∧
  ∀ r lv' one' oth' H', Same H H' → Good H' → NdL H' r lv' one' oth' → NdOk R n lv' one' oth' → plc R n lv' one' oth' = plc R n lv one oth → Q r H'
theorem c_Rows_opened (D : MDefAt K CR "opened" "Rows.opened" s_Rows_opened) (T : Txt K mg CP CR E) (m_stretch : MCal P w K mg base CR "stretch" 2 ["self", "level", "number"] (spStretch CP CR)) :
    MCal P w K mg base CR "opened" 3 ["self", "node"] (spOpened CP CR) := by
  refine mcal_of D sc_Rows_opened (fun _ _ _ _ _ _ us hl => match us, hl with | [_, _], _ => rfl) (fun vs H Q E' h => ?_) (fun f cdv A outer s H vs Q E' hr h => ?_)
  · obtain ⟨rv, nv, R, n, lv, one, oth, rfl, _⟩ := h
    rfl
  obtain ⟨rv, nv, R, n, lv, one, oth, rfl, g, rw_, pb, hn, hn1, ⟨t, fv, rfl, ht⟩, ok, q⟩ := h
  refine ⟨_, (pss_cons (ps_asg (pv 1) (pg_tup rfl (pgs_cons (pg_name (i := 2) sc_Rows_opened.nd rfl (Or.inl rfl)) (pgs_cons (pg_name (i := 3) sc_Rows_opened.nd rfl (Or.inl rfl)) (pgs_cons (pg_name (i := 4) sc_Rows_opened.nd rfl (Or.inl rfl)) (pgs_cons (pg_name (i := 5) sc_Rows_opened.nd rfl (Or.inl rfl)) pgs_nil)))))) (pss_cons (ps_while PassesOwn.never (PW.pt (pw_and (pt_cmpR op_eqN (pe_op op_subN (pv 4) (pv 3)) pe_int (nomark _)) (pw_and1 (pt_cmpR op_gtN (pv 2) pe_int (nomark _))))) (pss_cons (ps_aug (i := 2) sc_Rows_opened.nd rfl (Or.inl rfl) pe_int ip_subN) (pss_cons (ps_asg (pe_mcal m_stretch T.clR hr (pv 0) (pa_cons (pv 2) (pa_cons (pv 3) pa_nil))) (pg_tup rfl (pgs_cons (pg_name (i := 6) sc_Rows_opened.nd rfl (Or.inl rfl)) (pgs_cons (pg_name (i := 7) sc_Rows_opened.nd rfl (Or.inl rfl)) (pgs_cons (pg_name (i := 5) sc_Rows_opened.nd rfl (Or.inl rfl)) pgs_nil))))) (pss_one (ps_par (i := 3) (j := 4) (by rfl) sc_Rows_opened.nd rfl rfl (by decide) rfl rfl (pa_cons (pv 6) (pa_cons (pe_op op_addN (pv 6) (pv 7)) pa_nil)) (by rfl)))))) (pss_one (ps_ret (pe_tup (pa_cons (pv 2) (pa_cons (pv 3) (pa_cons (pv 4) (pa_cons (pv 5) pa_nil))))))))), ?_⟩
  refine ⟨_, rfl, t, _, rfl, SqT.of ht, rfl, _, _, rfl, _, _, rfl, _, _, rfl, _, _, rfl, rfl, ?_⟩
  refine ⟨fun m σ H' => ∃ (one' oth' : Nat) (x5 : V) (x6 x7 : Option V), σ = [some rv, some (.ref t), some (vi m), some (vi one'), some (vi oth'), some x5, x6, x7] ∧ Good H' ∧ Same H H' ∧ NdOk R n m one' oth' ∧ plc R n m one' oth' = plc R n lv one oth,
    ⟨lv, one, oth, fv, none, none, rfl, g, Same.refl H, ok, rfl⟩, ?_⟩
  rintro m σ H' ⟨one', oth', x5, x6, x7, rfl, g', sm, ok', hplc⟩
  have fin : ∀ p, H' p = none → Fin H Q (.ref p) (upd H' p (.tup [vi m, vi one', vi oth', x5])) := fun p hp => by
    have s2 := sm.trans (same_new (o := .tup [vi m, vi one', vi oth', x5]) hp)
    exact fin1 (g'.tup hp) s2 (q _ m one' oth' _ s2 (g'.tup hp) ⟨p, x5, rfl, upd_same⟩ ok' hplc)
  obtain ⟨hlt, c, hc, hle⟩ := id ok'
  refine ⟨_, rfl, _, rfl, _, _, rfl, rfl, by omega, _, 1, rfl, rfl, _, rfl, ?_⟩
  by_cases h1 : oth' - one' = 1
  · rw [decide_eq_true h1]
    refine iteT ?_
    refine ⟨_, rfl, _, 0, rfl, rfl, _, rfl, ?_⟩
    cases m with
    | zero =>
      refine iteF ?_
      exact ⟨_, rfl, _, rfl, _, rfl, _, rfl, (by show 4 ≤ sizeLine; decide), fin⟩
    | succ m =>
      refine iteT ?_
      refine ⟨Below _ _, below, ?_⟩
      have hl := (List.getElem?_eq_some_iff.mp hc).1
      obtain ⟨c', hc'⟩ : ∃ c', (cntF R n)[m]? = some c' := ⟨_, List.getElem?_eq_getElem (by omega)⟩
      obtain ⟨d1, d2, d3, d4⟩ := cnts_at pb n 0 n m c' hn1 hc'
      obtain ⟨tb, hs, hc2, hc3⟩ := d4 hl
      rw [Nat.zero_add] at hs
      have two := (pb.stage hs).ok.two
      have ec : cd c' (bs tb) = c := by
        have : (cntF R n)[m + 1]? = some (cd c' (bs tb)) := hc2
        rw [hc] at this
        exact (Option.some.inj this).symm
      have hac : one' * bs tb < c' := cd_lo c' (bs tb) one' two (by omega)
      have rw' := rw_.mono sm
      obtain ⟨r, dx, plv, ml, wl, rfl, hr0, hpv, hml, hwl⟩ := rw'.ob
      refine ⟨_, rfl, _, 1, rfl, rfl, by omega, ?_⟩
      refine ⟨_, rfl, r, dx, _, rfl, hr0, no_stretch _ _ _, _, rfl, _, rfl, .ref r, R, n, m, one', c', tb, rfl, g', rw', pb, hn, hc', hs, hac, d2, fun p e H1 s1 g1 hp1 he1 => ?_⟩
      refine ⟨p, _, rfl, SqT.of hp1, rfl, _, _, rfl, _, _, rfl, _, _, rfl, rfl, ?_⟩
      refine ⟨_, rfl, _, rfl, _, rfl, _, _, rfl, rfl, _, _, rfl, ?_⟩
      refine ⟨m, Nat.lt_succ_self m, one' * bs tb, one' * bs tb + min (bs tb) (c' - one' * bs tb), e, _, _, rfl, g1, sm.trans s1, ⟨by omega, c', hc', by omega⟩, ?_⟩
      rw [plc_down pb hn1 hc' hs hac, ← hplc]
      have e3 : oth' = one' + 1 := by omega
      rw [e3]
  · rw [decide_eq_false h1]
    refine iteF ?_
    refine iteF ?_
    exact ⟨_, rfl, _, rfl, _, rfl, _, rfl, (by show 4 ≤ sizeLine; decide), fin⟩
/-! ### narrowed -/
def spNarrowed : Sp := fun vs H Q _ => ∃ rv t fv s, ∃ lv one lo hi : Nat, vs = [rv, .ref t, vi lo, vi hi] ∧ Good H ∧ H t = some (.tup [vi lv, vi one, vi (one + Sh.sz s), fv]) ∧ ShV H fv s ∧ s.sz ≤ 60 ∧ one ≤ lo ∧ lo < hi ∧ hi < one + s.sz ∧
  ∀ p fv' H', Same H H' → Good H' → H' p = some (.tup [vi lv, vi (nar s one lo hi).1, vi ((nar s one lo hi).1 + (nar s one lo hi).2.sz), fv']) → ShV H' fv' (nar s one lo hi).2 → Q (.ref p) H'
theorem c_Rows_narrowed (D : MDefAt K CR "narrowed" "Rows.narrowed" s_Rows_narrowed) (T : Txt K mg CP CR E) (c_size_of : Cal P w K mg base "size_of" 1 ["shape"] spSize) :
    MCal P w K mg base CR "narrowed" 2 ["self", "node", "low", "high"] spNarrowed := by
  refine mcal_of D sc_Rows_narrowed (fun _ _ _ _ _ _ us hl => match us, hl with | [_, _, _, _], _ => rfl) (fun vs H Q E' h => ?_) (fun f cdv A outer s H vs Q E' hr h => ?_)
  · obtain ⟨rv, t, fv, s, lv, one, lo, hi, rfl, _⟩ := h
    rfl
  obtain ⟨rv, t, fv, s, lv, one, lo, hi, rfl, g, ht, hfv, hsz, h1, h2, h3, q⟩ := h
  refine ⟨_, (pss_cons (ps_asg (pv 1) (pg_tup rfl (pgs_cons (pg_name (i := 4) sc_Rows_narrowed.nd rfl (Or.inl rfl)) (pgs_cons (pg_name (i := 5) sc_Rows_narrowed.nd rfl (Or.inl rfl)) (pgs_cons (pg_name (i := 6) sc_Rows_narrowed.nd rfl (Or.inl rfl)) (pgs_cons (pg_name (i := 7) sc_Rows_narrowed.nd rfl (Or.inl rfl)) pgs_nil)))))) (pss_one (ps_while PassesOwn.never (pt_val pe_bl) (pss_cons (ps_set (i := 8) sc_Rows_narrowed.nd rfl (Or.inl rfl) (pe_op op_addN (pv 5) (pe_cal c_size_of hr (pa_cons (pe_ix ix_tup (pv 7) pe_int (fun _ _ => rfl)) pa_nil)))) (pss_cons (ps_if (pt_chain op_ltN op_leN (pv 2) (pv 8) (pv 3)) (pss_one (ps_ret (pe_tup (pa_cons (pv 4) (pa_cons (pv 5) (pa_cons (pv 6) (pa_cons (pv 7) pa_nil))))))) pss_nil) (pss_one (ps_asg (pe_ifExp (pt_cmpR op_ltN (pv 3) (pv 8) (nomark _)) (pe_tup (pa_cons (pv 5) (pa_cons (pv 8) (pa_cons (pe_ix ix_tup (pv 7) pe_int (fun _ _ => rfl)) pa_nil)))) (pe_tup (pa_cons (pv 8) (pa_cons (pv 6) (pa_cons (pe_ix ix_tup (pv 7) pe_int (fun _ _ => rfl)) pa_nil))))) (pg_tup rfl (pgs_cons (pg_name (i := 5) sc_Rows_narrowed.nd rfl (Or.inl rfl)) (pgs_cons (pg_name (i := 6) sc_Rows_narrowed.nd rfl (Or.inl rfl)) (pgs_cons (pg_name (i := 7) sc_Rows_narrowed.nd rfl (Or.inl rfl)) pgs_nil))))))))))), ?_⟩
  refine ⟨_, rfl, t, _, rfl, SqT.of ht, rfl, _, _, rfl, _, _, rfl, _, _, rfl, _, _, rfl, rfl, ?_⟩
  refine ⟨fun m σ H' => ∃ (one' : Nat) (s' : Sh) (fv' : V) (x8 : Option V), σ = [some rv, some (.ref t), some (vi lo), some (vi hi), some (vi lv), some (vi one'), some (vi (one' + s'.sz)), some fv', x8] ∧ Good H' ∧ Same H H' ∧ ShV H' fv' s' ∧ s'.sz ≤ 60 ∧ nar s one lo hi = nar s' one' lo hi ∧ one' ≤ lo ∧ hi < one' + s'.sz ∧ m = s'.sz,
    ⟨s.sz, one, s, fv, none, rfl, g, Same.refl H, hfv, hsz, rfl, h1, h3, rfl⟩, ?_⟩
  rintro m σ H' ⟨one', s', fv', x8, rfl, g', sm, hv, hz, he, k1, k3, rfl⟩
  cases s' with
  | o =>
    have e : Sh.sz .o = 1 := rfl
    omega
  | n l r =>
    obtain ⟨a, x, y, rfl, ha, hx, hy⟩ := id hv
    have ez : Sh.sz (.n l r) = l.sz + r.sz := rfl
    have lp := l.sz_pos
    have rp := r.sz_pos
    refine ⟨_, rfl, iteT ?_⟩
    refine ⟨Below _ _, below, ?_⟩
    refine ⟨_, rfl, _, rfl, a, _, 0, x, rfl, rfl, SqT.of ha, rfl, x, l, rfl, g', hx, by omega, _, _, rfl, rfl, ?_⟩
    refine ⟨_, rfl, _, rfl, _, _, rfl, rfl, _, rfl, ?_⟩
    have nrw : ∀ (e : nar (.n l r) one' lo hi = nar (.n l r) one' lo hi), nar s one lo hi = if lo < one' + l.sz ∧ one' + l.sz ≤ hi then (one', .n l r) else if hi < one' + l.sz then nar l one' lo hi else nar r (one' + l.sz) lo hi := fun _ => by
      rw [he]
      rfl
    have nrw := nrw rfl
    by_cases c1 : lo < one' + l.sz
    · rw [decide_eq_true c1]
      refine iteT ?_
      refine ⟨_, rfl, _, _, rfl, rfl, _, rfl, ?_⟩
      by_cases c2 : one' + l.sz ≤ hi
      · rw [decide_eq_true c2]
        refine iteT ?_
        rw [if_pos ⟨c1, c2⟩] at nrw
        rw [nrw] at q
        refine ⟨_, rfl, _, rfl, _, rfl, _, rfl, (by show 4 ≤ sizeLine; decide), fun p hp => ?_⟩
        have s2 := sm.trans (same_new (o := .tup [vi lv, vi one', vi (one' + Sh.sz (.n l r)), .ref a]) hp)
        exact fin1 (g'.tup hp) s2 (q p _ _ s2 (g'.tup hp) upd_same (hv.mono (TM.new hp)))
      · rw [decide_eq_false c2]
        refine iteF ?_
        have c3 : hi < one' + l.sz := by omega
        rw [if_neg (fun z => c2 z.2), if_pos c3] at nrw
        refine ⟨_, rfl, _, rfl, _, _, rfl, rfl, _, rfl, ?_⟩
        rw [decide_eq_true c3]
        refine iteT ?_
        refine ⟨_, rfl, _, rfl, _, rfl, a, _, 0, x, rfl, rfl, SqT.of ha, rfl, (by show 3 ≤ sizeLine; decide), fun p hp => ?_⟩
        refine ⟨p, _, rfl, SqT.of upd_same, rfl, _, _, rfl, _, _, rfl, _, _, rfl, rfl, ?_⟩
        exact ⟨l.sz, by omega, one', l, x, _, rfl, g'.tup hp, sm.trans (same_new hp), hx.mono (TM.new hp), by omega, nrw, k1, c3, rfl⟩
    · rw [decide_eq_false c1]
      refine iteF ⟨_, rfl, iteF ?_⟩
      have c3 : ¬ hi < one' + l.sz := by omega
      rw [if_neg (fun z => c1 z.1), if_neg c3] at nrw
      refine ⟨_, rfl, _, rfl, _, _, rfl, rfl, _, rfl, ?_⟩
      rw [decide_eq_false c3]
      refine iteF ?_
      refine ⟨_, rfl, _, rfl, _, rfl, a, _, 1, y, rfl, rfl, SqT.of ha, rfl, (by show 3 ≤ sizeLine; decide), fun p hp => ?_⟩
      refine ⟨p, _, rfl, SqT.of upd_same, rfl, _, _, rfl, _, _, rfl, _, _, rfl, rfl, ?_⟩
      have e5 : one' + Sh.sz (.n l r) = one' + l.sz + r.sz := by omega
      exact ⟨r.sz, by omega, one' + l.sz, r, y, _, by rw [← e5]; rfl, g'.tup hp, sm.trans (same_new hp), hy.mono (TM.new hp), by omega, nrw, by omega, by omega, rfl⟩
end
end KL

namespace KL
open PySem PySem.Spec L2
open PyProof.Rows hiding St
theorem atI_end {xs : List V} {i : Nat} {v : V} (h1 : xs[i]? = some v) (h2 : i + 1 = xs.length) : atI xs (-1) = some v := by
  rcases List.eq_nil_or_concat xs with rfl | ⟨ys, y, rfl⟩
  · simp at h1
  · rw [List.concat_eq_append] at h1 h2 ⊢
    rw [List.length_append, List.length_singleton] at h2
    have e : i = ys.length := by omega
    rw [e, List.getElem?_append_right (Nat.le_refl _), Nat.sub_self] at h1
    cases h1
    exact atI_last ys v
/-- where the numbers end, nothing presses -/
theorem cnts_end {P : Pl} (pb : PlB P) : ∀ (f k m i c : Nat), m ≤ f → (cnts P f k m)[i]? = some c → i + 1 = (cnts P f k m).length → 2 ≤ c → P.stage (k + i) = none
  | 0, k, m, i, c, hf, h, hl, hc => by
    have e : i + 1 = 1 := hl
    have e0 : i = 0 := by omega
    subst e0
    cases h
    omega
  | f + 1, k, m, i, c, hf, h, hl, hc => by
    by_cases e : m ≤ 1
    · have ec : cnts P (f + 1) k m = [m] := cnts_done P (.inl e)
      rw [ec] at h hl
      have e1 : i + 1 = 1 := hl
      have e0 : i = 0 := by omega
      subst e0
      cases h
      omega
    · cases q : P.stage k with
      | none =>
        have ec : cnts P (f + 1) k m = [m] := cnts_done P (.inr q)
        rw [ec] at h hl
        have e1 : i + 1 = 1 := hl
        have e0 : i = 0 := by omega
        subst e0
        exact q
      | some t =>
        have ec := cnts_step P (f := f) (k := k) (m := m) (by omega) q
        have ht := (pb.stage q).ok
        have c2 := cd_lt m (bs t) ht.two (by omega)
        rw [ec] at h hl
        cases i with
        | zero =>
          have z1 : 0 + 1 = (cnts P f (k + 1) (cd m (bs t))).length + 1 := hl
          have z2 := cnts_ne P f (k + 1) (cd m (bs t))
          omega
        | succ i =>
          have h' : (cnts P f (k + 1) (cd m (bs t)))[i]? = some c := h
          have z1 : i + 1 + 1 = (cnts P f (k + 1) (cd m (bs t))).length + 1 := hl
          have := cnts_end pb f (k + 1) (cd m (bs t)) i c (by omega) h' (by omega) hc
          have e2 : k + (i + 1) = k + 1 + i := by omega
          rw [e2]
          exact this
structure NdGood (R : Pl) (n : Nat) (d : Nd) : Prop where
  ok : NdOk R n d.lv d.one d.oth
  m1 : d.one < d.mid R
  m2 : d.mid R < d.oth
  no : d.form = none → R.en = .left ∨ R.en = .right
  so : ∀ s, d.form = some s → s.sz ≤ 60 ∧ ∃ l r, s = .n l r
/-- the node of the least lump stands -/
theorem least_nd {R : Pl} (pb : PlB R) {n : Nat} (hn : 1 ≤ n) : ∀ (f k m lo hi : Nat), lo < hi → hi < m → m ≤ f → (cntF R n)[k]? = some m → NdGood R n (leastF R f k m lo hi)
  | 0, k, m, lo, hi, h1, h2, h3, h4 => by omega
  | f + 1, k, m, lo, hi, h1, h2, h3, h4 => by
    unfold leastF
    obtain ⟨c1, c2, c3, c4⟩ := cnts_at pb n 0 n k m hn h4
    have ok := pb.ok
    cases q : R.stage k with
    | none =>
      obtain ⟨_, he⟩ := ok.nost q
      have he2 := he
      rcases he with he | he
      · have hl : R.isLeft = true := by
          unfold Pl.isLeft
          rw [he]
        simp only [hl, if_true]
        exact ⟨⟨by show 0 < hi + 1; omega, m, h4, by show hi + 1 ≤ m; omega⟩, by simp only [Nd.mid, hl, if_true]; omega, by simp only [Nd.mid, hl, if_true]; omega, fun _ => he2, fun s e => nomatch e⟩
      · have hl : R.isLeft = false := by
          unfold Pl.isLeft
          rw [he]
        simp only [hl, Bool.false_eq_true, if_false]
        exact ⟨⟨by show lo < m; omega, m, h4, Nat.le_refl _⟩, by simp [Nd.mid, hl], by simp only [Nd.mid, hl, Bool.false_eq_true, if_false]; omega, fun _ => he2, fun s e => nomatch e⟩
    | some t =>
      have tb := pb.stage q
      have ht := tb.ok
      have hb := ht.two
      have b3 : bs t = t.length + 1 := rfl
      have b4 := tb.le
      obtain ⟨d1, d2⟩ := div_facts lo (bs t) hb
      obtain ⟨d3, d4⟩ := div_facts hi (bs t) hb
      by_cases same : lo / bs t = hi / bs t
      · simp only [if_pos same]
        rw [← same] at d3 d4
        have hsz := ent_sz ht (m := min (bs t) (m - lo / bs t * bs t)) (by omega) (by omega)
        obtain ⟨x, l, r, e, g1, g2, g3, g4, g5, g6, _, _, _⟩ := nar_ok (ent t (min (bs t) (m - lo / bs t * bs t))) (lo / bs t * bs t) lo hi d1 h1 (by rw [hsz]; omega)
        rw [hsz] at g6
        have lp := l.sz_pos
        have rp := r.sz_pos
        rw [e]
        refine ⟨⟨?_, m, h4, ?_⟩, ?_, ?_, fun z => (nomatch z), fun s z => ?_⟩
        · show x < x + (l.sz + r.sz)
          omega
        · show x + (l.sz + r.sz) ≤ m
          omega
        · show x < x + l.sz
          omega
        · show x + l.sz < x + (l.sz + r.sz)
          omega
        · cases z
          exact ⟨by show l.sz + r.sz ≤ 60; omega, l, r, rfl⟩
      · simp only [if_neg same]
        have hle : lo / bs t ≤ hi / bs t := Nat.div_le_div_right (by omega)
        have z1 := cd_gt m (bs t) _ hb (show hi / bs t * bs t < m by omega)
        have z2 := cd_lt m (bs t) hb (by omega)
        refine least_nd pb hn f (k + 1) (cd m (bs t)) (lo / bs t) (hi / bs t) (by omega) z1 (by omega) ?_
        have hk := (List.getElem?_eq_some_iff.mp h4).1
        rcases Nat.lt_or_ge (k + 1) (cntF R n).length with y | y
        · obtain ⟨t', y1, y2, y3⟩ := c4 y
          rw [Nat.zero_add, q] at y1
          cases y1
          exact y2
        · have y2 := cnts_end pb n 0 n k m (Nat.le_refl _) h4 (by have : (cntF R n).length = (cnts R n 0 n).length := rfl; omega) (by omega)
          rw [Nat.zero_add, q] at y2
          cases y2
def FmV (H : Hp) (fv : V) : Option Sh → Prop
  | none => fv = .non
  | some s => ShV H fv s
def NdV (H : Hp) (v : V) (d : Nd) : Prop := ∃ t fv, v = .ref t ∧ H t = some (.tup [vi d.lv, vi d.one, vi d.oth, fv]) ∧ FmV H fv d.form
def NdP (H : Hp) (v : V) (R : Pl) (n : Nat) (q : Nat × Nat) : Prop := ∃ lv one oth, NdL H v lv one oth ∧ NdOk R n lv one oth ∧ plc R n lv one oth = q
theorem NdP.mono {H H' : Hp} {v : V} {R : Pl} {n : Nat} {q : Nat × Nat} (m : TM H H') (h : NdP H v R n q) : NdP H' v R n q := by
  obtain ⟨lv, one, oth, h1, h2⟩ := h
  exact ⟨lv, one, oth, h1.mono m, h2⟩
section
variable {P : Program} {w : World} {K : PySem.W.Frag} {mg : Str → Option Value} {base : Heap} {CP CR E : Addr}
def spParts (CP CR : Addr) : Sp := fun vs H Q _ => ∃ rv nv R, ∃ n : Nat, ∃ d : Nd, vs = [rv, nv] ∧ Good H ∧ RwV CP CR H rv R n ∧ PlB R ∧ n ≤ 1000 ∧ 1 ≤ n ∧ NdV H nv d ∧ NdGood R n d ∧
  ∀ p a b H', Same H H' → Good H' → H' p = some (.lst [a, b]) → NdP H' a R n (plc R n d.lv d.one (d.mid R)) → NdP H' b R n (plc R n d.lv (d.mid R) d.oth) → Q (.ref p) H'
theorem c_Rows_parts (D : MDefAt K CR "parts" "Rows.parts" s_Rows_parts) (T : Txt K mg CP CR E) (c_comb_parts : Cal P w K mg base "comb_parts" 1 ["one", "other", "end"] spComb) (m_end : MCal P w K mg base CP "end" 1 ["self"] (spPEnd CP))
    (m_opened : MCal P w K mg base CR "opened" 3 ["self", "node"] (spOpened CP CR)) (c_size_of : Cal P w K mg base "size_of" 1 ["shape"] spSize) : MCal P w K mg base CR "parts" 4 ["self", "node"] (spParts CP CR) := by
  refine mcal_of D sc_Rows_parts (fun _ _ _ _ _ _ us hl => match us, hl with | [_, _], _ => rfl) (fun vs H Q E' h => ?_) (fun f cdv A outer s H vs Q E' hr h => ?_)
  · obtain ⟨rv, nv, R, n, d, rfl, _⟩ := h
    rfl
  obtain ⟨rv, nv, R, n, d, rfl, g, rw_, pb, hn, hn1, ⟨t, fv, rfl, ht, hfv⟩, nd, q⟩ := h
  obtain ⟨⟨n1, c, hc, hle⟩, n2, n3, n4, n5⟩ := nd
  obtain ⟨r, dx, plv, ml, wl, rfl, hr0, hpv, hml, hwl⟩ := rw_.ob
  refine ⟨_, (pss_cons (ps_asg (pv 1) (pg_tup rfl (pgs_cons (pg_name (i := 2) sc_Rows_parts.nd rfl (Or.inr rfl)) (pgs_cons (pg_name (i := 3) sc_Rows_parts.nd rfl (Or.inl rfl)) (pgs_cons (pg_name (i := 4) sc_Rows_parts.nd rfl (Or.inl rfl)) (pgs_cons (pg_name (i := 5) sc_Rows_parts.nd rfl (Or.inl rfl)) pgs_nil)))))) (pss_cons (ps_if (pt_cmpR op_eqN (pe_op op_subN (pv 4) (pv 3)) pe_int (nomark _)) (pss_one (ps_ret (pe_lst pa_nil))) pss_nil) (pss_cons (ps_if (pt_cmpR op_isN (pv 5) pe_non (nomark _)) (pss_cons (ps_set (i := 6) sc_Rows_parts.nd rfl (Or.inl rfl) (pe_cal c_comb_parts hr (pa_cons (pv 3) (pa_cons (pv 4) (pa_cons (pe_mcal0 m_end T.clP hr (pe_fld (pv 0) rfl)) pa_nil))))) (pss_one (ps_ret (pe_lc (g := (gTup K 2 (gCons (gName 7) (gCons (gName 8) gNil)))) (own := [("first", 7), ("last", 8)]) rfl sc_Rows_parts.nd (pi_tup (pv 6)) (blkOk_by (own := [("first", 7), ("last", 8)]) (N := n_Rows_parts) (sc := L2.defScope s_Rows_parts) (by decide +kernel)) (fun _ _ _ _ _ => (pg_tup rfl (pgs_cons (pg_name (i := 7) sc_Rows_parts.nd rfl (Or.inl rfl)) (pgs_cons (pg_name (i := 8) sc_Rows_parts.nd rfl (Or.inl rfl)) pgs_nil)))) (fun _ _ _ _ _ => pts_nil) (fun _ _ _ _ _ => (pe_mcal m_opened T.clR hr (pv 0) (pa_cons (pe_tup (pa_cons (pv 2) (pa_cons (pv 7) (pa_cons (pv 8) (pa_cons pe_non pa_nil))))) pa_nil))))))) pss_nil) (pss_cons (ps_set (i := 9) sc_Rows_parts.nd rfl (Or.inl rfl) (pe_op op_addN (pv 3) (pe_cal c_size_of hr (pa_cons (pe_ix ix_tup (pv 5) pe_int (fun _ _ => rfl)) pa_nil)))) (pss_one (ps_ret (pe_lst (pa_cons (pe_mcal m_opened T.clR hr (pv 0) (pa_cons (pe_tup (pa_cons (pv 2) (pa_cons (pv 3) (pa_cons (pv 9) (pa_cons (pe_ix ix_tup (pv 5) pe_int (fun _ _ => rfl)) pa_nil))))) pa_nil)) (pa_cons (pe_mcal m_opened T.clR hr (pv 0) (pa_cons (pe_tup (pa_cons (pv 2) (pa_cons (pv 9) (pa_cons (pv 4) (pa_cons (pe_ix ix_tup (pv 5) pe_int (fun _ _ => rfl)) pa_nil))))) pa_nil)) pa_nil))))))))), ?_⟩
  refine ⟨_, rfl, t, _, rfl, SqT.of ht, rfl, _, _, rfl, _, _, rfl, _, _, rfl, _, _, rfl, rfl, ?_⟩
  refine ⟨_, rfl, _, rfl, _, _, rfl, rfl, by omega, _, 1, rfl, rfl, _, rfl, ?_⟩
  rw [decide_eq_false (show ¬ d.oth - d.one = 1 by omega)]
  refine iteF ?_
  cases hf : d.form with
  | none =>
    rw [hf] at hfv
    cases hfv
    have hen := n4 hf
    obtain ⟨p, tv, ev, rfl, pat⟩ := id hpv
    obtain ⟨dxp, hp⟩ := pat.ob
    have es := EnV.strL pat.en hen
    have em : cmid R.isLeft d.one d.oth = d.mid R := by
      unfold cmid Nd.mid
      rw [hf]
    refine ⟨_, rfl, rfl, _, rfl, iteT ?_⟩
    refine ⟨_, rfl, _, rfl, _, rfl, r, CR, dx, _, _, rfl, hr0, T.clR, T.nP, rwF_p _ _ _, p, dxp, _, rfl, hp, no_end _ _, p, tv, ev, R, rfl, g, pat, R.isLeft, d.one, d.oth, by rw [es], g, by omega, fun p1 x y H1 s1 g1 hp1 hx hy => ?_⟩
    rw [em] at hx hy
    refine ⟨_, rfl, p1, rfl, ⟨_, SqT.of hp1⟩, fun D hD => ?_⟩
    refine lc_tup (K := K) (xs := [x, y]) (fun i H2 => Good H2 ∧ Same H1 H2 ∧ ∃ acc, H2 D = some (.lst acc) ∧ Paired (fun v q => NdP H2 v R n q) acc ([plc R n d.lv d.one (d.mid R), plc R n d.lv (d.mid R) d.oth].take i)) ⟨g1.lst hD, same_new hD, [], upd_same, .nil⟩ (fun i H2 _ h => ?_) ?_ ?_
    · exact SqT.of (h.2.1 _ _ hp1)
    · rintro i z H2 hz ⟨g2, s2, acc, hacc, hpa⟩
      have sH2 := s1.trans s2
      have go : ∀ (o1 o2 : Nat), NdOk R n d.lv o1 o2 → PrV H1 z (o1, o2) → Paired (fun v q => NdP H2 v R n q) acc ([plc R n d.lv d.one (d.mid R), plc R n d.lv (d.mid R) d.oth].take i) →
          [plc R n d.lv d.one (d.mid R), plc R n d.lv (d.mid R) d.oth].take (i + 1) = [plc R n d.lv d.one (d.mid R), plc R n d.lv (d.mid R) d.oth].take i ++ [plc R n d.lv o1 o2] → acc.length < sizeLine →
          ∃ t' : Addr, z = .ref t' ∧ H2 t' = some (.tup [vi o1, vi o2]) ∧ ∀ (T1 : Addr), H2 T1 = none → ∀ (r1 : V) (lv' one' oth' : Nat) (H3 : Hp), Same (upd H2 T1 (.tup [vi d.lv, vi o1, vi o2, .non])) H3 → Good H3 → NdL H3 r1 lv' one' oth' → NdOk R n lv' one' oth' → plc R n lv' one' oth' = plc R n d.lv o1 o2 →
            ∃ acc', H3 D = some (.lst acc') ∧ acc'.length < sizeLine ∧ (Good (upd H3 D (.lst (acc' ++ [r1]))) ∧ Same H1 (upd H3 D (.lst (acc' ++ [r1]))) ∧ ∃ acc2, (upd H3 D (.lst (acc' ++ [r1]))) D = some (.lst acc2) ∧
              Paired (fun v q => NdP (upd H3 D (.lst (acc' ++ [r1]))) v R n q) acc2 ([plc R n d.lv d.one (d.mid R), plc R n d.lv (d.mid R) d.oth].take (i + 1))) := by
        rintro o1 o2 ok1 ⟨t', rfl, ht'⟩ hp2 etk hlen
        refine ⟨t', rfl, s2 _ _ ht', fun T1 hT1 r1 lv' one' oth' H3 s3 g3 nd3 ok3 e3 => ?_⟩
        have sT := (same_new (o := .tup [vi d.lv, vi o1, vi o2, .non]) hT1).trans s3
        have hD3 := sT _ _ hacc
        refine ⟨acc, hD3, hlen, g3.lst' hD3, Same.upd (Same.trans s2 sT) hD, _, upd_same, ?_⟩
        rw [etk]
        exact Paired.app (Paired.imp (fun _ _ y => y.mono (TM.trans (TM.of sT) (TM.lst hD3))) hp2) (.cons ⟨lv', one', oth', nd3.mono (TM.lst hD3), ok3, e3⟩ .nil)
      have hlen : acc.length < sizeLine := by
        have h1 := hpa.length
        rw [List.length_take] at h1
        have h2 : min i [plc R n d.lv d.one (d.mid R), plc R n d.lv (d.mid R) d.oth].length ≤ 2 := Nat.min_le_right _ _
        exact small1000 (by omega)
      have hr2 := sH2 _ _ hr0
      have rw2 := rw_.mono sH2
      have fin : ∀ (o1 o2 : Nat), NdOk R n d.lv o1 o2 → PrV H1 z (o1, o2) → [plc R n d.lv d.one (d.mid R), plc R n d.lv (d.mid R) d.oth].take (i + 1) = [plc R n d.lv d.one (d.mid R), plc R n d.lv (d.mid R) d.oth].take i ++ [plc R n d.lv o1 o2] → _ := fun o1 o2 ok1 pz etk => go o1 o2 ok1 pz hpa etk hlen
      match i, hz with
      | 0, hz =>
        cases hz
        obtain ⟨t', rfl, ht', fin⟩ := fin d.one (d.mid R) ⟨n2, c, hc, by omega⟩ hx rfl
        refine ⟨t', _, rfl, SqT.of ht', rfl, _, _, rfl, _, _, rfl, rfl, rfl, ?_⟩
        show tMCal CR "opened" (spOpened CP CR) (tVar 0) (tCons (tTup (tCons (tVar 2) (tCons (tVar 7) (tCons (tVar 8) (tCons (tC V.non) tNil))))) tNil) _ _ _
        exact ⟨_, rfl, r, dx, _, rfl, hr2, no_opened _ _ _, _, rfl, _, rfl, _, rfl, (by show 4 ≤ sizeLine; decide), fun T1 hT1 => ⟨.ref r, .ref T1, R, n, d.lv, d.one, d.mid R, rfl, g2.tup hT1, rw2.mono (same_new hT1), pb, hn, hn1, ⟨T1, .non, rfl, upd_same⟩, ⟨n2, c, hc, by omega⟩, fun r1 lv' one' oth' H3 s3 g3 nd3 ok3 e3 => fin T1 hT1 r1 lv' one' oth' H3 s3 g3 nd3 ok3 e3⟩⟩
      | 1, hz =>
        cases hz
        obtain ⟨t', rfl, ht', fin⟩ := fin (d.mid R) d.oth ⟨n3, c, hc, hle⟩ hy rfl
        refine ⟨t', _, rfl, SqT.of ht', rfl, _, _, rfl, _, _, rfl, rfl, rfl, ?_⟩
        show tMCal CR "opened" (spOpened CP CR) (tVar 0) (tCons (tTup (tCons (tVar 2) (tCons (tVar 7) (tCons (tVar 8) (tCons (tC V.non) tNil))))) tNil) _ _ _
        exact ⟨_, rfl, r, dx, _, rfl, hr2, no_opened _ _ _, _, rfl, _, rfl, _, rfl, (by show 4 ≤ sizeLine; decide), fun T1 hT1 => ⟨.ref r, .ref T1, R, n, d.lv, d.mid R, d.oth, rfl, g2.tup hT1, rw2.mono (same_new hT1), pb, hn, hn1, ⟨T1, .non, rfl, upd_same⟩, ⟨n3, c, hc, hle⟩, fun r1 lv' one' oth' H3 s3 g3 nd3 ok3 e3 => fin T1 hT1 r1 lv' one' oth' H3 s3 g3 nd3 ok3 e3⟩⟩
      | i + 2, hz => simp at hz
    · rintro H2 ⟨g2, s2, acc, hacc, hpa⟩
      cases hpa with
      | cons ha hpa =>
        cases hpa with
        | cons hb hpa =>
          cases hpa
          exact fin1 g2 (s1.trans s2) (q _ _ _ _ (s1.trans s2) g2 hacc ha hb)
  | some sh =>
    rw [hf] at hfv
    obtain ⟨hz, l, rr, rfl⟩ := n5 sh hf
    obtain ⟨a, x, y, rfl, ha, hx, hy⟩ := id hfv
    have em : d.mid R = d.one + l.sz := by
      unfold Nd.mid
      rw [hf]
    have ez : Sh.sz (.n l rr) = l.sz + rr.sz := rfl
    have rp := rr.sz_pos
    refine ⟨_, rfl, rfl, _, rfl, iteF ?_⟩
    refine ⟨_, rfl, _, rfl, a, _, 0, x, rfl, rfl, SqT.of ha, rfl, x, l, rfl, g, hx, by omega, _, _, rfl, rfl, ?_⟩
    rw [em] at n2 n3 q
    refine ⟨_, rfl, r, dx, _, rfl, hr0, no_opened _ _ _, _, rfl, _, rfl, _, rfl, _, rfl, a, _, 0, x, rfl, rfl, SqT.of ha, rfl, (by show 4 ≤ sizeLine; decide), fun T1 hT1 => ?_⟩
    have sT1 := same_new (o := .tup [vi d.lv, vi d.one, vi (d.one + l.sz), x]) hT1
    refine ⟨.ref r, .ref T1, R, n, d.lv, d.one, d.one + l.sz, rfl, g.tup hT1, rw_.mono sT1, pb, hn, hn1, ⟨T1, x, rfl, upd_same⟩, ⟨n2, c, hc, by omega⟩, fun r1 lv1 one1 oth1 H1 s1 g1 nd1 ok1 e1 => ?_⟩
    have sH1 := sT1.trans s1
    refine ⟨_, rfl, r, dx, _, rfl, sH1 _ _ hr0, no_opened _ _ _, _, rfl, _, rfl, _, rfl, _, rfl, a, _, 1, y, rfl, rfl, SqT.of (sH1 _ _ ha), rfl, (by show 4 ≤ sizeLine; decide), fun T2 hT2 => ?_⟩
    have sT2 := same_new (o := .tup [vi d.lv, vi (d.one + l.sz), vi d.oth, y]) hT2
    refine ⟨.ref r, .ref T2, R, n, d.lv, d.one + l.sz, d.oth, rfl, g1.tup hT2, (rw_.mono sH1).mono sT2, pb, hn, hn1, ⟨T2, y, rfl, upd_same⟩, ⟨n3, c, hc, hle⟩, fun r2 lv2 one2 oth2 H2 s2 g2 nd2 ok2 e2 => ⟨(by show 2 ≤ sizeLine; decide), fun p hp => ?_⟩⟩
    have sH2 := (sH1.trans sT2).trans s2
    have sP := same_new (o := .lst [r1, r2]) hp
    exact fin1 (g2.lst hp) (sH2.trans sP) (q p r1 r2 _ (sH2.trans sP) (g2.lst hp) upd_same ⟨lv1, one1, oth1, nd1.mono (TM.of ((sT2.trans s2).trans sP)), ok1, e1⟩ ⟨lv2, one2, oth2, nd2.mono (TM.of sP), ok2, e2⟩)
/-! ### least -/
def spLeast (CP CR : Addr) : Sp := fun vs H Q _ => ∃ rv R, ∃ n lo hi : Nat, vs = [rv, vi lo, vi hi] ∧ Good H ∧ RwV CP CR H rv R n ∧ PlB R ∧ n ≤ 1000 ∧ lo < hi ∧ hi < n ∧
  ∀ v H', Same H H' → Good H' → NdV H' v (leastF R n 0 n lo hi) → Q v H'
theorem c_Rows_least (D : MDefAt K CR "least" "Rows.least" s_Rows_least) (T : Txt K mg CP CR E) (m_stage : MCal P w K mg base CP "stage" 1 ["self", "k"] (spStage CP)) (c_table_size : Cal P w K mg base "table_size" 1 ["table"] spTSize)
    (m_stretch : MCal P w K mg base CR "stretch" 2 ["self", "level", "number"] (spStretch CP CR)) (m_narrowed : MCal P w K mg base CR "narrowed" 2 ["self", "node", "low", "high"] spNarrowed) (m_end : MCal P w K mg base CP "end" 1 ["self"] (spPEnd CP)) :
    MCal P w K mg base CR "least" 3 ["self", "low", "high"] (spLeast CP CR) := by
  refine mcal_of D sc_Rows_least (fun _ _ _ _ _ _ us hl => match us, hl with | [_, _, _], _ => rfl) (fun vs H Q E' h => ?_) (fun f cdv A outer s H vs Q E' hr h => ?_)
  · obtain ⟨rv, R, n, lo, hi, rfl, _⟩ := h
    rfl
  obtain ⟨rv, R, n, lo, hi, rfl, g, rw_, pb, hn, hlo, hhi, q⟩ := h
  have hn1 : 1 ≤ n := by omega
  obtain ⟨r, dx, plv, ml, wl, rfl, hr0, hpv, hml, hwl⟩ := rw_.ob
  obtain ⟨p, tv, ev, rfl, pat⟩ := id hpv
  obtain ⟨dxp, hp⟩ := pat.ob
  have hlen : 1 ≤ (cntF R n).length := cnts_ne R n 0 n
  have hlen2 : (cntF R n).length ≤ n + 1 := cnts_le R n 0 n
  have hml2 : ((cntF R n).map vi).length = (cntF R n).length := List.length_map ..
  refine ⟨_, (pss_cons (ps_for PassesOwn.never rfl (pi_range1 (by rfl) T.range_ (pa_cons (pe_op op_subN (pe_callB call_len_seq (by rfl) T.len_ PySem.boot_len (pa_cons (pe_fld (pv 0) rfl) pa_nil)) pe_int) pa_nil)) (pg_name (i := 3) sc_Rows_least.nd rfl (Or.inl rfl)) (pss_cons (ps_set (i := 4) sc_Rows_least.nd rfl (Or.inl rfl) (pe_cal c_table_size hr (pa_cons (pe_mcal m_stage T.clP hr (pe_fld (pv 0) rfl) (pa_cons (pv 3) pa_nil)) pa_nil))) (pss_cons (ps_if (pt_cmpR op_eqN (pe_op op_fdivNN (pv 1) (pv 4)) (pe_op op_fdivNN (pv 2) (pv 4)) (nomark _)) (pss_cons (ps_asg (pe_mcal m_stretch T.clR hr (pv 0) (pa_cons (pv 3) (pa_cons (pe_op op_fdivNN (pv 1) (pv 4)) pa_nil))) (pg_tup rfl (pgs_cons (pg_name (i := 5) sc_Rows_least.nd rfl (Or.inl rfl)) (pgs_cons (pg_name (i := 6) sc_Rows_least.nd rfl (Or.inl rfl)) (pgs_cons (pg_name (i := 7) sc_Rows_least.nd rfl (Or.inl rfl)) pgs_nil))))) (pss_one (ps_ret (pe_mcal m_narrowed T.clR hr (pv 0) (pa_cons (pe_tup (pa_cons (pv 3) (pa_cons (pv 5) (pa_cons (pe_op op_addN (pv 5) (pv 6)) (pa_cons (pv 7) pa_nil))))) (pa_cons (pv 1) (pa_cons (pv 2) pa_nil))))))) pss_nil) (pss_one (ps_par (i := 1) (j := 2) (by rfl) sc_Rows_least.nd rfl rfl (by decide) rfl rfl (pa_cons (pe_op op_fdivNN (pv 1) (pv 4)) (pa_cons (pe_op op_fdivNN (pv 2) (pv 4)) pa_nil)) (by rfl)))))) (pss_cons (ps_set (i := 3) sc_Rows_least.nd rfl (Or.inl rfl) (pe_op op_subN (pe_callB call_len_seq (by rfl) T.len_ PySem.boot_len (pa_cons (pe_fld (pv 0) rfl) pa_nil)) pe_int)) (pss_one (ps_ret (pe_ifExp (pt_cmpR op_eq (pe_mcal0 m_end T.clP hr (pe_fld (pv 0) rfl)) pe_str (nomark _)) (pe_tup (pa_cons (pv 3) (pa_cons pe_int (pa_cons (pe_op op_addN (pv 2) pe_int) (pa_cons pe_non pa_nil))))) (pe_tup (pa_cons (pv 3) (pa_cons (pv 1) (pa_cons (pe_ix ix_list (pe_fld (pv 0) rfl) (pe_un un_neg pe_int) (fun _ _ => rfl)) (pa_cons pe_non pa_nil)))))))))), ?_⟩
  refine ⟨_, rfl, r, CR, dx, _, _, rfl, hr0, T.clR, T.nM, rwF_m _ _ _, ml, _, rfl, .inl (SqL.of hml), _, 1, rfl, rfl, by omega, _, rfl, by omega, by omega, ?_⟩
  refine for_range (lo := 0) (n := ((((((cntF R n).map vi).length - 1 : Nat) : Int))).toNat) (fun i σ H' => ∃ (lo' hi' m : Nat) (x3 x4 x5 x6 x7 : Option V), σ = [some (.ref r), some (vi lo'), some (vi hi'), x3, x4, x5, x6, x7] ∧ H' = H ∧
    leastF R n 0 n lo hi = leastF R (n - i) i m lo' hi' ∧ (cntF R n)[i]? = some m ∧ lo' < hi' ∧ hi' < m ∧ m + i ≤ n) ⟨lo, hi, n, none, none, none, none, none, rfl, rfl, rfl, cnts_zero R n 0 n, hlo, hhi, by omega⟩ ?_ ?_
  · rintro i σ H' hi' ⟨lo', hi2, m, x3, x4, x5, x6, x7, rfl, rfl, he, hm, k1, k2, k3⟩
    rw [show ((0 : Int) + (i : Int)) = (i : Int) from Int.zero_add _]
    rw [Int.toNat_natCast, hml2] at hi'
    obtain ⟨d1, d2, d3, d4⟩ := cnts_at pb n 0 n i m hn1 hm
    obtain ⟨t, hs, hm2, _⟩ := d4 (by have : (cntF R n).length = (cnts R n 0 n).length := rfl; omega)
    rw [Nat.zero_add] at hs
    have tb := pb.stage hs
    have two := tb.ok.two
    have b3 : bs t = t.length + 1 := rfl
    have b4 := tb.le
    obtain ⟨e1, e2⟩ := div_facts lo' (bs t) two
    obtain ⟨e3, e4⟩ := div_facts hi2 (bs t) two
    obtain ⟨f', hf'⟩ : ∃ z, n - i = z + 1 := ⟨n - i - 1, by omega⟩
    rw [hf'] at he
    refine ⟨_, rfl, r, CR, dx, _, _, rfl, hr0, T.clR, T.nP, rwF_p _ _ _, p, dxp, _, rfl, hp, no_stage _ _, _, rfl, .ref p, R, i, rfl, g, hpv, pb, fun rr hrr => ?_⟩
    rw [hs] at hrr
    refine ⟨rr, t, rfl, g, hrr, ?_⟩
    refine ⟨_, rfl, _, rfl, _, _, rfl, rfl, ⟨by omega, by omega⟩, _, rfl, _, rfl, _, _, rfl, rfl, ⟨by omega, by omega⟩, _, _, rfl, rfl, _, rfl, ?_⟩
    by_cases same : lo' / bs t = hi2 / bs t
    · rw [decide_eq_true same]
      refine iteT ?_
      rw [← same] at e3 e4
      have hsz := ent_sz tb.ok (m := min (bs t) (m - lo' / bs t * bs t)) (by omega) (by omega)
      have eb := tb.entB (m := min (bs t) (m - lo' / bs t * bs t)) (by omega) (by omega)
      refine ⟨_, rfl, r, dx, _, rfl, hr0, no_stretch _ _ _, _, rfl, _, rfl, _, rfl, _, _, rfl, rfl, ⟨by omega, by omega⟩, .ref r, R, n, i, lo' / bs t, m, t, rfl, g, rw_, pb, hn, hm, hs, by omega, d2, fun p1 e H1 s1 g1 hp1 hev => ?_⟩
      refine ⟨p1, _, rfl, SqT.of hp1, rfl, _, _, rfl, _, _, rfl, _, _, rfl, rfl, ?_⟩
      refine ⟨_, rfl, r, dx, _, rfl, s1 _ _ hr0, no_narrowed _ _ _, _, rfl, _, rfl, _, rfl, _, rfl, _, _, rfl, rfl, _, rfl, (by show 4 ≤ sizeLine; decide), fun T1 hT1 => ?_⟩
      refine ⟨_, rfl, _, rfl, .ref r, T1, e, ent t (min (bs t) (m - lo' / bs t * bs t)), i, lo' / bs t * bs t, lo', hi2, rfl, g1.tup hT1, by rw [hsz]; exact upd_same, hev.mono (TM.new hT1), by omega, e1, k1, by omega, fun p2 fv' H2 s2 g2 hp2 hfv => ?_⟩
      have sH2 := (s1.trans (same_new hT1)).trans s2
      refine fin1 g2 sH2 (q _ _ sH2 g2 ?_)
      rw [he]
      unfold leastF
      rw [hs]
      simp only [if_pos same]
      exact ⟨p2, fv', rfl, hp2, hfv⟩
    · rw [decide_eq_false same]
      refine iteF ?_
      refine ⟨_, rfl, _, rfl, _, _, rfl, rfl, ⟨by omega, by omega⟩, _, rfl, _, rfl, _, _, rfl, rfl, ⟨by omega, by omega⟩, _, _, rfl, ?_⟩
      have hle : lo' / bs t ≤ hi2 / bs t := Nat.div_le_div_right (by omega)
      have z1 := cd_gt m (bs t) _ two (show hi2 / bs t * bs t < m by omega)
      have z2 := cd_lt m (bs t) two (by omega)
      refine ⟨lo' / bs t, hi2 / bs t, cd m (bs t), _, _, _, _, _, rfl, rfl, ?_, hm2, by omega, z1, by omega⟩
      rw [he]
      have e5 : n - (i + 1) = f' := by omega
      rw [e5]
      rw [leastF, hs]
      simp only [if_neg same]
  · rintro σ H' ⟨lo', hi', m, x3, x4, x5, x6, x7, rfl, rfl, he, hm, k1, k2, k3⟩
    rw [Int.toNat_natCast, hml2] at he hm k3
    have hs := cnts_end pb n 0 n ((cntF R n).length - 1) m (Nat.le_refl _) hm (by have : (cntF R n).length = (cnts R n 0 n).length := rfl; omega) (by omega)
    rw [Nat.zero_add] at hs
    have hen := (pb.ok.nost hs).2
    have es := EnV.strL pat.en hen
    obtain ⟨f', hf'⟩ : ∃ z, n - ((cntF R n).length - 1) = z + 1 := ⟨n - ((cntF R n).length - 1) - 1, by omega⟩
    rw [hf'] at he
    rw [leastF, hs] at he
    rw [he] at q
    refine ⟨_, rfl, r, CR, dx, _, _, rfl, hr0, T.clR, T.nM, rwF_m _ _ _, ml, _, rfl, .inl (SqL.of hml), _, 1, rfl, rfl, by omega, ?_⟩
    refine ⟨_, rfl, r, CR, dx, _, _, rfl, hr0, T.clR, T.nP, rwF_p _ _ _, p, dxp, _, rfl, hp, no_end _ _, p, tv, ev, R, rfl, g, pat, ?_⟩
    rw [es]
    refine ⟨rfl, _, rfl, ?_⟩
    show if decide (V.str (lrS R.isLeft) = V.str "left") = true then _ else _
    rw [lr_eq]
    have hl1 : V.int ((((cntF R n).map vi).length - 1 : Nat) : Int) = vi ((cntF R n).length - 1) := by
      rw [hml2]
      rfl
    cases hl : R.isLeft with
    | true =>
      rw [hl] at q
      refine iteT ⟨_, rfl, _, rfl, _, 1, rfl, rfl, (by show 4 ≤ sizeLine; decide), fun p1 hp1 => ?_⟩
      rw [hl1]
      exact fin1 (g.tup hp1) (same_new hp1) (q _ _ (same_new hp1) (g.tup hp1) ⟨p1, .non, rfl, upd_same, rfl⟩)
    | false =>
      rw [hl] at q
      refine iteF ⟨_, rfl, _, rfl, _, rfl, r, CR, dx, _, _, rfl, hr0, T.clR, T.nM, rwF_m _ _ _, _, rfl, ml, _, -1, _, rfl, rfl, SqL.of hml, atI_end (cn_at hm) (by rw [hml2]; omega), (by show 4 ≤ sizeLine; decide), fun p1 hp1 => ?_⟩
      rw [hl1]
      exact fin1 (g.tup hp1) (same_new hp1) (q _ _ (same_new hp1) (g.tup hp1) ⟨p1, .non, rfl, upd_same, rfl⟩)
end
end KL

namespace KL
open PySem PySem.Spec L2
open PyProof.Rows hiding St
section
variable {P : Program} {w : World} {K : PySem.W.Frag} {mg : Str → Option Value} {base : Heap} {CP CR E : Addr}
/-! ### crossing -/
def spCross (CP : Addr) : Sp := fun vs H Q _ => ∃ v R, ∃ n i j : Nat, vs = [v, vi n, vi i, vi j] ∧ Good H ∧ PlV CP H v R ∧ PlB R ∧ n ≤ 1000 ∧ i < j ∧ j ≤ n ∧
  (alr R n 0 n i j = true → Q .non H) ∧ (alr R n 0 n i j = false → ∀ r H', Same H H' → Good H' → PrV H' r (crossF R n i j) → Q r H')
theorem alr_big {R : Pl} {n i j : Nat} (hn : 1 ≤ n) (h : alr R n 0 n i j = false) : 1 < j - i := by
  obtain ⟨f, rfl⟩ : ∃ z, n = z + 1 := ⟨n - 1, by omega⟩
  rw [alr] at h
  by_cases c : 1 < j - i
  · exact c
  · rw [if_neg c] at h
    cases h
theorem c_crossing (D : DefAt K mg "crossing" s_crossing) (T : Txt K mg CP CR E) (c_is_lump : Cal P w K mg base "is_lump" 4 ["plan", "n", "i", "j"] (spIsLump CP)) (i_Rows : ICal P w K mg base CR "Rows" 4 ["self", "plan", "n"] (spRI CP CR))
    (m_least : MCal P w K mg base CR "least" 3 ["self", "low", "high"] (spLeast CP CR)) (m_parts : MCal P w K mg base CR "parts" 4 ["self", "node"] (spParts CP CR)) (m_places : MCal P w K mg base CR "places" 1 ["self", "node"] (spPlaces CP CR)) :
    Cal P w K mg base "crossing" 6 ["plan", "n", "i", "j"] (spCross CP) := by
  refine cal_of D sc_crossing (fun _ _ _ _ _ _ us hl => match us, hl with | [_, _, _, _], _ => rfl) (fun vs H Q E' h => ?_) (fun f cdv A outer s H vs Q E' hr h => ?_)
  · obtain ⟨v, R, n, i, j, rfl, _⟩ := h
    rfl
  obtain ⟨v, R, n, i, j, rfl, g, pv_, pb, hn, hij, hjn, q1, q2⟩ := h
  have hn1 : 1 ≤ n := by omega
  refine ⟨_, (pss_cons (ps_if (pt_val (pe_cal c_is_lump hr (pa_cons (pv 0) (pa_cons (pv 1) (pa_cons (pv 2) (pa_cons (pv 3) pa_nil)))))) (pss_one (ps_ret pe_non)) pss_nil) (pss_cons (ps_set (i := 4) sc_crossing.nd rfl (Or.inr rfl) (pe_ical i_Rows hr (pa_cons (pv 0) (pa_cons (pv 1) pa_nil)))) (pss_cons (ps_asg (pe_lc (g := (gName 7)) (own := [("part", 7)]) rfl sc_crossing.nd (pi_list (pe_mcal m_parts T.clR hr (pv 4) (pa_cons (pe_mcal m_least T.clR hr (pv 4) (pa_cons (pv 2) (pa_cons (pe_op op_subN (pv 3) pe_int) pa_nil))) pa_nil))) (blkOk_by (own := [("part", 7)]) (N := n_crossing) (sc := L2.defScope s_crossing) (by decide +kernel)) (fun _ _ _ _ _ => (pg_name (i := 7) sc_crossing.nd rfl (Or.inl rfl))) (fun _ _ _ _ _ => pts_nil) (fun _ _ _ _ _ => (pe_mcal m_places T.clR hr (pv 4) (pa_cons (pv 7) pa_nil)))) (pg_lst rfl (pgs_cons (pg_name (i := 5) sc_crossing.nd rfl (Or.inl rfl)) (pgs_cons (pg_name (i := 6) sc_crossing.nd rfl (Or.inl rfl)) pgs_nil)))) (pss_one (ps_ret (pe_ifExp (pt_cmpR op_ltN (pe_ix ix_tup (pv 5) pe_int (fun _ _ => rfl)) (pv 2) (nomark _)) (pv 5) (pv 6))))))), ?_⟩
  refine ⟨_, rfl, _, rfl, _, rfl, _, rfl, v, R, n, vi i, vi j, _, rfl, g, pv_, pb, .int _, .int _, .inr ⟨n, i, j, rfl, hn, rfl, rfl, rfl⟩, _, rfl, ?_⟩
  rw [decide_eq_true hij, decide_eq_true hjn, Bool.true_and, Bool.true_and]
  cases hal : alr R n 0 n i j with
  | true => exact iteT (fin0 g (Same.refl H) (q1 hal))
  | false =>
    have big := alr_big hn1 hal
    refine iteF ?_
    refine ⟨_, rfl, _, rfl, fun x dx hx hdx hne => ⟨x, dx, v, R, n, rfl, g.made hx hdx hne, upd_same, ?_, pb, hn1, hn, fun H1 g1 kr rw1 => ⟨rfl, ?_⟩⟩⟩
    · exact pv_.mono (Same.upd (same_new hdx) hx)
    have s1 : Same H H1 := fun b o e => kr b o (Same.upd (same_new hdx) hx b o e) (ne_of_none e hx)
    obtain ⟨r, dxr, plv, ml, wl, er, hr0, hpv, hml, hwl⟩ := rw1.ob
    cases er
    refine ⟨_, rfl, x, dxr, _, rfl, hr0, no_parts _ _ _, _, rfl, x, dxr, _, rfl, hr0, no_least _ _ _, _, rfl, _, rfl, _, 1, rfl, rfl, by omega, .ref x, R, n, i, j - 1, rfl, g1, rw1, pb, hn, by omega, by omega, fun nv H2 s2 g2 hnv => ?_⟩
    refine ⟨.ref x, nv, R, n, leastF R n 0 n i (j - 1), rfl, g2, rw1.mono s2, pb, hn, hn1, hnv, least_nd pb hn1 n 0 n i (j - 1) (by omega) (by omega) (Nat.le_refl _) (cnts_zero R n 0 n), fun p a b H3 s3 g3 hp ha hb => ?_⟩
    refine ⟨p, rfl, ⟨_, SqL.of hp⟩, fun D hD => ?_⟩
    have s13 := s2.trans s3
    have s03 := s1.trans s13
    have eqc : crossF R n i j = if (plc R n (leastF R n 0 n i (j - 1)).lv (leastF R n 0 n i (j - 1)).one ((leastF R n 0 n i (j - 1)).mid R)).1 < i then plc R n (leastF R n 0 n i (j - 1)).lv (leastF R n 0 n i (j - 1)).one ((leastF R n 0 n i (j - 1)).mid R)
        else plc R n (leastF R n 0 n i (j - 1)).lv ((leastF R n 0 n i (j - 1)).mid R) (leastF R n 0 n i (j - 1)).oth := rfl
    replace q2 := q2 hal
    rw [eqc] at q2
    generalize plc R n (leastF R n 0 n i (j - 1)).lv (leastF R n 0 n i (j - 1)).one ((leastF R n 0 n i (j - 1)).mid R) = qa at ha hb q2 hp
    generalize plc R n (leastF R n 0 n i (j - 1)).lv ((leastF R n 0 n i (j - 1)).mid R) (leastF R n 0 n i (j - 1)).oth = qb at ha hb q2 hp
    refine lc_list (K := K) (xs := [a, b]) (fun k H4 => Good H4 ∧ Same H3 H4 ∧ ∃ acc, H4 D = some (.lst acc) ∧ Paired (PrV H4) acc ([qa, qb].take k)) ⟨g3.lst hD, same_new hD, [], upd_same, .nil⟩ (fun i H4 _ h => ?_) ?_ ?_
    · exact SqL.of (h.2.1 _ _ hp)
    · rintro k z H4 hz ⟨g4, s4, acc, hacc, hpa⟩
      have s14 := s13.trans s4
      have hlen : acc.length < sizeLine := by
        have h1 := hpa.length
        rw [List.length_take] at h1
        have h2 : min k [qa, qb].length ≤ 2 := Nat.min_le_right _ _
        exact small1000 (by omega)
      have go : ∀ qz, NdP H3 z R n qz → [qa, qb].take (k + 1) = [qa, qb].take k ++ [qz] → tMCal CR "places" (spPlaces CP CR) (tVar 4) (tCons (tVar 7) tNil) [some v, some (vi n), some (vi i), some (vi j), some (.ref x), none, none, some z] H4
          (fun y H5 => ∃ acc, H5 D = some (.lst acc) ∧ acc.length < sizeLine ∧ (Good (upd H5 D (.lst (acc ++ [y]))) ∧ Same H3 (upd H5 D (.lst (acc ++ [y]))) ∧ ∃ acc2, (upd H5 D (.lst (acc ++ [y]))) D = some (.lst acc2) ∧ Paired (PrV (upd H5 D (.lst (acc ++ [y])))) acc2 ([qa, qb].take (k + 1)))) := by
        rintro qz ⟨lv, one, oth, nd, ok, e⟩ etk
        refine ⟨_, rfl, x, dxr, _, rfl, s14 _ _ hr0, no_places _ _ _, _, rfl, .ref x, z, R, n, lv, one, oth, rfl, g4, rw1.mono s14, pb, hn, hn1, nd.mono (TM.of s4), ok, fun y H5 s5 g5 hy => ?_⟩
        have hD5 := s5 _ _ hacc
        rw [e] at hy
        refine ⟨acc, hD5, hlen, g5.lst' hD5, Same.upd (Same.trans s4 s5) hD, _, upd_same, ?_⟩
        rw [etk]
        exact Paired.app (Paired.imp (fun _ _ y => y.mono (TM.trans (TM.of s5) (TM.lst hD5))) hpa) (.cons (hy.mono (TM.lst hD5)) .nil)
      match k, hz with
      | 0, hz =>
        cases hz
        exact ⟨rfl, go qa ha rfl⟩
      | 1, hz =>
        cases hz
        exact ⟨rfl, go qb hb rfl⟩
      | k + 2, hz => simp at hz
    · rintro H4 ⟨g4, s4, acc, hacc, hpa⟩
      cases hpa with
      | cons hxa hpa =>
        cases hpa with
        | cons hxb hpa =>
          cases hpa
          obtain ⟨ta, rfl, hta⟩ := id hxa
          refine ⟨D, _, rfl, SqL.of hacc, rfl, _, _, rfl, _, _, rfl, rfl, ?_⟩
          refine ⟨_, rfl, ta, _, 0, _, rfl, rfl, SqT.of hta, rfl, _, rfl, _, _, rfl, rfl, _, rfl, ?_⟩
          by_cases c : qa.1 < i
          · rw [decide_eq_true c]
            rw [if_pos c] at q2
            exact iteT ⟨_, rfl, fin1 g4 (s03.trans s4) (q2 _ _ (s03.trans s4) g4 hxa)⟩
          · rw [decide_eq_false c]
            rw [if_neg c] at q2
            exact iteF ⟨_, rfl, fin1 g4 (s03.trans s4) (q2 _ _ (s03.trans s4) g4 hxb)⟩
end
end KL

namespace KL
open PySem PySem.Spec L2
open PyProof.Rows hiding St
/-! ### the source of the drawn numbers -/
def srcK (c : Addr) (l m t : Int) : List (Key × V) := [(.inr "cells", .ref c), (.inr "left", .int l), (.inr "mixed", .int m), (.inr "turn", .int t)]
theorem srcK_cells (c : Addr) (l m t : Int) : valV (srcK c l m t) (.inr "cells") = some (.ref c) := by rfl
theorem srcK_left (c : Addr) (l m t : Int) : valV (srcK c l m t) (.inr "left") = some (.int l) := by rfl
theorem srcK_mixed (c : Addr) (l m t : Int) : valV (srcK c l m t) (.inr "mixed") = some (.int m) := by rfl
theorem srcK_turn (c : Addr) (l m t : Int) : valV (srcK c l m t) (.inr "turn") = some (.int t) := by rfl
theorem srcK_pleft (c : Addr) (l m t x : Int) : putK (srcK c l m t) (.inr "left") (.int x) = srcK c x m t := by rfl
theorem srcK_pmixed (c : Addr) (l m t x : Int) : putK (srcK c l m t) (.inr "mixed") (.int x) = srcK c l x t := by rfl
theorem srcK_pturn (c : Addr) (l m t x : Int) : putK (srcK c l m t) (.inr "turn") (.int x) = srcK c l m x := by rfl
structure SrcAt (H : Hp) (d c : Addr) (l m t : Int) (xs : List Int) : Prop where
  hd : H d = some (.dK (srcK c l m t))
  hc : H c = some (.lst (xs.map V.int))
def Src (H : Hp) (d c : Addr) : Prop := ∃ l m t xs, SrcAt H d c l m t xs
theorem SrcAt.ne {H : Hp} {d c : Addr} {l m t : Int} {xs : List Int} (s : SrcAt H d c l m t xs) : d ≠ c := ne_of s.hd s.hc (by intro z; cases z)
theorem Src.mono {H H' : Hp} {d c : Addr} (s : Same H H') (h : Src H d c) : Src H' d c := by
  obtain ⟨l, m, t, xs, h1, h2⟩ := h
  exact ⟨l, m, t, xs, s _ _ h1, s _ _ h2⟩
theorem SrcAt.dget {H : Hp} {d c : Addr} {l m t : Int} {xs : List Int} (s : SrcAt H d c l m t xs) {k : Str} {v : V} (h : valV (srcK c l m t) (.inr k) = some v) : DGet H d (.str k) (some v) := by
  rw [← h]
  exact DGet.k (k := .inr k) s.hd
theorem SrcAt.put {H : Hp} {d c : Addr} {l m t l' m' t' : Int} {xs : List Int} (s : SrcAt H d c l m t xs) : SrcAt (upd H d (.dK (srcK c l' m' t'))) d c l' m' t' xs := by
  refine ⟨upd_same, ?_⟩
  rw [upd_ne (Ne.symm s.ne)]
  exact s.hc
theorem SrcAt.cut {H : Hp} {d c : Addr} {l m t : Int} {xs ys : List Int} (s : SrcAt H d c l m t xs) : SrcAt (upd H c (.lst (ys.map V.int))) d c l m t ys := by
  refine ⟨?_, upd_same⟩
  rw [upd_ne s.ne]
  exact s.hd
/-- what a drawing leaves behind -/
structure Drw (d c : Addr) (H H' : Hp) : Prop where
  g : Good H'
  s : Src H' d c
  k : Keep d c H H'
theorem Drw.refl {d c : Addr} {H : Hp} (g : Good H) (s : Src H d c) : Drw d c H H := ⟨g, s, Keep.refl⟩
theorem Drw.trans {d c : Addr} {H H1 H2 : Hp} (a : Drw d c H H1) (b : Drw d c H1 H2) : Drw d c H H2 := ⟨b.g, b.s, a.k.trans b.k⟩
theorem Drw.same {d c : Addr} {H H1 H2 : Hp} (a : Drw d c H H1) (g : Good H2) (s : Same H1 H2) : Drw d c H H2 := ⟨g, a.s.mono s, a.k.trans (Keep.of s)⟩
theorem Drw.of {d c : Addr} {H H2 : Hp} (x : Src H d c) (g : Good H2) (s : Same H H2) : Drw d c H H2 := ⟨g, x.mono s, Keep.of s⟩
theorem Drw.at {d c : Addr} {H H' : Hp} (a : Drw d c H H') (x : Src H d c) {p : Addr} {o : HO} (h : H p = some o) (nl : ∀ xs, o ≠ .lst xs) (nd : ∀ xs, o ≠ .dK xs) : H' p = some o := by
  obtain ⟨l, m, t, xs, h1, h2⟩ := x
  refine a.k p o h (fun e => ?_) (fun e => ?_)
  · rw [e, h1] at h
    cases h
    exact nd _ rfl
  · rw [e, h2] at h
    cases h
    exact nl _ rfl
theorem Drw.tm {d c : Addr} {H H' : Hp} (a : Drw d c H H') (x : Src H d c) : TM H H' := fun p xs h => a.at x h (fun _ z => nomatch z) (fun _ z => nomatch z)
theorem Drw.dom {d c : Addr} {H H' : Hp} (a : Drw d c H H') : Dom H H' := fun b e => by
  cases h : H b with
  | none => rfl
  | some o =>
    obtain ⟨l, m, t, xs, h1, h2⟩ := a.s
    by_cases e1 : b = d
    · rw [e1, h1] at e
      cases e
    · by_cases e2 : b = c
      · rw [e2, h2] at e
        cases e
      · rw [a.k b o h e1 e2] at e
        cases e
/-- a list that is not the source's -/
theorem Drw.lst {d c : Addr} {H H' : Hp} (a : Drw d c H H') (x : Src H d c) {p : Addr} {xs : List V} (h : H p = some (.lst xs)) (ne : p ≠ c) : H' p = some (.lst xs) := by
  obtain ⟨l, m, t, ys, h1, h2⟩ := x
  exact a.k p _ h (ne_of h h1 (by intro z; cases z)) ne
theorem Src.ne {H : Hp} {d c p : Addr} (x : Src H d c) (h : H p = none) : p ≠ d ∧ p ≠ c := by
  obtain ⟨l, m, t, ys, h1, h2⟩ := x
  refine ⟨fun e => ?_, fun e => ?_⟩
  · rw [e, h1] at h
    cases h
  · rw [e, h2] at h
    cases h
theorem SrcAt.dput {H : Hp} {d c : Addr} {l m t l' m' t' : Int} {xs : List Int} {k : Str} {x : V} (s : SrcAt H d c l m t xs) (e : putK (srcK c l m t) (.inr k) x = srcK c l' m' t') : DPut H d (.str k) x (upd H d (.dK (srcK c l' m' t'))) := by
  rw [← e]
  exact DPut.k (k := .inr k) s.hd (by show 4 < sizeLine; decide)
theorem pu_and {t u : TT} {σ : St} {H : Hp} {b1 b2 : Bool} {Q : Bool → Hp → Prop} (h1 : ∀ Q : Bool → Hp → Prop, Q b1 H → t σ H Q) (h2 : b1 = true → ∀ Q : Bool → Hp → Prop, Q b2 H → u σ H Q) (q : Q (b1 && b2) H) : tAnd t u σ H Q := by
  refine h1 _ ?_
  cases b1 with
  | true => exact iteT (h2 rfl _ q)
  | false => exact iteF q
theorem pu_or {t u : TT} {σ : St} {H : Hp} {b1 b2 : Bool} {Q : Bool → Hp → Prop} (h1 : ∀ Q : Bool → Hp → Prop, Q b1 H → t σ H Q) (h2 : b1 = false → ∀ Q : Bool → Hp → Prop, Q b2 H → u σ H Q) (q : Q (b1 || b2) H) : tOr t u σ H Q := by
  refine h1 _ ?_
  cases b1 with
  | true => exact iteT q
  | false => exact iteF (h2 rfl _ q)
section
variable {P : Program} {w : World} {K : PySem.W.Frag} {mg : Str → Option Value} {base : Heap} {CP CR E : Addr}
def spPick : Sp := fun vs H Q _ => ∃ d c, ∃ many : Nat, vs = [.ref d, vi many] ∧ Good H ∧ Src H d c ∧ many < 1000000 ∧ ∀ (r : Nat) H', Drw d c H H' → r < max 1 many → Q (vi r) H'
theorem c_l_pick (D : DefAt K mg "_law_pick" s_l_pick) (T : Txt K mg CP CR E) : Cal P w K mg base "_law_pick" 1 ["_law_source_here", "_law_many"] spPick := by
  refine cal_of D sc_l_pick (fun _ _ _ _ _ _ us hl => match us, hl with | [_, _], _ => rfl) (fun vs H Q E' h => ?_) (fun f cdv A outer s H vs Q E' hr h => ?_)
  · obtain ⟨d, c, many, rfl, _⟩ := h
    rfl
  obtain ⟨d, c, many, rfl, g, ⟨l0, m0, t0, xs0, s0⟩, hmany, q⟩ := h
  have hu : (A.deeper (envOfC "_law_pick" (L2.defScope s_l_pick) s.heap.objs.size f cdv)).units + 1 < cLine := by
    have := hr.un
    omega
  refine ⟨_, (pss_cons (ps_while PassesOwn.never (PW.pt (pw_and (pt_cmpR op_gt (pv 1) pe_int (nomark _)) (pw_and (pt_cmpR op_lt (pe_dget hu (pv 0) pe_str (fun _ _ => rfl)) pe_int (nomark _)) (pw_and1 (pt_cmpR op_gt (pe_callB call_len_seq (by rfl) T.len_ PySem.boot_len (pa_cons (pe_dget hu (pv 0) pe_str (fun _ _ => rfl)) pa_nil)) pe_int (nomark _)))))) (pss_one (ps_dput hu (pv 0) pe_str (pe_bm0 PySem.F.plainAttrs_list PySem.F.slot_list_pop PySem.F.type_list_pop mt_pop (pe_dget hu (pv 0) pe_str (fun _ _ => rfl))) rfl))) (pss_cons (ps_set (i := 2) sc_l_pick.nd rfl (Or.inl rfl) (pe_dget hu (pv 0) pe_str (fun _ _ => rfl))) (pss_cons (ps_if (PW.pt (pw_or (pt_cmpR op_lt (pv 1) pe_int (nomark _)) (pw_or1 (pt_cmpR op_gt (pv 2) pe_int (nomark _))))) (pss_cons (ps_dput hu (pv 0) pe_str (pe_op op_fdiv (pv 2) (pe_callB (call_max2N rfl) (by rfl) T.max_ (by decide +kernel) (pa_cons pe_int (pa_cons (pv 1) pa_nil)))) rfl) (pss_one (ps_ret (pe_op op_mod (pe_callTy call_int1 (by rfl) T.int_ (by decide +kernel) (pa_cons (pv 2) pa_nil)) (pe_callB (call_max2N rfl) (by rfl) T.max_ (by decide +kernel) (pa_cons pe_int (pa_cons (pv 1) pa_nil))))))) pss_nil) (pss_cons (ps_dput hu (pv 0) pe_str (pe_op op_add (pe_dget hu (pv 0) pe_str (fun _ _ => rfl)) pe_int) rfl) (pss_cons (ps_set (i := 3) sc_l_pick.nd rfl (Or.inl rfl) (pe_op op_mod (pe_callTy call_int1 (by rfl) T.int_ (by decide +kernel) (pa_cons (pe_op op_add (pe_dget hu (pv 0) pe_str (fun _ _ => rfl)) (pe_op op_mul (pe_dget hu (pv 0) pe_str (fun _ _ => rfl)) pe_int)) pa_nil)) pe_int)) (pss_cons (ps_set (i := 3) sc_l_pick.nd rfl (Or.inl rfl) (pe_op op_mod (pe_callTy call_int1 (by rfl) T.int_ (by decide +kernel) (pa_cons (pe_op op_add (pe_op op_mul (pv 3) (pv 3)) (pe_op op_mul (pe_dget hu (pv 0) pe_str (fun _ _ => rfl)) pe_int)) pa_nil)) pe_int)) (pss_cons (ps_dput hu (pv 0) pe_str (pv 3) rfl) (pss_one (ps_ret (pe_op op_mod (pe_callTy call_int1 (by rfl) T.int_ (by decide +kernel) (pa_cons (pe_op op_fdiv (pv 3) pe_int) pa_nil)) (pv 1))))))))))), ?_⟩
  refine ⟨fun k σ H' => ∃ (l m t : Int) (xs : List Int), σ = [some (.ref d), some (vi many), none, none] ∧ SrcAt H' d c l m t xs ∧ Good H' ∧ Keep d c H H' ∧ k = xs.length, ⟨_, l0, m0, t0, xs0, rfl, s0, g, Keep.refl, rfl⟩, ?_⟩
  rintro k σ H' ⟨l, m, t, xs, rfl, sa, g', kp, rfl⟩
  refine pu_and (b1 := decide ((1 : Int) < (many : Int))) (b2 := decide (l < 2) && decide ((0 : Int) < (xs.length : Int))) (fun Q q => ⟨_, rfl, _, _, rfl, rfl, _, rfl, q⟩)
    (fun _ Q q => pu_and (b1 := decide (l < 2)) (b2 := decide ((0 : Int) < (xs.length : Int))) (fun Q q => ⟨_, rfl, d, _, rfl, sa.dget (srcK_left ..), _, _, rfl, rfl, _, rfl, q⟩)
      (fun _ Q q => ⟨_, rfl, d, _, rfl, sa.dget (srcK_cells ..), c, _, rfl, .inl (SqL.of sa.hc), _, _, rfl, rfl, _, rfl, by rw [List.length_map]; exact q⟩) q) ?_
  cases hb : (decide ((1 : Int) < (many : Int)) && (decide (l < 2) && decide ((0 : Int) < (xs.length : Int)))) with
  | true =>
    refine iteT ?_
    refine ⟨Below _ _, below, ?_⟩
    simp only [Bool.and_eq_true, decide_eq_true_eq] at hb
    rcases List.eq_nil_or_concat xs with rfl | ⟨ys, y, rfl⟩
    · have h3 : (0 : Int) < (0 : Nat) := hb.2.2
      omega
    · rw [List.concat_eq_append] at sa ⊢
      have hc := sa.hc
      rw [List.map_append] at hc
      refine ⟨_, rfl, d, _, rfl, sa.dget (srcK_cells ..), .inl ⟨rfl, _, SqL.of sa.hc⟩, c, ys.map V.int ++ [.int y], .int y, rfl, rfl, hc, by rw [List.length_append]; simp, ?_⟩
      rw [List.dropLast_concat]
      have s1 := sa.cut (ys := ys)
      refine ⟨_, rfl, d, _, rfl, s1.dput (srcK_pleft ..), ?_⟩
      refine ⟨ys.length, by rw [List.length_append]; simp, y, m, t, ys, rfl, s1.put, ((g'.lst' sa.hc).dK' s1.hd), ?_, rfl⟩
      intro b o hbo n1 n2
      rw [upd_ne n1, upd_ne n2]
      exact kp b o hbo n1 n2
  | false =>
    refine iteF ?_
    have done : ∀ (l' m' t' : Int) (H2 : Hp), SrcAt H2 d c l' m' t' xs → Good H2 → Keep d c H' H2 → ∀ (z : Int) (r : Nat), z = (r : Int) → r < max 1 many → Fin H Q (.int z) H2 := fun l' m' t' H2 s2 g2 k2 z r e hr => by
      subst e
      have dr : Drw d c H H2 := ⟨g2, ⟨l', m', t', xs, s2⟩, kp.trans k2⟩
      exact fin2 g2 dr.dom (q r H2 dr hr)
    refine ⟨_, rfl, d, _, rfl, sa.dget (srcK_left ..), ?_⟩
    have hM : 1 ≤ max 1 many := Nat.le_max_left _ _
    show tIfS (tOr (tTest (tOp (rI0 fun i j => V.bl (decide (i < j))) (tVar 1) (tC (V.int 2)))) (tTest (tOp (rI0 fun i j => V.bl (decide (j < i))) (tVar 2) (tC (V.int 1))))) _ _ _ _ _
    refine pu_or (b1 := decide ((many : Int) < 2)) (b2 := decide (1 < l)) (fun Q q => ⟨_, rfl, _, _, rfl, rfl, _, rfl, q⟩) (fun _ Q q => ⟨_, rfl, _, _, rfl, rfl, _, rfl, q⟩) ?_
    cases hb2 : (decide ((many : Int) < 2) || decide (1 < l)) with
    | true =>
      refine iteT ?_
      refine ⟨_, rfl, _, rfl, 1, _, rfl, _, _, rfl, rfl, ⟨by omega, by omega⟩, _, rfl, d, _, rfl, sa.dput (srcK_pleft ..), ?_⟩
      refine ⟨_, rfl, .inl ⟨_, rfl, _, rfl, 1, _, rfl, _, _, rfl, rfl, (by omega), ?_⟩⟩
      have h1 := Int.emod_nonneg l (show ((max 1 many : Nat) : Int) ≠ 0 by omega)
      have h2 := Int.emod_lt_of_pos l (show (0 : Int) < ((max 1 many : Nat) : Int) by omega)
      refine done _ _ _ _ sa.put (g'.dK' sa.hd) (fun b o hbo n1 n2 => by rw [upd_ne n1]; exact hbo) _ (l % ((max 1 many : Nat) : Int)).toNat (by omega) (by omega)
    | false =>
      refine iteF ?_
      simp only [Bool.or_eq_false_iff, decide_eq_false_iff_not] at hb2
      refine ⟨_, rfl, d, _, rfl, sa.dget (srcK_turn ..), _, _, rfl, rfl, _, rfl, d, _, rfl, sa.dput (srcK_pturn ..), ?_⟩
      have s1 := sa.put (l' := l) (m' := m) (t' := t + 1)
      have g1 := g'.dK' sa.hd (kvs := srcK c l m (t + 1))
      refine ⟨_, rfl, d, _, rfl, s1.dget (srcK_mixed ..), _, rfl, d, _, rfl, s1.dget (srcK_turn ..), _, _, rfl, rfl, .inr ⟨by omega, by omega⟩, _, _, rfl, rfl, .inl ⟨_, rfl, _, _, rfl, rfl, (show (0 : Int) < 998244353 by decide), ?_⟩⟩
      have w1 := Int.emod_nonneg (m + (t + 1) * 104729) (show (998244353 : Int) ≠ 0 by decide)
      have w2 := Int.emod_lt_of_pos (m + (t + 1) * 104729) (show (0 : Int) < 998244353 by decide)
      refine ⟨_, rfl, _, rfl, _, _, rfl, rfl, .inl ⟨by omega, by omega⟩, _, rfl, d, _, rfl, s1.dget (srcK_turn ..), _, _, rfl, rfl, .inr ⟨by omega, by omega⟩, _, _, rfl, rfl, .inl ⟨_, rfl, _, _, rfl, rfl, (show (0 : Int) < 2147483647 by decide), ?_⟩⟩
      refine ⟨_, rfl, _, rfl, d, _, rfl, s1.dput (srcK_pmixed ..), ?_⟩
      refine ⟨_, rfl, _, _, rfl, rfl, ⟨by decide, by decide⟩, .inl ⟨_, rfl, _, rfl, _, _, rfl, rfl, (by omega), ?_⟩⟩
      generalize ((m + (t + 1) * 104729) % 998244353 * ((m + (t + 1) * 104729) % 998244353) + (t + 1) * 17) % 2147483647 = M2
      have h1 := Int.emod_nonneg (M2 / 16) (show (many : Int) ≠ 0 by omega)
      have h2 := Int.emod_lt_of_pos (M2 / 16) (show (0 : Int) < (many : Int) by omega)
      refine done _ _ _ _ s1.put (g1.dK' s1.hd) (fun b o hbo n1 n2 => by rw [upd_ne n1, upd_ne n1]; exact hbo) _ (M2 / 16 % (many : Int)).toNat (by omega) (by omega)
end
end KL

namespace KL
open PySem PySem.Spec L2
open PyProof.Rows hiding St
section
variable {P : Program} {w : World} {K : PySem.W.Frag} {mg : Str → Option Value} {base : Heap} {CP CR E : Addr}
def spSource : Sp := fun vs H Q _ => ∃ s, ∃ xs : List Int, vs = [.ref s] ∧ Good H ∧ SqL K H s (xs.map V.int) ∧ xs.length ≤ 1000 ∧ ∀ d c H', Same H H' → Good H' → Src H' d c → H d = none → H c = none → Q (.ref d) H'
theorem int_at {xs : List Int} {i : Nat} {x : V} (h : (xs.map V.int)[i]? = some x) : ∃ z, x = .int z := by
  rw [List.getElem?_map] at h
  cases e : xs[i]? with
  | none =>
    rw [e] at h
    cases h
  | some z =>
    rw [e] at h
    exact ⟨z, (Option.some.inj h).symm⟩
theorem SqL.same {H H' : Hp} {p : Addr} {xs : List V} (s : Same H H') (h : SqL K H p xs) : SqL K H' p xs := by
  rcases h with (h | ⟨o, h⟩) | h
  · exact .inl (.inl (s _ _ h))
  · exact .inl (.inr ⟨o, s _ _ h⟩)
  · exact .inr h
theorem tyes {σ : St} {H : Hp} {F G : Hp → Prop} (h : F H) : tYes σ H fun b H3 => if b = true then F H3 else G H3 := by
  show if true = true then F H else G H
  rw [if_pos rfl]
  exact h
theorem c_l_source (D : DefAt K mg "_law_source" s_l_source) (T : Txt K mg CP CR E) : Cal P w K mg base "_law_source" 1 ["_law_script"] (spSource (K := K)) := by
  refine cal_of D sc_l_source (fun _ _ _ _ _ _ us hl => match us, hl with | [_], _ => rfl) (fun vs H Q E' h => ?_) (fun f cdv A outer s H vs Q E' hr h => ?_)
  · obtain ⟨s, xs, rfl, _⟩ := h
    rfl
  obtain ⟨s, xs, rfl, g, hs, hlen, q⟩ := h
  refine ⟨_, (pss_cons (ps_set (i := 1) sc_l_source.nd rfl (Or.inl rfl) pe_int) (pss_cons (ps_for PassesOwn.never rfl (pi_list (pv 0)) (pg_name (i := 2) sc_l_source.nd rfl (Or.inl rfl)) (pss_one (ps_set (i := 1) sc_l_source.nd rfl (Or.inl rfl) (pe_op op_mod (pe_callTy call_int1 (by rfl) T.int_ (by decide +kernel) (pa_cons (pe_op op_add (pe_op op_add (pe_op op_mul (pv 1) pe_int) (pe_op op_mul (pv 2) pe_int)) pe_int) pa_nil)) pe_int)))) (pss_one (ps_ret (pe_disp (pps_cons pe_str (pe_revL (pe_lc (g := (gName 2)) (own := [("_law_cell", 2)]) rfl sc_l_source.nd (pi_list (pv 0)) (blkOk_by (own := [("_law_cell", 2)]) (N := n_l_source) (sc := L2.defScope s_l_source) (by decide +kernel)) (fun _ _ _ _ _ => (pg_name (i := 2) sc_l_source.nd rfl (Or.inl rfl))) (fun _ _ _ _ _ => pts_nil) (fun _ _ _ _ _ => (pe_callB call_abs (by rfl) T.abs_ (by decide +kernel) (pa_cons (pv 2) pa_nil))))) (pps_cons pe_str pe_int (pps_cons pe_str (pv 1) (pps_cons pe_str pe_int pps_nil)))) (by rfl) (by rfl) (fun z => by cases z) (by decide)))))), ?_⟩
  refine ⟨_, rfl, s, rfl, ⟨_, hs⟩, for_list (K := K) (xs := xs.map V.int) (fun i σ H' => ∃ (m : Int) (x : Option V), σ = [some (.ref s), some (.int m), x] ∧ H' = H) ⟨11, none, rfl, rfl⟩ (fun i σ H' _ h => ?_) ?_ ?_⟩
  · obtain ⟨_, _, _, rfl⟩ := h
    exact hs
  · rintro i x σ H' hx ⟨m, x2, rfl, rfl⟩
    obtain ⟨z, rfl⟩ := int_at hx
    refine ⟨_, rfl, _, _, rfl, rfl, .inr ⟨by omega, by omega⟩, _, rfl, _, _, rfl, rfl, .inr ⟨by omega, by omega⟩, _, _, rfl, rfl, _, _, rfl, rfl, .inl ⟨_, rfl, _, _, rfl, rfl, (show (0 : Int) < 2147483629 by decide), ?_⟩⟩
    exact ⟨_, _, rfl, rfl⟩
  · rintro σ H' ⟨m, x, rfl, rfl⟩
    intro d hd
    have s1 := same_new (o := .dK []) hd
    refine ⟨_, rfl, s, rfl, ⟨_, SqL.same s1 hs⟩, fun L hL => ?_⟩
    refine lc_list (K := K) (xs := xs.map V.int) (fun i H2 => Good H2 ∧ Same (upd H' d (.dK [])) H2 ∧ ∃ ys : List Int, H2 L = some (.lst (ys.map V.int)) ∧ ys.length = i) ⟨(g.dK hd).lst hL, same_new hL, [], upd_same, rfl⟩ (fun i H2 _ h => SqL.same h.2.1 (SqL.same s1 hs)) ?_ ?_
    · rintro i x H2 hx ⟨g2, s2, ys, hL2, hy⟩
      obtain ⟨z, rfl⟩ := int_at hx
      have hi := (List.getElem?_eq_some_iff.mp hx).1
      rw [List.length_map] at hi
      refine ⟨rfl, tyes ?_⟩
      refine ⟨_, rfl, z, rfl, ys.map V.int, hL2, small1000 (by rw [List.length_map]; omega), g2.lst' hL2, Same.upd s2 hL, ys ++ [if z < 0 then -z else z], ?_, by rw [List.length_append]; simp [hy]⟩
      rw [upd_same, List.map_append]
      rfl
    · rintro H2 ⟨g2, s2, ys, hL2, hy⟩
      refine ⟨L, _, rfl, SqL.of hL2, fun c hc => ?_⟩
      have e : (ys.map V.int).reverse = ys.reverse.map V.int := (List.map_reverse ..).symm
      rw [e]
      have hd2 := s2 _ _ (show (upd H' d (.dK [])) d = some (.dK []) from upd_same)
      have s3 := same_new (o := .lst (ys.reverse.map V.int)) hc
      refine ⟨_, rfl, s3 _ _ hd2, srcK c 1 m 0, rfl, by show 4 ≤ 15; decide, ?_⟩
      show Fin H' Q (.ref d) (upd (upd H2 c (.lst (ys.reverse.map V.int))) d (.dK (srcK c 1 m 0)))
      have ss : Same H' (upd (upd H2 c (.lst (ys.reverse.map V.int))) d (.dK (srcK c 1 m 0))) := Same.upd (Same.trans (Same.trans s1 s2) s3) hd
      have dc : d ≠ c := ne_of_none hd2 hc
      have gg := (g2.lst hc (xs := ys.reverse.map V.int)).dK' (s3 _ _ hd2) (kvs := srcK c 1 m 0)
      refine fin1 gg ss (q d c _ ss gg ⟨1, m, 0, ys.reverse, upd_same, ?_⟩ hd (Same.free (Same.trans s1 s2) hc))
      rw [upd_ne (Ne.symm dc), upd_same]
/-! ### combs and halves -/
def spLComb : Sp := fun vs H Q _ => ∃ (l : Bool) (n : Nat), vs = [vi n, .str (lrS l)] ∧ Good H ∧ n ≤ 1000 ∧ ∀ v H', Same H H' → Good H' → ShV H' v (comb l n) → Q v H'
theorem c_l_comb (D : DefAt K mg "_law_comb" s_l_comb) (T : Txt K mg CP CR E) : Cal P w K mg base "_law_comb" 1 ["_law_n", "_law_side"] spLComb := by
  refine cal_of D sc_l_comb (fun _ _ _ _ _ _ us hl => match us, hl with | [_, _], _ => rfl) (fun vs H Q E' h => ?_) (fun f cdv A outer s H vs Q E' hr h => ?_)
  · obtain ⟨l, n, rfl, _⟩ := h
    rfl
  obtain ⟨l, n, rfl, g, hn, q⟩ := h
  refine ⟨_, (pss_cons (ps_set (i := 2) sc_l_comb.nd rfl (Or.inl rfl) (pe_tup pa_nil)) (pss_cons (ps_for PassesOwn.never rfl (pi_range1 (by rfl) T.range_ (pa_cons (pe_op op_sub (pv 0) pe_int) pa_nil)) (pg_name (i := 3) sc_l_comb.nd rfl (Or.inl rfl)) (pss_one (ps_set (i := 2) sc_l_comb.nd rfl (Or.inl rfl) (pe_ifExp (pt_cmpR op_eq (pv 1) pe_str (nomark _)) (pe_tup (pa_cons (pv 2) (pa_cons (pe_tup pa_nil) pa_nil))) (pe_tup (pa_cons (pe_tup pa_nil) (pa_cons (pv 2) pa_nil))))))) (pss_one (ps_ret (pv 2))))), ?_⟩
  refine ⟨by show 0 ≤ sizeLine; decide, fun p0 hp0 => ?_⟩
  refine ⟨_, rfl, _, _, rfl, rfl, _, rfl, by omega, by omega, ?_⟩
  refine for_range (lo := 0) (n := ((n : Int) - 1).toNat) (fun i σ H' => ∃ (v : V) (x : Option V), σ = [some (vi n), some (.str (lrS l)), some v, x] ∧ Good H' ∧ Same H H' ∧ ShV H' v (combF l i)) ⟨_, none, rfl, g.tup hp0, same_new hp0, ⟨p0, rfl, upd_same⟩⟩ ?_ ?_
  · rintro i σ H' hi ⟨v, x, rfl, g', sm, hv⟩
    refine ⟨_, rfl, rfl, _, rfl, ?_⟩
    show if decide (V.str (lrS l) = V.str "left") = true then _ else _
    rw [lr_eq]
    cases l with
    | true =>
      refine iteT ⟨_, rfl, (by show 0 ≤ sizeLine; decide), fun p1 hp1 => ⟨(by show 2 ≤ sizeLine; decide), fun p2 hp2 => ?_⟩⟩
      have s1 := same_new (o := .tup []) hp1
      have s2 := same_new (o := .tup [v, .ref p1]) hp2
      exact ⟨_, _, rfl, (g'.tup hp1).tup hp2, Same.trans (Same.trans sm s1) s2, p2, v, .ref p1, rfl, upd_same, (hv.mono (TM.of s1)).mono (TM.of s2), ⟨p1, rfl, s2 _ _ upd_same⟩⟩
    | false =>
      refine iteF ⟨(by show 0 ≤ sizeLine; decide), fun p1 hp1 => ⟨_, rfl, (by show 2 ≤ sizeLine; decide), fun p2 hp2 => ?_⟩⟩
      have s1 := same_new (o := .tup []) hp1
      have s2 := same_new (o := .tup [.ref p1, v]) hp2
      exact ⟨_, _, rfl, (g'.tup hp1).tup hp2, Same.trans (Same.trans sm s1) s2, p2, .ref p1, v, rfl, upd_same, ⟨p1, rfl, s2 _ _ upd_same⟩, (hv.mono (TM.of s1)).mono (TM.of s2)⟩
  · rintro σ H' ⟨v, x, rfl, g', sm, hv⟩
    have e : ((n : Int) - 1).toNat = n - 1 := by omega
    rw [e] at hv
    exact ⟨_, rfl, fin1 g' sm (q v H' sm g' hv)⟩
def spHalves (k : Nat) : Sp := fun vs H Q _ => ∃ n : Nat, vs = [vi n] ∧ Good H ∧ n < k ∧ 1 ≤ n ∧ ∀ v s H', Same H H' → Good H' → ShV H' v s → s.sz = n → Q v H'
theorem c_l_halves (D : DefAt K mg "_law_halves" s_l_halves) (T : Txt K mg CP CR E) : ∀ k, k < 1000 → Cal P w K mg base "_law_halves" k ["_law_n"] (spHalves k)
  | 0, _ => cal_none D (fun _ _ _ _ _ _ us hl => match us, hl with | [_], _ => rfl) fun vs H Q E' h => by
    obtain ⟨n, _, _, z, _⟩ := h
    exact Nat.not_lt_zero _ z
  | k + 1, hk => by
    have c_l_halves := c_l_halves D T k (by omega)
    refine cal_of D sc_l_halves (fun _ _ _ _ _ _ us hl => match us, hl with | [_], _ => rfl) (fun vs H Q E' h => ?_) (fun f cdv A outer s H vs Q E' hr h => ?_)
    · obtain ⟨n, rfl, _⟩ := h
      rfl
    obtain ⟨n, rfl, g, h1, h2, q⟩ := h
    refine ⟨_, (pss_one (ps_ret (pe_ifExp (pt_cmpR op_ltN (pv 0) pe_int (nomark _)) (pe_tup pa_nil) (pe_tup (pa_cons (pe_cal c_l_halves hr (pa_cons (pe_op op_subN (pv 0) (pe_op op_fdivNN (pv 0) pe_int)) pa_nil) (Nat.le_refl _)) (pa_cons (pe_cal c_l_halves hr (pa_cons (pe_op op_fdivNN (pv 0) pe_int) pa_nil) (Nat.le_refl _)) pa_nil)))))), ?_⟩
    refine ⟨_, rfl, _, 2, rfl, rfl, _, rfl, ?_⟩
    by_cases c : n < 2
    · rw [decide_eq_true c]
      refine iteT ⟨by show 0 ≤ sizeLine; decide, fun p hp => ?_⟩
      exact fin1 (g.tup hp) (same_new hp) (q _ .o _ (same_new hp) (g.tup hp) ⟨p, rfl, upd_same⟩ (by show 1 = n; omega))
    · rw [decide_eq_false c]
      refine iteF ?_
      refine ⟨_, rfl, _, rfl, _, 2, rfl, rfl, ⟨by decide, by decide⟩, _, _, rfl, rfl, by omega, n - n / 2, rfl, g, by omega, by omega, fun v1 s1 H1 sm1 g1 hv1 hs1 => ?_⟩
      refine ⟨_, rfl, _, 2, rfl, rfl, ⟨by decide, by decide⟩, n / 2, rfl, g1, by omega, by omega, fun v2 s2 H2 sm2 g2 hv2 hs2 => ⟨(by show 2 ≤ sizeLine; decide), fun p hp => ?_⟩⟩
      have s3 := same_new (o := .tup [v1, v2]) hp
      have sm := Same.trans (Same.trans sm1 sm2) s3
      exact fin1 (g2.tup hp) sm (q _ (.n s1 s2) _ sm (g2.tup hp) ⟨p, v1, v2, rfl, upd_same, (hv1.mono (TM.of sm2)).mono (TM.of s3), hv2.mono (TM.of s3)⟩ (by show s1.sz + s2.sz = n; omega))
end
end KL

namespace KL
open PySem PySem.Spec L2
open PyProof.Rows hiding St
theorem mem_at {α : Type} {xs : List α} {r : Nat} (h : r < xs.length) : ∃ x, xs[r]? = some x ∧ x ∈ xs := ⟨xs[r], List.getElem?_eq_getElem h, List.getElem_mem h⟩
section
variable {P : Program} {w : World} {K : PySem.W.Frag} {mg : Str → Option Value} {base : Heap} {CP CR E : Addr}
/-! ### one of some -/
def spOf : Sp := fun vs H Q _ => ∃ d c l xs, vs = [.ref d, .ref l] ∧ Good H ∧ Src H d c ∧ H l = some (.lst xs) ∧ l ≠ c ∧ 1 ≤ xs.length ∧ xs.length < 1000000 ∧ ∀ x H', x ∈ xs → Drw d c H H' → Q x H'
theorem c_l_of (D : DefAt K mg "_law_of" s_l_of) (T : Txt K mg CP CR E) (c_l_pick : Cal P w K mg base "_law_pick" 1 ["_law_source_here", "_law_many"] spPick) : Cal P w K mg base "_law_of" 2 ["_law_source_here", "_law_some"] spOf := by
  refine cal_of D sc_l_of (fun _ _ _ _ _ _ us hl => match us, hl with | [_, _], _ => rfl) (fun vs H Q E' h => ?_) (fun f cdv A outer s H vs Q E' hr h => ?_)
  · obtain ⟨d, c, l, xs, rfl, _⟩ := h
    rfl
  obtain ⟨d, c, l, xs, rfl, g, src, hl, nc, h1, h2, q⟩ := h
  refine ⟨_, (pss_one (ps_ret (pe_ix ix_list (pv 1) (pe_cal c_l_pick hr (pa_cons (pv 0) (pa_cons (pe_callB call_len_seq (by rfl) T.len_ PySem.boot_len (pa_cons (pv 1) pa_nil)) pa_nil))) (fun _ _ => rfl)))), ?_⟩
  refine ⟨_, rfl, _, rfl, _, rfl, l, _, rfl, .inl (SqL.of hl), d, c, xs.length, rfl, g, src, h2, fun r H' dr hr' => ?_⟩
  obtain ⟨x, hx, hm⟩ := mem_at (show r < xs.length by omega)
  exact ⟨l, xs, _, x, rfl, rfl, SqL.of (dr.lst src hl nc), atI_nat hx, fin2 dr.g dr.dom (q x H' hm dr)⟩
/-! ### a drawn shape -/
def spLShape (k : Nat) : Sp := fun vs H Q _ => ∃ d c, ∃ n : Nat, vs = [.ref d, vi n] ∧ Good H ∧ Src H d c ∧ n < k ∧ n ≤ 12 ∧ 1 ≤ n ∧ ∀ v s H', Drw d c H H' → ShV H' v s → s.sz = n → Q v H'
theorem c_l_shape (D : DefAt K mg "_law_shape" s_l_shape) (T : Txt K mg CP CR E) (c_l_pick : Cal P w K mg base "_law_pick" 1 ["_law_source_here", "_law_many"] spPick)
    (c_l_comb : Cal P w K mg base "_law_comb" 1 ["_law_n", "_law_side"] spLComb) (c_l_halves : Cal P w K mg base "_law_halves" 13 ["_law_n"] (spHalves 13)) : ∀ k, Cal P w K mg base "_law_shape" (13 + k) ["_law_source_here", "_law_n"] (spLShape k)
  | 0 => (cal_none D (fun _ _ _ _ _ _ us hl => match us, hl with | [_, _], _ => rfl) fun vs H Q E' h => by
    obtain ⟨d, c, n, _, _, _, z, _⟩ := h
    exact Nat.not_lt_zero _ z).mono (Nat.zero_le _)
  | k + 1 => by
    have c_l_shape := c_l_shape D T c_l_pick c_l_comb c_l_halves k
    show Cal P w K mg base "_law_shape" ((13 + k) + 1) _ _
    refine cal_of D sc_l_shape (fun _ _ _ _ _ _ us hl => match us, hl with | [_, _], _ => rfl) (fun vs H Q E' h => ?_) (fun f cdv A outer s H vs Q E' hr h => ?_)
    · obtain ⟨d, c, n, rfl, _⟩ := h
      rfl
    obtain ⟨d, c, n, rfl, g, src, h1, h2, h3, q⟩ := h
    refine ⟨_, (pss_cons (ps_set (i := 2) sc_l_shape.nd rfl (Or.inl rfl) (pe_cal c_l_pick hr (pa_cons (pv 0) (pa_cons pe_int pa_nil)) (by omega))) (pss_cons (ps_if (PW.pt (pw_or (pt_cmpR op_ltN (pv 1) pe_int (nomark _)) (pw_or1 (pt_cmpR op_ltN (pv 2) pe_int (nomark _))))) (pss_one (ps_ret (pe_ix ix_list (pe_lst (pa_cons (pe_cal c_l_comb hr (pa_cons (pv 1) (pa_cons pe_str pa_nil)) (by omega)) (pa_cons (pe_cal c_l_comb hr (pa_cons (pv 1) (pa_cons pe_str pa_nil)) (by omega)) (pa_cons (pe_cal c_l_halves hr (pa_cons (pv 1) pa_nil) (by omega)) pa_nil)))) (pe_ifExp (pt_cmpR op_ltN (pv 2) pe_int (nomark _)) (pv 2) pe_int) (fun _ _ => rfl)))) pss_nil) (pss_cons (ps_set (i := 3) sc_l_shape.nd rfl (Or.inl rfl) (pe_op op_addN pe_int (pe_cal c_l_pick hr (pa_cons (pv 0) (pa_cons (pe_op op_subN (pv 1) pe_int) pa_nil)) (by omega)))) (pss_one (ps_ret (pe_tup (pa_cons (pe_cal c_l_shape hr (pa_cons (pv 0) (pa_cons (pv 3) pa_nil)) (by omega)) (pa_cons (pe_cal c_l_shape hr (pa_cons (pv 0) (pa_cons (pe_op op_subN (pv 1) (pv 3)) pa_nil)) (by omega)) pa_nil)))))))), ?_⟩
    refine ⟨_, rfl, d, c, 6, rfl, g, src, by decide, fun r H1 dr hr1 => ?_⟩
    have hr6 : r < 6 := hr1
    show tIfS (tOr (tTest (tOp (rN2 fun n m => V.bl (decide (n < m))) (tVar 1) (tC (V.int 2)))) (tTest (tOp (rN2 fun n m => V.bl (decide (n < m))) (tVar 2) (tC (V.int 3))))) _ _ _ _ _
    refine pu_or (b1 := decide (n < 2)) (b2 := decide (r < 3)) (fun Q q => ⟨_, rfl, _, 2, rfl, rfl, _, rfl, q⟩) (fun _ Q q => ⟨_, rfl, _, 3, rfl, rfl, _, rfl, q⟩) ?_
    cases hb : (decide (n < 2) || decide (r < 3)) with
    | true =>
      refine iteT ?_
      refine ⟨_, rfl, true, n, rfl, dr.g, by omega, fun v1 H2 sm2 g2 hv1 => ?_⟩
      refine ⟨_, rfl, false, n, rfl, g2, by omega, fun v2 H3 sm3 g3 hv2 => ?_⟩
      refine ⟨_, rfl, n, rfl, g3, by omega, h3, fun v3 s3 H4 sm4 g4 hv3 hs3 => ⟨(by show 3 ≤ sizeLine; decide), fun L hL => ?_⟩⟩
      have sm5 := same_new (o := .lst [v1, v2, v3]) hL
      have sm := Same.trans (Same.trans (Same.trans sm2 sm3) sm4) sm5
      have g5 := g4.lst hL (xs := [v1, v2, v3])
      have dr5 := dr.same g5 sm
      have at3 : ∀ i, i < 3 → ∃ x s, [v1, v2, v3][i]? = some x ∧ ShV (upd H4 L (.lst [v1, v2, v3])) x s ∧ s.sz = n := fun i hi => by
        match i, hi with
        | 0, _ => exact ⟨v1, _, rfl, hv1.mono (TM.of (Same.trans (Same.trans sm3 sm4) sm5)), comb_sz true h3⟩
        | 1, _ => exact ⟨v2, _, rfl, hv2.mono (TM.of (Same.trans sm4 sm5)), comb_sz false h3⟩
        | 2, _ => exact ⟨v3, s3, rfl, hv3.mono (TM.of sm5), hs3⟩
      refine ⟨_, rfl, _, 3, rfl, rfl, _, rfl, ?_⟩
      by_cases c3 : r < 3
      · rw [decide_eq_true c3]
        obtain ⟨x, s', hx, hxs, hz⟩ := at3 r c3
        exact iteT ⟨_, rfl, L, _, _, x, rfl, rfl, SqL.of upd_same, atI_nat hx, fin2 g5 dr5.dom (q x s' _ dr5 hxs hz)⟩
      · rw [decide_eq_false c3]
        obtain ⟨x, s', hx, hxs, hz⟩ := at3 0 (by decide)
        exact iteF ⟨L, _, 0, x, rfl, rfl, SqL.of upd_same, atI_nat (j := 0) hx, fin2 g5 dr5.dom (q x s' _ dr5 hxs hz)⟩
    | false =>
      refine iteF ?_
      simp only [Bool.or_eq_false_iff, decide_eq_false_iff_not] at hb
      refine ⟨_, rfl, _, rfl, _, 1, rfl, rfl, h3, d, c, n - 1, rfl, dr.g, dr.s, by omega, fun r2 H2 dr2 hr2 => ⟨1, r2, rfl, rfl, ?_⟩⟩
      refine ⟨_, rfl, _, rfl, d, c, 1 + r2, rfl, dr2.g, dr2.s, by omega, by omega, by omega, fun v1 s1 H3 dr3 hv1 hs1 => ?_⟩
      refine ⟨_, rfl, _, rfl, _, rfl, _, _, rfl, rfl, by omega, d, c, n - (1 + r2), rfl, dr3.g, dr3.s, by omega, by omega, by omega, fun v2 s2 H4 dr4 hv2 hs2 => ⟨(by show 2 ≤ sizeLine; decide), fun p hp => ?_⟩⟩
      have s5 := same_new (o := .tup [v1, v2]) hp
      have g5 := dr4.g.tup hp (xs := [v1, v2])
      have dr5 := (((dr.trans dr2).trans dr3).trans dr4).same g5 s5
      exact fin2 g5 dr5.dom (q _ (.n s1 s2) _ dr5 ⟨p, v1, v2, rfl, upd_same, (hv1.mono (dr4.tm dr3.s)).mono (TM.of s5), hv2.mono (TM.of s5)⟩ (by show s1.sz + s2.sz = n; omega))
/-! ### a drawn table -/
def spLTab : Sp := fun vs H Q _ => ∃ d c, ∃ n : Nat, vs = [.ref d, vi n] ∧ Good H ∧ Src H d c ∧ 2 ≤ n ∧ n ≤ 12 ∧ ∀ v t H', Drw d c H H' → TbV H' v t → TbB t → bs t = n → Q v H'
theorem c_l_any_table (D : DefAt K mg "_law_any_table" s_l_any_table) (T : Txt K mg CP CR E) (c_l_shape : Cal P w K mg base "_law_shape" 26 ["_law_source_here", "_law_n"] (spLShape 13)) :
    Cal P w K mg base "_law_any_table" 27 ["_law_source_here", "_law_size_here"] spLTab := by
  refine cal_of D sc_l_any_table (fun _ _ _ _ _ _ us hl => match us, hl with | [_, _], _ => rfl) (fun vs H Q E' h => ?_) (fun f cdv A outer s H vs Q E' hr h => ?_)
  · obtain ⟨d, c, n, rfl, _⟩ := h
    rfl
  obtain ⟨d, c, n, rfl, g, src, h1, h2, q⟩ := h
  refine ⟨_, (pss_one (ps_ret (pe_callTy call_tuple_of (by rfl) T.tuple_ (by decide +kernel) (pa_cons (pe_lc (g := (gName 2)) (own := [("_law_m", 2)]) rfl sc_l_any_table.nd (pi_range2 (by rfl) T.range_ (pa_cons pe_int (pa_cons (pe_op op_add (pv 1) pe_int) pa_nil))) (blkOk_by (own := [("_law_m", 2)]) (N := n_l_any_table) (sc := L2.defScope s_l_any_table) (by decide +kernel)) (fun _ _ _ _ _ => (pg_name (i := 2) sc_l_any_table.nd rfl (Or.inl rfl))) (fun _ _ _ _ _ => pts_nil) (fun _ _ _ _ _ => (pe_cal c_l_shape hr (pa_cons (pv 0) (pa_cons (pv 2) pa_nil))))) pa_nil)))), ?_⟩
  refine ⟨_, rfl, _, _, rfl, rfl, _, _, rfl, ⟨by decide, by decide, by omega, by omega⟩, fun L hL => ?_⟩
  have nLc := (src.ne hL).2
  refine lc_range (lo := 2) (n := ((n : Int) + 1 - 2).toNat) (fun i H2 => Drw d c H H2 ∧ ∃ acc ss, H2 L = some (.lst acc) ∧ Paired (ShV H2) acc ss ∧ ss.length = i ∧ ∀ (k : Nat) (h : k < ss.length), (ss[k]).sz = k + 2) ⟨Drw.of src (g.lst hL) (same_new hL), [], [], upd_same, .nil, rfl, fun k h => absurd h (Nat.not_lt_zero _)⟩ ?_ ?_
  · rintro i H2 hi ⟨dr, acc, ss, hL2, hp, hl, hz⟩
    refine ⟨rfl, tyes ?_⟩
    refine ⟨_, rfl, _, rfl, d, c, 2 + i, rfl, dr.g, dr.s, by omega, by omega, by omega, fun v s' H3 dr3 hv hs => ?_⟩
    have hL3 := dr3.lst dr.s hL2 nLc
    have tm := TM.lst hL3 (o := .lst (acc ++ [v]))
    have lk : ∀ b o, H b = some o → (upd H3 L (.lst (acc ++ [v]))) b = H3 b := fun b o e => upd_ne (ne_of_none e hL)
    refine ⟨acc, hL3, small1000 (by rw [hp.length]; omega), ⟨dr3.g.lst' hL3, ?_, ?_⟩, _, ss ++ [s'], upd_same, Paired.app (Paired.imp (fun _ _ z => (ShV.mono (dr3.tm dr.s) z).mono tm) hp) (.cons (hv.mono tm) .nil), by rw [List.length_append]; simp [hl], fun k hk => ?_⟩
    · obtain ⟨l, m, t, xs, e1, e2⟩ := dr3.s
      obtain ⟨l0, m0, t0, xs0, e3, e4⟩ := src
      exact ⟨l, m, t, xs, by rw [lk d _ e3]; exact e1, by rw [lk c _ e4]; exact e2⟩
    · intro b o hb n1 n2
      rw [lk b o hb]
      exact (dr.k.trans dr3.k) b o hb n1 n2
    · rw [List.length_append, List.length_singleton] at hk
      rcases Nat.lt_or_ge k ss.length with y | y
      · rw [List.getElem_append_left y]
        exact hz k y
      · have e : k = ss.length := by omega
        subst e
        rw [List.getElem_append_right (Nat.le_refl _)]
        simp only [Nat.sub_self, List.getElem_cons_zero]
        omega
  · rintro H2 ⟨dr, acc, ss, hL2, hp, hl, hz⟩
    refine ⟨L, acc, rfl, .inl ⟨SqL.of hL2, fun p hp' => ?_⟩⟩
    have s3 := same_new (o := .tup acc) hp'
    have g3 := dr.g.tup hp' (xs := acc)
    have dr3 := dr.same g3 s3
    exact fin2 g3 dr3.dom (q _ ss _ dr3 ⟨p, acc, rfl, upd_same, Paired.imp (fun _ _ z => z.mono (TM.of s3)) hp⟩ ⟨⟨by omega, hz⟩, by omega⟩ (by show ss.length + 1 = n; omega))
end
end KL

namespace KL
open PySem PySem.Spec L2
open PyProof.Rows hiding St
theorem cut_take (xs : List V) (n : Nat) : cutV xs none (some (n : Int)) = xs.take n := by
  unfold cutV
  rw [HT.sIx_none, HT.sIx_nat, List.drop_zero, Nat.sub_zero]
  rcases Nat.le_total n xs.length with h | h
  · rw [Nat.min_eq_left h]
  · rw [Nat.min_eq_right h, List.take_of_length_le (Nat.le_refl _), List.take_of_length_le h]
theorem cut_drop (xs : List V) (n : Nat) : cutV xs (some (n : Int)) none = xs.drop n := by
  unfold cutV
  rw [HT.sIx_none, HT.sIx_nat]
  rcases Nat.le_total n xs.length with h | h
  · rw [Nat.min_eq_left h, List.take_of_length_le (by rw [List.length_drop]; omega)]
  · rw [Nat.min_eq_right h, Nat.sub_self, List.take_zero, List.drop_eq_nil_of_le h]
theorem cut_mid (xs : List V) (k m : Nat) : cutV xs (some (k : Int)) (some ((k + m : Nat) : Int)) = (xs.drop k).take m := by
  unfold cutV
  rw [HT.sIx_nat, HT.sIx_nat]
  rcases Nat.le_total k xs.length with h | h
  · rw [Nat.min_eq_left h]
    rcases Nat.le_total (k + m) xs.length with h2 | h2
    · rw [Nat.min_eq_left h2]
      congr 1
      omega
    · rw [Nat.min_eq_right h2, List.take_of_length_le (by rw [List.length_drop]; omega), List.take_of_length_le (by rw [List.length_drop]; omega)]
  · rw [Nat.min_eq_right h, List.drop_eq_nil_of_le (Nat.le_refl _), List.drop_eq_nil_of_le h, List.take_nil, List.take_nil]
theorem rgc_up {len b : Nat} (h1 : 1 ≤ b) (h2 : b ≤ 1000) (h3 : len ≤ 1000000) : RgC 0 (len : Int) (b : Int) (cd len b) := by
  have e : Builtin.Range.rangeSize 0 (len : Int) (b : Int) = ((cd len b : Nat) : Int) := by
    rw [rangeSize_pos (by omega) (by omega)]
    exact cd_int (by omega)
  refine ⟨by omega, by omega, ?_, e⟩
  have hc : cd len b ≤ len + b := by
    unfold cd
    exact Nat.le_trans (Nat.div_le_self _ _) (Nat.sub_le _ _)
  unfold Builtin.Range.small
  rw [e]
  simp only [Builtin.Range.rangeFitsLong, Bool.and_eq_true, Bool.or_eq_true, decide_eq_true_eq, beq_iff_eq]
  rw [if_pos (show (b : Int) > 0 by omega)]
  simp only [Bool.and_eq_true, decide_eq_true_eq]
  omega
end KL

namespace KL
open PySem PySem.Spec L2
open PyProof.Rows hiding St
theorem flat_rep {α : Type} (x : α) : ∀ n : Nat, (List.replicate n [x]).flatten = List.replicate n x
  | 0 => rfl
  | n + 1 => by
    rw [List.replicate_succ, List.replicate_succ, List.flatten_cons, flat_rep x n]
    rfl
theorem rep_paired {α β : Type} {F : α → β → Prop} {x : α} {y : β} (h : F x y) : ∀ n : Nat, Paired F (List.replicate n x) (List.replicate n y)
  | 0 => .nil
  | n + 1 => .cons h (rep_paired h n)
/-! ### a world -/
def wdK (tv ev pv : V) : List (Key × V) := [(.inr "tables", tv), (.inr "end", ev), (.inr "plan", pv)]
theorem wdK_t (tv ev pv : V) : valV (wdK tv ev pv) (.inr "tables") = some tv := by rfl
theorem wdK_e (tv ev pv : V) : valV (wdK tv ev pv) (.inr "end") = some ev := by rfl
theorem wdK_p (tv ev pv : V) : valV (wdK tv ev pv) (.inr "plan") = some pv := by rfl
structure WdAt (CP : Addr) (H : Hp) (wd : Addr) (tv ev pv : V) (R : Pl) : Prop where
  h : H wd = some (.dK (wdK tv ev pv))
  t : TsV H tv R.tabs
  e : EnV H ev R.en
  p : PlV CP H pv R
def WdV (CP : Addr) (H : Hp) (v : V) (R : Pl) : Prop := ∃ wd tv ev pv, v = .ref wd ∧ WdAt CP H wd tv ev pv R
theorem WdAt.mono {CP : Addr} {H H' : Hp} {wd : Addr} {tv ev pv : V} {R : Pl} (s : Same H H') (h : WdAt CP H wd tv ev pv R) : WdAt CP H' wd tv ev pv R := ⟨s _ _ h.h, h.t.mono (TM.of s), h.e.mono (TM.of s), h.p.mono s⟩
theorem WdAt.dget {CP : Addr} {H : Hp} {wd : Addr} {tv ev pv : V} {R : Pl} (s : WdAt CP H wd tv ev pv R) {k : Str} {v : V} (h : valV (wdK tv ev pv) (.inr k) = some v) : DGet H wd (.str k) (some v) := by
  rw [← h]
  exact DGet.k (k := .inr k) s.h
section
variable {P : Program} {w : World} {K : PySem.W.Frag} {mg : Str → Option Value} {base : Heap} {CP CR E : Addr}
def spMade (CP : Addr) : Sp := fun vs H Q _ => ∃ l tvs ev R, vs = [.ref l, ev] ∧ Good H ∧ H l = some (.lst tvs) ∧ Paired (TbV H) tvs (Pl.tabs R) ∧ EnV H ev (Pl.en R) ∧ PlB R ∧ ∀ v H', Same H H' → Good H' → WdV CP H' v R → Q v H'
theorem c_l_made (D : DefAt K mg "_law_made" s_l_made) (T : Txt K mg CP CR E) (i_Plan : ICal P w K mg base CP "Plan" 16 ["self", "tables", "end"] (spPI CP)) : Cal P w K mg base "_law_made" 18 ["_law_tables", "_law_end"] (spMade CP) := by
  refine cal_of D sc_l_made (fun _ _ _ _ _ _ us hl => match us, hl with | [_, _], _ => rfl) (fun vs H Q E' h => ?_) (fun f cdv A outer s H vs Q E' hr h => ?_)
  · obtain ⟨l, tvs, ev, R, rfl, _⟩ := h
    rfl
  obtain ⟨l, tvs, ev, R, rfl, g, hl, hp, he, pb, q⟩ := h
  refine ⟨_, (pss_one (ps_ret (pe_disp (pps_cons pe_str (pe_callTy call_tuple_of (by rfl) T.tuple_ (by decide +kernel) (pa_cons (pv 0) pa_nil)) (pps_cons pe_str (pv 1) (pps_cons pe_str (pe_ical i_Plan hr (pa_cons (pe_callTy call_tuple_of (by rfl) T.tuple_ (by decide +kernel) (pa_cons (pv 0) pa_nil)) (pa_cons (pv 1) pa_nil))) pps_nil))) (by rfl) (by rfl) (fun z => by cases z) (by decide)))), ?_⟩
  intro wd hwd
  have s1 := same_new (o := .dK []) hwd
  refine ⟨_, rfl, l, tvs, rfl, .inl ⟨SqL.of (s1 _ _ hl), fun t1 ht1 => ?_⟩⟩
  have s2 := same_new (o := .tup tvs) ht1
  have s12 := Same.trans s1 s2
  refine ⟨_, rfl, _, rfl, l, tvs, rfl, .inl ⟨SqL.of (s12 _ _ hl), fun t2 ht2 => ?_⟩⟩
  have s3 := same_new (o := .tup tvs) ht2
  have s13 := Same.trans s12 s3
  have g3 : Good _ := ((g.dK hwd (kvs := [])).tup ht1 (xs := tvs)).tup ht2 (xs := tvs)
  have tv1 : TsV (upd (upd (upd H wd (.dK [])) t1 (.tup tvs)) t2 (.tup tvs)) (.ref t1) R.tabs := ⟨t1, tvs, rfl, s3 _ _ upd_same, Paired.imp (fun _ _ z => z.mono (TM.of s13)) hp⟩
  have tv2 : TsV (upd (upd (upd H wd (.dK [])) t1 (.tup tvs)) t2 (.tup tvs)) (.ref t2) R.tabs := ⟨t2, tvs, rfl, upd_same, Paired.imp (fun _ _ z => z.mono (TM.of s13)) hp⟩
  have ev3 := he.mono (TM.of s13)
  refine ⟨_, rfl, fun x dx hx hdx hne => ⟨x, dx, .ref t2, ev, R, rfl, g3.made hx hdx hne, upd_same, ?_, ?_, pb, rfl, ?_⟩⟩
  · exact tv2.mono (TM.of (Same.upd (same_new hdx) hx))
  · exact ev3.mono (TM.of (Same.upd (same_new hdx) hx))
  · rw [upd_self]
    have s4 : Same (upd (upd (upd H wd (.dK [])) t1 (.tup tvs)) t2 (.tup tvs)) (upd (upd (upd (upd (upd H wd (.dK [])) t1 (.tup tvs)) t2 (.tup tvs)) dx (.own x)) x (.ins CP dx (plF (.ref t2) ev))) := Same.upd (same_new hdx) hx
    have hwd4 := s4 _ _ (s3 _ _ (s2 _ _ (show (upd H wd (.dK [])) wd = some (.dK []) from upd_same)))
    have g4 : Good (upd (upd (upd (upd (upd H wd (.dK [])) t1 (.tup tvs)) t2 (.tup tvs)) dx (.own x)) x (.ins CP dx (plF (.ref t2) ev))) := by
      have := (g3.made hx hdx hne (C := CP)).ins' (fs := plF (.ref t2) ev) upd_same
      rw [upd_self] at this
      exact this
    refine ⟨hwd4, wdK (.ref t1) ev (.ref x), rfl, by show 3 ≤ 15; decide, ?_⟩
    have tm5 := TM.dK hwd4 (o := .dK (wdK (.ref t1) ev (.ref x)))
    have ss := Same.upd (o := .dK (wdK (.ref t1) ev (.ref x))) (Same.trans s13 s4) hwd
    have g5 := g4.dK' hwd4 (kvs := wdK (.ref t1) ev (.ref x))
    have xw : x ≠ wd := fun e => by
      rw [e] at hx
      rw [s3 _ _ (s2 _ _ (show (upd H wd (.dK [])) wd = some (.dK []) from upd_same))] at hx
      cases hx
    refine fin1 g5 ss (q _ _ ss g5 ⟨wd, .ref t1, ev, .ref x, rfl, upd_same, (tv1.mono (TM.of s4)).mono tm5, (ev3.mono (TM.of s4)).mono tm5, x, .ref t2, ev, rfl, ⟨dx, ?_⟩, (tv2.mono (TM.of s4)).mono tm5, (ev3.mono (TM.of s4)).mono tm5⟩)
    rw [upd_ne xw, upd_same]
/-! ### sizes, filled shapes, entries -/
def spLSize (k : Nat) : Sp := fun vs H Q _ => ∃ v s, vs = [v] ∧ Good H ∧ ShV H v s ∧ s.dp < k ∧ s.dp ≤ 60 ∧ Q (vi s.sz) H
theorem c_l_size (D : DefAt K mg "_law_size" s_l_size) (T : Txt K mg CP CR E) : ∀ k, Cal P w K mg base "_law_size" k ["_law_form"] (spLSize k)
  | 0 => cal_none D (fun _ _ _ _ _ _ us hl => match us, hl with | [_], _ => rfl) fun vs H Q E' h => by
    obtain ⟨v, s, _, _, _, z, _⟩ := h
    exact Nat.not_lt_zero _ z
  | k + 1 => by
    have c_l_size := c_l_size D T k
    refine cal_of D sc_l_size (fun _ _ _ _ _ _ us hl => match us, hl with | [_], _ => rfl) (fun vs H Q E' h => ?_) (fun f cdv A outer s H vs Q E' hr h => ?_)
    · obtain ⟨v, s, rfl, _⟩ := h
      rfl
    obtain ⟨v, sh, rfl, g, hv, hk, hd, q⟩ := h
    have hu : (A.deeper (envOfC "_law_size" (L2.defScope s_l_size) s.heap.objs.size f cdv)).units + 64 < cLine := by
      have := hr.un
      omega
    refine ⟨_, (pss_one (ps_ret (pe_ifExp (pt_isO hu (pv 0)) pe_int (pe_op op_addN (pe_cal c_l_size hr (pa_cons (pe_ix ix_tup (pv 0) pe_int (fun _ _ => rfl)) pa_nil) (by omega)) (pe_cal c_l_size hr (pa_cons (pe_ix ix_tup (pv 0) pe_int (fun _ _ => rfl)) pa_nil) (by omega)))))), ?_⟩
    refine ⟨_, rfl, g, sh, hv, hd, ?_⟩
    cases sh with
    | o => exact iteT (fin0 g (Same.refl H) q)
    | n l r =>
      obtain ⟨a, x, y, rfl, ha, hx, hy⟩ := id hv
      have e1 : Sh.dp (.n l r) = max l.dp r.dp + 1 := rfl
      refine iteF ⟨_, rfl, a, _, 0, x, rfl, rfl, SqT.of ha, rfl, x, l, rfl, g, hx, by omega, by omega, _, rfl, a, _, 1, y, rfl, rfl, SqT.of ha, rfl, y, r, rfl, g, hy, by omega, by omega, _, _, rfl, rfl, fin0 g (Same.refl H) q⟩
def spFill (k : Nat) : Sp := fun vs H Q _ => ∃ v s l xs ss, vs = [v, .ref l] ∧ Good H ∧ ShV H v s ∧ s.dp < k ∧ s.dp ≤ 60 ∧ H l = some (.lst xs) ∧ Paired (ShV H) xs ss ∧ ss.length = s.sz ∧ ∀ v' H', Same H H' → Good H' → ShV H' v' (Sh.fill s ss) → Q v' H'
theorem c_l_filled (D : DefAt K mg "_law_filled" s_l_filled) (T : Txt K mg CP CR E) (c_l_size : Cal P w K mg base "_law_size" 61 ["_law_form"] (spLSize 61)) : ∀ k, Cal P w K mg base "_law_filled" (61 + k) ["_law_form", "_law_lumps_here"] (spFill k)
  | 0 => (cal_none D (fun _ _ _ _ _ _ us hl => match us, hl with | [_, _], _ => rfl) fun vs H Q E' h => by
    obtain ⟨v, s, l, xs, ss, _, _, _, z, _⟩ := h
    exact Nat.not_lt_zero _ z).mono (Nat.zero_le _)
  | k + 1 => by
    have c_l_filled := c_l_filled D T c_l_size k
    show Cal P w K mg base "_law_filled" ((61 + k) + 1) _ _
    refine cal_of D sc_l_filled (fun _ _ _ _ _ _ us hl => match us, hl with | [_, _], _ => rfl) (fun vs H Q E' h => ?_) (fun f cdv A outer s H vs Q E' hr h => ?_)
    · obtain ⟨v, s, l, xs, ss, rfl, _⟩ := h
      rfl
    obtain ⟨v, sh, l, xs, ss, rfl, g, hv, hk, hd, hl, hp, hlen, q⟩ := h
    have hu : (A.deeper (envOfC "_law_filled" (L2.defScope s_l_filled) s.heap.objs.size f cdv)).units + 64 < cLine := by
      have := hr.un
      omega
    refine ⟨_, (pss_cons (ps_if (pt_isO hu (pv 0)) (pss_one (ps_ret (pe_ix ix_list (pv 1) pe_int (fun _ _ => rfl)))) pss_nil) (pss_cons (ps_set (i := 2) sc_l_filled.nd rfl (Or.inl rfl) (pe_cal c_l_size hr (pa_cons (pe_ix ix_tup (pv 0) pe_int (fun _ _ => rfl)) pa_nil) (by omega))) (pss_one (ps_ret (pe_tup (pa_cons (pe_cal c_l_filled hr (pa_cons (pe_ix ix_tup (pv 0) pe_int (fun _ _ => rfl)) (pa_cons (pe_slice sl_list (pv 1) po_none (po_some (pv 2))) pa_nil)) (by omega)) (pa_cons (pe_cal c_l_filled hr (pa_cons (pe_ix ix_tup (pv 0) pe_int (fun _ _ => rfl)) (pa_cons (pe_slice sl_list (pv 1) (po_some (pv 2)) po_none) pa_nil)) (by omega)) pa_nil))))))), ?_⟩
    refine ⟨_, rfl, g, sh, hv, hd, ?_⟩
    cases sh with
    | o =>
      match ss, hlen with
      | [s0], _ =>
        cases hp with
        | cons h0 hp =>
          cases hp
          exact iteT ⟨_, rfl, l, _, 0, _, rfl, rfl, SqL.of hl, rfl, fin0 g (Same.refl H) (q _ H (Same.refl H) g h0)⟩
    | n lt r =>
      obtain ⟨a, x, y, rfl, ha, hx, hy⟩ := id hv
      have e1 : Sh.dp (.n lt r) = max lt.dp r.dp + 1 := rfl
      have e2 : Sh.sz (.n lt r) = lt.sz + r.sz := rfl
      refine iteF ?_
      refine ⟨_, rfl, a, _, 0, x, rfl, rfl, SqT.of ha, rfl, x, lt, rfl, g, hx, by omega, by omega, ?_⟩
      refine ⟨_, rfl, a, _, 0, x, rfl, rfl, SqT.of ha, rfl, _, rfl, _, rfl, _, rfl, l, xs, rfl, SqL.of hl, fun p1 hp1 => ?_⟩
      rw [cut_take] 
      have s1 := same_new (o := .lst (xs.take lt.sz)) hp1
      refine ⟨x, lt, p1, xs.take lt.sz, ss.take lt.sz, rfl, g.lst hp1, hx.mono (TM.of s1), by omega, by omega, upd_same, Paired.imp (fun _ _ z => z.mono (TM.of s1)) (Paired.take' _ hp), by rw [List.length_take]; omega, fun v1 H2 s2 g2 hv1 => ?_⟩
      have s12 := Same.trans s1 s2
      refine ⟨_, rfl, a, _, 1, y, rfl, rfl, SqT.of (s12 _ _ ha), rfl, _, rfl, _, rfl, _, rfl, l, xs, rfl, SqL.of (s12 _ _ hl), fun p3 hp3 => ?_⟩
      rw [cut_drop]
      have s3 := same_new (o := .lst (xs.drop lt.sz)) hp3
      have s13 := Same.trans s12 s3
      refine ⟨y, r, p3, xs.drop lt.sz, ss.drop lt.sz, rfl, g2.lst hp3, hy.mono (TM.of s13), by omega, by omega, upd_same, Paired.imp (fun _ _ z => z.mono (TM.of s13)) (Paired.drop' _ hp), by rw [List.length_drop]; omega, fun v2 H4 s4 g4 hv2 => ⟨(by show 2 ≤ sizeLine; decide), fun p hp5 => ?_⟩⟩
      have s5 := same_new (o := .tup [v1, v2]) hp5
      have ss' := Same.trans (Same.trans s13 s4) s5
      exact fin1 (g4.tup hp5) ss' (q _ _ ss' (g4.tup hp5) ⟨p, v1, v2, rfl, upd_same, (hv1.mono (TM.of (Same.trans s3 s4))).mono (TM.of s5), hv2.mono (TM.of s5)⟩)
theorem c_l_entry (D : DefAt K mg "_law_entry" s_l_entry) (T : Txt K mg CP CR E) : Cal P w K mg base "_law_entry" 1 ["_law_table_here", "_law_m"] spEntry := by
  refine cal_of D sc_l_entry (fun _ _ _ _ _ _ us hl => match us, hl with | [_, _], _ => rfl) (fun vs H Q E' h => ?_) (fun f cdv A outer s H vs Q E' hr h => ?_)
  · obtain ⟨v, t, m, rfl, _⟩ := h
    rfl
  obtain ⟨v, t, m, rfl, g, ⟨a, xs, rfl, ha, hp⟩, h1, h2, q⟩ := h
  refine ⟨_, (pss_one (ps_ret (pe_ifExp (pt_cmpR op_eq (pv 1) pe_int (nomark _)) (pe_tup pa_nil) (pe_ix ix_tup (pv 0) (pe_op op_sub (pv 1) pe_int) (fun _ _ => rfl))))), ?_⟩
  refine ⟨_, rfl, rfl, _, rfl, ?_⟩
  by_cases e : m = 1
  · subst e
    refine iteT ?_
    refine ⟨by show 0 ≤ sizeLine; decide, fun p hp' => ?_⟩
    exact fin1 (g.tup hp') (same_new hp') (q _ _ (same_new hp') (g.tup hp') ⟨p, rfl, upd_same⟩)
  · have e2 : decide (V.int (m : Int) = V.int 1) = false := decide_eq_false (fun z => e (by injection z with z; omega))
    show if decide (V.int (m : Int) = V.int 1) = true then _ else _
    rw [e2]
    refine iteF ?_
    have h3 : bs t = t.length + 1 := rfl
    have h4 : m - 2 < t.length := by omega
    obtain ⟨x, hx, hxs⟩ := Paired.atr hp (ent_at e h4)
    refine ⟨_, rfl, _, rfl, _, _, rfl, rfl, ?_⟩
    refine ⟨a, xs, (m : Int) - 2, x, rfl, rfl, SqT.of ha, at_of (j := m - 2) (by omega) hx, ?_⟩
    exact fin0 g (Same.refl H) (q _ _ (Same.refl H) g hxs)
end
end KL

namespace KL
open PySem PySem.Spec L2
open PyProof.Rows hiding St
/-- the s-th stretch pressed -/
def prsAt (t : Tb) (row : List Sh) (s : Nat) : Sh := Sh.fill (ent t ((row.drop (s * bs t)).take (bs t)).length) ((row.drop (s * bs t)).take (bs t))
theorem prs_map (t : Tb) (row : List Sh) : prs t row = (List.range (cd row.length (bs t))).map (prsAt t row) := rfl
section
variable {P : Program} {w : World} {K : PySem.W.Frag} {mg : Str → Option Value} {base : Heap} {CP CR E : Addr}
def spPressed : Sp := fun vs H Q _ => ∃ v t l xs ss, vs = [v, .ref l] ∧ Good H ∧ TbV H v t ∧ TbB t ∧ H l = some (.lst xs) ∧ Paired (ShV H) xs ss ∧ ss.length ≤ 1000 ∧
  ∀ p ys H', Same H H' → Good H' → H p = none → H' p = some (.lst ys) → Paired (ShV H') ys (prs t ss) → Q (.ref p) H'
theorem c_l_pressed (D : DefAt K mg "_law_pressed" s_l_pressed) (T : Txt K mg CP CR E) (c_l_filled : Cal P w K mg base "_law_filled" 122 ["_law_form", "_law_lumps_here"] (spFill 61))
    (c_l_entry : Cal P w K mg base "_law_entry" 1 ["_law_table_here", "_law_m"] spEntry) : Cal P w K mg base "_law_pressed" 123 ["_law_table_here", "_law_row"] spPressed := by
  refine cal_of D sc_l_pressed (fun _ _ _ _ _ _ us hl => match us, hl with | [_, _], _ => rfl) (fun vs H Q E' h => ?_) (fun f cdv A outer s H vs Q E' hr h => ?_)
  · obtain ⟨v, t, l, xs, ss, rfl, _⟩ := h
    rfl
  obtain ⟨v, t, l, xs, ss, rfl, g, tv, tb, hl, hp, hlen, q⟩ := h
  have two := tb.ok.two
  have b3 : bs t = t.length + 1 := rfl
  have b4 := tb.le
  have hxs := hp.length
  obtain ⟨a, txs, rfl, ha, hta⟩ := id tv
  have hta2 := hta.length
  refine ⟨_, (pss_cons (ps_par (i := 2) (j := 3) (by rfl) sc_l_pressed.nd rfl rfl (by decide) rfl rfl (pa_cons (pe_op op_addN (pe_callB call_len_seq (by rfl) T.len_ PySem.boot_len (pa_cons (pv 0) pa_nil)) pe_int) (pa_cons (pe_lst pa_nil) pa_nil)) (by rfl)) (pss_cons (ps_for PassesOwn.never rfl (pi_range3 (by rfl) T.range_ (pa_cons pe_int (pa_cons (pe_callB call_len_seq (by rfl) T.len_ PySem.boot_len (pa_cons (pv 1) pa_nil)) (pa_cons (pv 2) pa_nil)))) (pg_name (i := 4) sc_l_pressed.nd rfl (Or.inl rfl)) (pss_one (ps_expr (pe_bm PySem.F.plainAttrs_list PySem.F.slot_list_append PySem.F.type_list_append mt_append (pv 3) (pa_cons (pe_cal c_l_filled hr (pa_cons (pe_cal c_l_entry hr (pa_cons (pv 0) (pa_cons (pe_callB call_len_seq (by rfl) T.len_ PySem.boot_len (pa_cons (pe_slice sl_list (pv 1) (po_some (pv 4)) (po_some (pe_op op_addN (pv 4) (pv 2)))) pa_nil)) pa_nil))) (pa_cons (pe_slice sl_list (pv 1) (po_some (pv 4)) (po_some (pe_op op_addN (pv 4) (pv 2)))) pa_nil))) pa_nil))))) (pss_one (ps_ret (pv 3))))), ?_⟩
  refine ⟨_, rfl, a, _, rfl, .inr (SqT.of ha), _, 1, rfl, rfl, (by show 0 ≤ sizeLine; decide), fun F hF => ⟨_, _, rfl, ?_⟩⟩
  have sF := same_new (o := .lst []) hF
  have eb : V.int ((txs.length + 1 : Nat) : Int) = vi (bs t) := by rw [hta2, b3]; rfl
  rw [eb]
  refine ⟨_, rfl, l, _, rfl, .inl (SqL.of (sF _ _ hl)), _, rfl, 0, _, _, cd ss.length (bs t), rfl, by rw [hxs]; exact rgc_up (by omega) (by omega) (by omega), ?_⟩
  refine for_rangeC (lo := 0) (c := (bs t : Nat)) (n := cd ss.length (bs t)) (fun i σ H' => ∃ (acc : List V) (x4 : Option V), σ = [some (.ref a), some (.ref l), some (vi (bs t)), some (.ref F), x4] ∧ Good H' ∧ Same H H' ∧ H' F = some (.lst acc) ∧ Paired (ShV H') acc ((List.range i).map (prsAt t ss)))
    ⟨[], none, rfl, g.lst hF, sF, upd_same, .nil⟩ ?_ ?_
  · rintro i σ H' hi ⟨acc, x4, rfl, g', sm, hFa, hpa⟩
    have ek : (0 : Int) + (i : Int) * ((bs t : Nat) : Int) = ((i * bs t : Nat) : Int) := by
      rw [Int.zero_add, Int.natCast_mul]
    rw [ek]
    have hlo := cd_lo ss.length (bs t) i two hi
    have elen : ((xs.drop (i * bs t)).take (bs t)).length = ((ss.drop (i * bs t)).take (bs t)).length := by
      rw [List.length_take, List.length_take, List.length_drop, List.length_drop, hxs]
    have hm1 : 1 ≤ ((ss.drop (i * bs t)).take (bs t)).length := by
      rw [List.length_take, List.length_drop]
      omega
    have hm2 : ((ss.drop (i * bs t)).take (bs t)).length ≤ bs t := by
      rw [List.length_take]
      omega
    have hacc := hpa.length
    rw [List.length_map, List.length_range] at hacc
    have hcd : cd ss.length (bs t) ≤ ss.length := by
      rcases Nat.lt_or_ge ss.length 2 with z | z
      · have : ss.length = 1 := by omega
        rw [this]
        unfold cd
        have e : 1 + bs t - 1 = bs t := by omega
        rw [e, Nat.div_self (by omega)]
        exact Nat.le_refl _
      · exact Nat.le_of_lt (cd_lt _ _ two z)
    refine ⟨_, rfl, .inl ⟨rfl, _, SqL.of hFa⟩, ?_⟩
    refine ⟨_, rfl, _, rfl, _, rfl, _, rfl, _, rfl, _, rfl, _, _, rfl, rfl, _, rfl, l, xs, rfl, SqL.of (sm _ _ hl), fun p1 hp1 => ?_⟩
    rw [cut_mid]
    have s1 := same_new (o := .lst ((xs.drop (i * bs t)).take (bs t))) hp1
    have sm1 := Same.trans sm s1
    refine ⟨p1, _, rfl, .inl (SqL.of upd_same), .ref a, t, ((ss.drop (i * bs t)).take (bs t)).length, by rw [elen], g'.lst hp1, tv.mono (TM.of sm1), hm1, hm2, fun e H2 s2 g2 he => ?_⟩
    have sm2 := Same.trans sm1 s2
    refine ⟨_, rfl, _, rfl, _, rfl, _, rfl, _, rfl, _, _, rfl, rfl, _, rfl, l, xs, rfl, SqL.of (sm2 _ _ hl), fun p3 hp3 => ?_⟩
    rw [cut_mid]
    have s3 := same_new (o := .lst ((xs.drop (i * bs t)).take (bs t))) hp3
    have sm3 := Same.trans sm2 s3
    have eB := tb.entB hm1 hm2
    refine ⟨e, _, p3, _, (ss.drop (i * bs t)).take (bs t), rfl, g2.lst hp3, he.mono (TM.of s3), by omega, by omega, upd_same, Paired.imp (fun _ _ z => z.mono (TM.of sm3)) (Paired.take' _ (Paired.drop' _ hp)), (ent_sz tb.ok hm1 hm2).symm, fun v4 H4 s4 g4 hv4 => ?_⟩
    have s14 := Same.trans (Same.trans (Same.trans s1 s2) s3) s4
    have hF4 := s14 _ _ hFa
    refine ⟨F, acc, _, rfl, rfl, hF4, small1000 (by omega), ?_⟩
    have tm := TM.lst hF4 (o := .lst (acc ++ [v4]))
    refine ⟨acc ++ [v4], _, rfl, g4.lst' hF4, Same.upd (Same.trans sm s14) hF, upd_same, ?_⟩
    rw [List.range_succ, List.map_append]
    exact Paired.app (Paired.imp (fun _ _ z => (ShV.mono (TM.of s14) z).mono tm) hpa) (.cons (hv4.mono tm) .nil)
  · rintro σ H' ⟨acc, x4, rfl, g', sm, hFa, hpa⟩
    exact ⟨_, rfl, fin1 g' sm (q F acc H' sm g' hF hFa hpa)⟩
/-! ### two tables glued -/
theorem prs_o {t : Tb} (tb : TbB t) (m : Nat) : prs t (List.replicate m .o) = ents t m := by
  unfold prs ents
  rw [List.length_replicate]
  refine List.map_congr_left fun s hs => ?_
  have hs' : s < cd m (bs t) := List.mem_range.mp hs
  have hlo := cd_lo m (bs t) s tb.ok.two hs'
  have two := tb.ok.two
  rw [List.drop_replicate, List.take_replicate, List.length_replicate]
  have h := fill_o (ent t (min (bs t) (m - s * bs t)))
  rw [ent_sz tb.ok (by omega) (Nat.min_le_left _ _)] at h
  exact h
theorem glue_sz {t u : Tb} (tb : TbB t) (ub : TbB u) {m : Nat} (h1 : 1 ≤ m) (h2 : m ≤ bs t * bs u) : 1 ≤ (ents t m).length ∧ (ents t m).length ≤ bs u ∧ (Sh.fill (ent u (ents t m).length) (ents t m)).sz = m := by
  have c1 := cd_pos m (bs t) tb.ok.two h1
  have c2 : cd m (bs t) ≤ bs u := by
    rcases Nat.lt_or_ge (bs u) (cd m (bs t)) with z | z
    · have := cd_lo m (bs t) (bs u) tb.ok.two z
      rw [Nat.mul_comm] at this
      omega
    · exact z
  rw [ents_len]
  refine ⟨c1, c2, ?_⟩
  rw [fill_sz _ _ (by rw [ents_len, ent_sz ub.ok c1 c2]), off_ents_all tb.ok]
def spGlue : Sp := fun vs H Q _ => ∃ v1 v2 t u, vs = [v1, v2] ∧ Good H ∧ TbV H v1 t ∧ TbV H v2 u ∧ TbB t ∧ TbB u ∧ bs t ≤ 3 ∧ bs u ≤ 3 ∧ ∀ v x H', Same H H' → Good H' → TbV H' v x → TbB x → Q v H'
theorem c_l_glue (D : DefAt K mg "_law_glue" s_l_glue) (T : Txt K mg CP CR E) (c_l_pressed : Cal P w K mg base "_law_pressed" 123 ["_law_table_here", "_law_row"] spPressed) (c_l_filled : Cal P w K mg base "_law_filled" 122 ["_law_form", "_law_lumps_here"] (spFill 61))
    (c_l_entry : Cal P w K mg base "_law_entry" 1 ["_law_table_here", "_law_m"] spEntry) : Cal P w K mg base "_law_glue" 124 ["_law_one", "_law_other"] spGlue := by
  refine cal_of D sc_l_glue (fun _ _ _ _ _ _ us hl => match us, hl with | [_, _], _ => rfl) (fun vs H Q E' h => ?_) (fun f cdv A outer s H vs Q E' hr h => ?_)
  · obtain ⟨v1, v2, t, u, rfl, _⟩ := h
    rfl
  obtain ⟨v1, v2, t, u, rfl, g, tv, uv, tb, ub, ht3, hu3, q⟩ := h
  obtain ⟨a, xa, rfl, ha, hpa⟩ := id tv
  obtain ⟨b, xb, rfl, hb, hpb⟩ := id uv
  have la := hpa.length
  have lb := hpb.length
  have t2 := tb.ok.two
  have u2 := ub.ok.two
  have hprod : bs t * bs u ≤ 9 := Nat.mul_le_mul ht3 hu3
  have hprod2 : 4 ≤ bs t * bs u := Nat.mul_le_mul t2 u2
  refine ⟨_, (pss_cons (ps_par (i := 2) (j := 3) (by rfl) sc_l_glue.nd rfl rfl (by decide) rfl rfl (pa_cons (pe_lst pa_nil) (pa_cons (pe_op op_mulNs (pe_op op_addN (pe_callB call_len_seq (by rfl) T.len_ PySem.boot_len (pa_cons (pv 0) pa_nil)) pe_int) (pe_op op_addN (pe_callB call_len_seq (by rfl) T.len_ PySem.boot_len (pa_cons (pv 1) pa_nil)) pe_int)) pa_nil)) (by rfl)) (pss_cons (ps_for PassesOwn.never rfl (pi_range2 (by rfl) T.range_ (pa_cons pe_int (pa_cons (pe_op op_addN (pv 3) pe_int) pa_nil))) (pg_name (i := 4) sc_l_glue.nd rfl (Or.inl rfl)) (pss_cons (ps_set (i := 5) sc_l_glue.nd rfl (Or.inl rfl) (pe_cal c_l_pressed hr (pa_cons (pv 0) (pa_cons (pe_op op_rep (pe_lst (pa_cons (pe_tup pa_nil) pa_nil)) (pv 4)) pa_nil)))) (pss_one (ps_expr (pe_bm PySem.F.plainAttrs_list PySem.F.slot_list_append PySem.F.type_list_append mt_append (pv 2) (pa_cons (pe_cal c_l_filled hr (pa_cons (pe_cal c_l_entry hr (pa_cons (pv 1) (pa_cons (pe_callB call_len_seq (by rfl) T.len_ PySem.boot_len (pa_cons (pv 5) pa_nil)) pa_nil))) (pa_cons (pv 5) pa_nil))) pa_nil)))))) (pss_one (ps_ret (pe_callTy call_tuple_of (by rfl) T.tuple_ (by decide +kernel) (pa_cons (pv 2) pa_nil)))))), ?_⟩
  refine ⟨(by show 0 ≤ sizeLine; decide), fun F hF => ?_⟩
  have sF := same_new (o := .lst []) hF
  refine ⟨_, rfl, a, _, rfl, .inr (SqT.of (sF _ _ ha)), _, 1, rfl, rfl, _, rfl, b, _, rfl, .inr (SqT.of (sF _ _ hb)), _, 1, rfl, rfl, _, _, rfl, rfl, .inl (by rw [la]; show bs t ≤ _; omega), _, _, rfl, ?_⟩
  have e9 : V.int (((xa.length + 1) * (xb.length + 1) : Nat) : Int) = vi (bs t * bs u) := by rw [la, lb]; rfl
  rw [e9]
  refine ⟨_, rfl, _, 1, rfl, rfl, 2, _, rfl, ⟨by decide, by decide, by omega, by omega⟩, ?_⟩
  have etn : (((bs t * bs u + 1 : Nat) : Int) - 2).toNat = bs t * bs u - 1 := by omega
  rw [etn]
  refine for_range (lo := 2) (n := bs t * bs u - 1) (fun i σ H' => ∃ (acc : List V) (ss : List Sh) (x4 x5 : Option V), σ = [some (.ref a), some (.ref b), some (.ref F), some (vi (bs t * bs u)), x4, x5] ∧ Good H' ∧ Same H H' ∧ H' F = some (.lst acc) ∧ Paired (ShV H') acc ss ∧ ss.length = i ∧ ∀ (k : Nat) (h : k < ss.length), (ss[k]).sz = k + 2)
    ⟨[], [], none, none, rfl, g.lst hF, sF, upd_same, .nil, rfl, fun k h => absurd h (Nat.not_lt_zero _)⟩ ?_ ?_
  · rintro i σ H' hi ⟨acc, ss, x4, x5, rfl, g', sm, hFa, hpacc, hss, hz⟩
    have ek : (2 : Int) + (i : Int) = ((2 + i : Nat) : Int) := rfl
    rw [ek]
    obtain ⟨z1, z2, z3⟩ := glue_sz tb ub (m := 2 + i) (by omega) (by omega)
    refine ⟨_, rfl, (by show 0 ≤ sizeLine; decide), fun p0 hp0 => ⟨(by show 1 ≤ sizeLine; decide), fun p1 hp1 => ?_⟩⟩
    have s0 := same_new (o := .tup []) hp0
    have s1 := same_new (o := .lst [.ref p0]) hp1
    refine ⟨_, rfl, p1, _, _, rfl, rfl, upd_same, by omega, by omega, by show 1 * _ ≤ sizeLine; rw [Int.toNat_natCast]; exact small (by omega), fun p2 hp2 => ?_⟩
    rw [Int.toNat_natCast, flat_rep]
    have s2 := same_new (o := .lst (List.replicate (2 + i) (.ref p0))) hp2
    have sm2 := Same.trans (Same.trans (Same.trans sm s0) s1) s2
    have g2 := ((g'.tup hp0).lst hp1 (xs := [.ref p0])).lst hp2 (xs := List.replicate (2 + i) (.ref p0))
    refine ⟨.ref a, t, p2, _, List.replicate (2 + i) .o, rfl, g2, tv.mono (TM.of sm2), tb, upd_same, rep_paired ⟨p0, rfl, s2 _ _ (s1 _ _ upd_same)⟩ _, by rw [List.length_replicate]; omega, fun p3 ys H3 s3 g3 hp3 hp3' hpy => ?_⟩
    rw [prs_o tb] at hpy
    have sm3 := Same.trans sm2 s3
    have s03 := Same.trans (Same.trans (Same.trans s0 s1) s2) s3
    have hF3 := s03 _ _ hFa
    have ly := hpy.length
    refine ⟨_, rfl, .inl ⟨rfl, _, SqL.of hF3⟩, ?_⟩
    refine ⟨_, rfl, _, rfl, p3, _, rfl, .inl (SqL.of hp3'), .ref b, u, (ents t (2 + i)).length, by rw [ly], g3, uv.mono (TM.of sm3), z1, z2, fun e H4 s4 g4 he => ?_⟩
    have eB := ub.entB z1 z2
    refine ⟨_, rfl, e, _, p3, ys, ents t (2 + i), rfl, g4, he, by omega, by omega, s4 _ _ hp3', Paired.imp (fun _ _ z => z.mono (TM.of s4)) hpy, (ent_sz ub.ok z1 z2).symm, fun v5 H5 s5 g5 hv5 => ?_⟩
    have s05 := Same.trans (Same.trans s03 s4) s5
    have hF5 := s05 _ _ hFa
    have lacc := hpacc.length
    refine ⟨F, acc, _, rfl, rfl, hF5, small1000 (by omega), ?_⟩
    have tm := TM.lst hF5 (o := .lst (acc ++ [v5]))
    refine ⟨acc ++ [v5], ss ++ [_], _, _, rfl, g5.lst' hF5, Same.upd (Same.trans sm s05) hF, upd_same, Paired.app (Paired.imp (fun _ _ z => (ShV.mono (TM.of s05) z).mono tm) hpacc) (.cons (hv5.mono tm) .nil), by rw [List.length_append]; simp [hss], fun k hk => ?_⟩
    rw [List.length_append, List.length_singleton] at hk
    rcases Nat.lt_or_ge k ss.length with y | y
    · rw [List.getElem_append_left y]
      exact hz k y
    · have e : k = ss.length := by omega
      subst e
      rw [List.getElem_append_right (Nat.le_refl _)]
      simp only [Nat.sub_self, List.getElem_cons_zero]
      rw [z3]
      omega
  · rintro σ H' ⟨acc, ss, x4, x5, rfl, g', sm, hFa, hpacc, hss, hz⟩
    refine ⟨_, rfl, F, acc, rfl, .inl ⟨SqL.of hFa, fun p hp' => ?_⟩⟩
    have s3 := same_new (o := .tup acc) hp'
    have g3 := g'.tup hp' (xs := acc)
    exact fin1 g3 (Same.trans sm s3) (q _ ss _ (Same.trans sm s3) g3 ⟨p, acc, rfl, upd_same, Paired.imp (fun _ _ z => z.mono (TM.of s3)) hpacc⟩ ⟨⟨by omega, hz⟩, by omega⟩)
end
end KL

namespace KL
open PySem PySem.Spec L2
open PyProof.Rows hiding St
/-- tables drawn one by one into the list at L -/
def TabsI (d c : Addr) (H : Hp) (L : Addr) (H2 : Hp) (ts : List Tb) : Prop := Drw d c H H2 ∧ (∃ acc, H2 L = some (.lst acc) ∧ Paired (TbV H2) acc ts) ∧ ∀ t ∈ ts, TbB t
theorem TabsI.nil {d c L : Addr} {H : Hp} (g : Good H) (src : Src H d c) (hL : H L = none) : TabsI d c H L (upd H L (.lst [])) [] := ⟨Drw.of src (g.lst hL) (same_new hL), ⟨[], upd_same, .nil⟩, fun t h => nomatch h⟩
theorem Drw.grow {d c L : Addr} {H H2 : Hp} {acc ys : List V} (src : Src H d c) (dr : Drw d c H H2) (hL : H L = none) (h : H2 L = some (.lst acc)) : Drw d c H (upd H2 L (.lst ys)) := by
  have lk : ∀ b o, H b = some o → (upd H2 L (.lst ys)) b = H2 b := fun b o e => upd_ne (ne_of_none e hL)
  refine ⟨dr.g.lst' h, ?_, ?_⟩
  · obtain ⟨l, m, t, xs, e1, e2⟩ := dr.s
    obtain ⟨l0, m0, t0, xs0, e3, e4⟩ := src
    exact ⟨l, m, t, xs, by rw [lk d _ e3]; exact e1, by rw [lk c _ e4]; exact e2⟩
  · intro b o hb n1 n2
    rw [lk b o hb]
    exact dr.k b o hb n1 n2
theorem TabsI.step {d c L : Addr} {H H2 H3 : Hp} {ts : List Tb} {v : V} {t : Tb} (src : Src H d c) (hL : H L = none) (h : TabsI d c H L H2 ts) (dr : Drw d c H2 H3) (tv : TbV H3 v t) (tb : TbB t) (hlen : ts.length ≤ 1000) :
    ∃ acc, H3 L = some (.lst acc) ∧ acc.length < sizeLine ∧ TabsI d c H L (upd H3 L (.lst (acc ++ [v]))) (ts ++ [t]) := by
  obtain ⟨dr0, ⟨acc, hacc, hp⟩, hb⟩ := h
  have hL3 := dr.lst dr0.s hacc (src.ne hL).2
  have tm := TM.lst hL3 (o := .lst (acc ++ [v]))
  refine ⟨acc, hL3, small1000 (by rw [hp.length]; omega), Drw.grow src (dr0.trans dr) hL hL3, ⟨_, upd_same, Paired.app (Paired.imp (fun _ _ z => (TbV.mono (dr.tm dr0.s) z).mono tm) hp) (.cons (tv.mono tm) .nil)⟩, fun x hx => ?_⟩
  rcases List.mem_append.mp hx with hx | hx
  · exact hb x hx
  · rw [List.mem_singleton.mp hx]
    exact tb
theorem mkPlB {ts : List Tb} {en : En} (h1 : ∀ t ∈ ts, TbB t) (h2 : ∀ rs, en = .round rs → 1 ≤ rs.length ∧ ∀ t ∈ rs, TbB t) : PlB ⟨ts, en⟩ :=
  ⟨⟨fun t h => (h1 t h).ok, fun rs e => ⟨(h2 rs e).1, fun t h => ((h2 rs e).2 t h).ok⟩⟩, h1, fun rs e => (h2 rs e).2⟩
theorem WdV.mono {CP : Addr} {H H' : Hp} {v : V} {R : Pl} (s : Same H H') (h : WdV CP H v R) : WdV CP H' v R := by
  obtain ⟨wd, tv, ev, pv, e, h1⟩ := h
  exact ⟨wd, tv, ev, pv, e, h1.mono s⟩
section
variable {P : Program} {w : World} {K : PySem.W.Frag} {mg : Str → Option Value} {base : Heap} {CP CR E : Addr}
def spLTable : Sp := fun vs H Q _ => ∃ d c, vs = [.ref d] ∧ Good H ∧ Src H d c ∧ ∀ v t H', Drw d c H H' → TbV H' v t → TbB t → Q v H'
theorem sizes8 {x : V} (h : x ∈ [V.int 2, .int 2, .int 3, .int 3, .int 4, .int 4, .int 5, .int 6]) : ∃ n : Nat, x = vi n ∧ 2 ≤ n ∧ n ≤ 12 := by
  simp only [List.mem_cons, List.not_mem_nil, or_false] at h
  rcases h with rfl | rfl | rfl | rfl | rfl | rfl | rfl | rfl
  · exact ⟨2, rfl, by decide, by decide⟩
  · exact ⟨2, rfl, by decide, by decide⟩
  · exact ⟨3, rfl, by decide, by decide⟩
  · exact ⟨3, rfl, by decide, by decide⟩
  · exact ⟨4, rfl, by decide, by decide⟩
  · exact ⟨4, rfl, by decide, by decide⟩
  · exact ⟨5, rfl, by decide, by decide⟩
  · exact ⟨6, rfl, by decide, by decide⟩
theorem menu8 {x : V} {r : Nat} (hr : r < 11) (h : x ∈ [V.int 2, .int 2, .int 3, .int 3, .int 4, .int 5, .int 12, vi (2 + r)]) : ∃ n : Nat, x = vi n ∧ 2 ≤ n ∧ n ≤ 12 := by
  simp only [List.mem_cons, List.not_mem_nil, or_false] at h
  rcases h with rfl | rfl | rfl | rfl | rfl | rfl | rfl | rfl
  · exact ⟨2, rfl, by decide, by decide⟩
  · exact ⟨2, rfl, by decide, by decide⟩
  · exact ⟨3, rfl, by decide, by decide⟩
  · exact ⟨3, rfl, by decide, by decide⟩
  · exact ⟨4, rfl, by decide, by decide⟩
  · exact ⟨5, rfl, by decide, by decide⟩
  · exact ⟨12, rfl, by decide, by decide⟩
  · exact ⟨2 + r, rfl, by omega, by omega⟩
theorem c_l_table (D : DefAt K mg "_law_table" s_l_table) (T : Txt K mg CP CR E) (c_l_pick : Cal P w K mg base "_law_pick" 1 ["_law_source_here", "_law_many"] spPick) (c_l_any_table : Cal P w K mg base "_law_any_table" 27 ["_law_source_here", "_law_size_here"] spLTab)
    (c_l_glue : Cal P w K mg base "_law_glue" 124 ["_law_one", "_law_other"] spGlue) (c_l_of : Cal P w K mg base "_law_of" 2 ["_law_source_here", "_law_some"] spOf) : Cal P w K mg base "_law_table" 125 ["_law_source_here"] spLTable := by
  refine cal_of D sc_l_table (fun _ _ _ _ _ _ us hl => match us, hl with | [_], _ => rfl) (fun vs H Q E' h => ?_) (fun f cdv A outer s H vs Q E' hr h => ?_)
  · obtain ⟨d, c, rfl, _⟩ := h
    rfl
  obtain ⟨d, c, rfl, g, src, q⟩ := h
  refine ⟨_, (pss_cons (ps_if (pt_cmpR op_eqN (pe_cal c_l_pick hr (pa_cons (pv 0) (pa_cons pe_int pa_nil))) pe_int (nomark _)) (pss_cons (ps_par (i := 1) (j := 2) (by rfl) sc_l_table.nd rfl rfl (by decide) rfl rfl (pa_cons (pe_cal c_l_any_table hr (pa_cons (pv 0) (pa_cons (pe_op op_addN pe_int (pe_cal c_l_pick hr (pa_cons (pv 0) (pa_cons pe_int pa_nil)))) pa_nil))) (pa_cons (pe_cal c_l_any_table hr (pa_cons (pv 0) (pa_cons (pe_op op_addN pe_int (pe_cal c_l_pick hr (pa_cons (pv 0) (pa_cons pe_int pa_nil)))) pa_nil))) pa_nil)) (by rfl)) (pss_one (ps_ret (pe_cal c_l_glue hr (pa_cons (pv 1) (pa_cons (pv 2) pa_nil)))))) pss_nil) (pss_one (ps_ret (pe_cal c_l_any_table hr (pa_cons (pv 0) (pa_cons (pe_cal c_l_of hr (pa_cons (pv 0) (pa_cons (pe_lst (pa_cons pe_int (pa_cons pe_int (pa_cons pe_int (pa_cons pe_int (pa_cons pe_int (pa_cons pe_int (pa_cons pe_int (pa_cons pe_int pa_nil))))))))) pa_nil))) pa_nil)))))), ?_⟩
  refine ⟨_, rfl, d, c, 4, rfl, g, src, by decide, fun r H1 dr1 hr1 => ⟨_, 0, rfl, rfl, _, rfl, ?_⟩⟩
  by_cases c0 : r = 0
  · rw [decide_eq_true c0]
    refine iteT ?_
    refine ⟨_, rfl, _, rfl, d, c, 2, rfl, dr1.g, dr1.s, by decide, fun r2 H2 dr2 hr2 => ?_⟩
    have hr2' : r2 < 2 := hr2
    refine ⟨2, _, rfl, rfl, d, c, 2 + r2, rfl, dr2.g, dr2.s, by omega, by omega, fun v1 t1 H3 dr3 tv1 tb1 e1 => ?_⟩
    refine ⟨_, rfl, _, rfl, d, c, 2, rfl, dr3.g, dr3.s, by decide, fun r4 H4 dr4 hr4 => ?_⟩
    have hr4' : r4 < 2 := hr4
    refine ⟨2, _, rfl, rfl, d, c, 2 + r4, rfl, dr4.g, dr4.s, by omega, by omega, fun v2 t2 H5 dr5 tv2 tb2 e2 => ?_⟩
    refine ⟨_, _, rfl, ?_⟩
    have dr := (((dr1.trans dr2).trans dr3).trans dr4).trans dr5
    refine ⟨_, rfl, _, rfl, v1, v2, t1, t2, rfl, dr5.g, (tv1.mono (dr4.tm dr3.s)).mono (dr5.tm dr4.s), tv2, tb1, tb2, by omega, by omega, fun v x H6 s6 g6 xv xb => ?_⟩
    exact fin2 g6 (dr.same g6 s6).dom (q v x H6 (dr.same g6 s6) xv xb)
  · rw [decide_eq_false c0]
    refine iteF ?_
    refine ⟨_, rfl, _, rfl, (by show 8 ≤ sizeLine; decide), fun L hL => ?_⟩
    have s2 := same_new (o := .lst [V.int 2, .int 2, .int 3, .int 3, .int 4, .int 4, .int 5, .int 6]) hL
    have g2 := dr1.g.lst hL (xs := [V.int 2, .int 2, .int 3, .int 3, .int 4, .int 4, .int 5, .int 6])
    refine ⟨d, c, L, _, rfl, g2, dr1.s.mono s2, upd_same, (dr1.s.ne hL).2, by show 1 ≤ 8; decide, by show 8 < 1000000; decide, fun x H2 hx dr2 => ?_⟩
    obtain ⟨n, rfl, n1, n2⟩ := sizes8 hx
    refine ⟨d, c, n, rfl, dr2.g, dr2.s, n1, n2, fun v t H3 dr3 tv tb _ => ?_⟩
    have dr := ((dr1.same g2 s2).trans dr2).trans dr3
    exact fin2 dr3.g dr.dom (q v t H3 dr tv tb)
def spLPlan (CP : Addr) : Sp := fun vs H Q _ => ∃ d c, vs = [.ref d] ∧ Good H ∧ Src H d c ∧ ∀ v R H', Drw d c H H' → WdV CP H' v R → PlB R → Q v H'
theorem dec_round (x : V) (h : x = .str "left" ∨ x = .str "right") : decide (x = V.str "round") = false := by
  rcases h with rfl | rfl <;> decide +kernel
theorem c_l_long_plan (D : DefAt K mg "_law_long_plan" s_l_long_plan) (T : Txt K mg CP CR E) (c_l_pick : Cal P w K mg base "_law_pick" 1 ["_law_source_here", "_law_many"] spPick) (c_l_any_table : Cal P w K mg base "_law_any_table" 27 ["_law_source_here", "_law_size_here"] spLTab)
    (c_l_of : Cal P w K mg base "_law_of" 2 ["_law_source_here", "_law_some"] spOf) (c_l_made : Cal P w K mg base "_law_made" 18 ["_law_tables", "_law_end"] (spMade CP)) : Cal P w K mg base "_law_long_plan" 28 ["_law_source_here"] (spLPlan CP) := by
  refine cal_of D sc_l_long_plan (fun _ _ _ _ _ _ us hl => match us, hl with | [_], _ => rfl) (fun vs H Q E' h => ?_) (fun f cdv A outer s H vs Q E' hr h => ?_)
  · obtain ⟨d, c, rfl, _⟩ := h
    rfl
  obtain ⟨d, c, rfl, g, src, q⟩ := h
  refine ⟨_, (pss_cons (ps_set (i := 1) sc_l_long_plan.nd rfl (Or.inr rfl) (pe_lst (pa_cons pe_int (pa_cons pe_int (pa_cons pe_int (pa_cons pe_int (pa_cons pe_int (pa_cons pe_int (pa_cons pe_int (pa_cons (pe_op op_addN pe_int (pe_cal c_l_pick hr (pa_cons (pv 0) (pa_cons pe_int pa_nil)))) pa_nil)))))))))) (pss_cons (ps_setLc (g := (gName 3)) (i := 2) (own := [("_law_lap", 3)]) rfl sc_l_long_plan.nd rfl rfl (sw_true rfl rfl rfl (by decide +kernel)) (pi_range1 (by rfl) T.range_ (pa_cons (pe_op op_addN pe_int (pe_cal c_l_pick hr (pa_cons (pv 0) (pa_cons pe_int pa_nil)))) pa_nil)) (blkOk_by (own := [("_law_lap", 3)]) (N := n_l_long_plan) (sc := L2.defScope s_l_long_plan) (by decide +kernel)) (fun _ _ _ _ _ => (pg_name (i := 3) sc_l_long_plan.nd rfl (Or.inl rfl))) (fun _ _ _ _ _ => pts_nil) (fun _ _ _ _ _ => (pe_cal c_l_any_table hr (pa_cons (pv 0) (pa_cons (pe_cal c_l_of hr (pa_cons (pv 0) (pa_cons (pv 1) pa_nil))) pa_nil))))) (pss_cons (ps_set (i := 4) sc_l_long_plan.nd rfl (Or.inl rfl) (pe_cal c_l_of hr (pa_cons (pv 0) (pa_cons (pe_lst (pa_cons pe_str (pa_cons pe_str (pa_cons pe_str pa_nil)))) pa_nil)))) (pss_cons (ps_setLc (g := (gName 3)) (i := 5) (own := [("_law_lap", 3)]) rfl sc_l_long_plan.nd rfl rfl (sw_true rfl rfl rfl (by decide +kernel)) (pi_range1 (by rfl) T.range_ (pa_cons (pe_op op_addN pe_int (pe_cal c_l_pick hr (pa_cons (pv 0) (pa_cons pe_int pa_nil)))) pa_nil)) (blkOk_by (own := [("_law_lap", 3)]) (N := n_l_long_plan) (sc := L2.defScope s_l_long_plan) (by decide +kernel)) (fun _ _ _ _ _ => (pg_name (i := 3) sc_l_long_plan.nd rfl (Or.inl rfl))) (fun _ _ _ _ _ => pts_nil) (fun _ _ _ _ _ => (pe_cal c_l_any_table hr (pa_cons (pv 0) (pa_cons (pe_cal c_l_of hr (pa_cons (pv 0) (pa_cons (pv 1) pa_nil))) pa_nil))))) (pss_one (ps_ret (pe_cal c_l_made hr (pa_cons (pv 2) (pa_cons (pe_ifExp (pt_cmpR op_eq (pv 4) pe_str (nomark _)) (pe_callTy call_tuple_of (by rfl) T.tuple_ (by decide +kernel) (pa_cons (pv 5) pa_nil)) (pv 4)) pa_nil))))))))), ?_⟩
  refine ⟨_, rfl, d, c, 11, rfl, g, src, by decide, fun r0 H1 dr1 hr1 => ⟨2, _, rfl, rfl, (by show 8 ≤ sizeLine; decide), fun M hM => ?_⟩⟩
  have hr0 : r0 < 11 := hr1
  have sM := same_new (o := .lst [V.int 2, .int 2, .int 3, .int 3, .int 4, .int 5, .int 12, vi (2 + r0)]) hM
  have gM := dr1.g.lst hM (xs := [V.int 2, .int 2, .int 3, .int 3, .int 4, .int 5, .int 12, vi (2 + r0)])
  have srcM := dr1.s.mono sM
  have nM := (dr1.s.ne hM).2
  have drM := dr1.same gM sM
  refine ⟨_, rfl, d, c, 3, rfl, gM, srcM, by decide, fun r2 H2 dr2 hr2 => ?_⟩
  have hr2' : r2 < 3 := hr2
  refine ⟨4, _, rfl, rfl, _, rfl, by omega, by omega, fun L hL => ?_⟩
  have etn : (((4 + r2 : Nat) : Int)).toNat = 4 + r2 := Int.toNat_natCast _
  rw [etn]
  have hM2 := dr2.lst srcM upd_same nM
  refine lc_range (lo := 0) (n := 4 + r2) (fun i H3 => ∃ ts, TabsI d c H2 L H3 ts ∧ ts.length = i) ⟨[], TabsI.nil dr2.g dr2.s hL, rfl⟩ ?_ ?_
  · rintro i H3 hi ⟨ts, ti, hts⟩
    refine ⟨rfl, tyes ?_⟩
    have dr3 := ti.1
    refine ⟨_, rfl, _, rfl, _, rfl, d, c, M, _, rfl, dr3.g, dr3.s, dr3.lst dr2.s hM2 nM, nM, by show 1 ≤ 8; decide, by show 8 < 1000000; decide, fun x H4 hx dr4 => ?_⟩
    obtain ⟨n, rfl, n1, n2⟩ := menu8 hr0 hx
    refine ⟨d, c, n, rfl, dr4.g, dr4.s, n1, n2, fun v t H5 dr5 tv tb _ => ?_⟩
    obtain ⟨acc, e1, e2, e3⟩ := ti.step dr2.s hL (dr4.trans dr5) tv tb (by omega)
    exact ⟨acc, e1, e2, ts ++ [t], e3, by rw [List.length_append]; simp [hts]⟩
  · rintro H3 ⟨ts, ⟨dr3, ⟨tvs, hL3, hpt⟩, htb⟩, hts⟩
    have nL := (dr2.s.ne hL).2
    have drH3 := (drM.trans dr2).trans dr3
    refine ⟨_, rfl, (by show 3 ≤ sizeLine; decide), fun Z hZ => ?_⟩
    have sZ := same_new (o := .lst [V.str "left", .str "right", .str "round"]) hZ
    have gZ := dr3.g.lst hZ (xs := [V.str "left", .str "right", .str "round"])
    refine ⟨d, c, Z, _, rfl, gZ, dr3.s.mono sZ, upd_same, (dr3.s.ne hZ).2, by show 1 ≤ 3; decide, by show 3 < 1000000; decide, fun en H4 hen dr4 => ?_⟩
    have dr34 := (Drw.of dr3.s gZ sZ).trans dr4
    refine ⟨_, rfl, d, c, 6, rfl, dr4.g, dr4.s, by decide, fun r5 H5 dr5 hr5 => ?_⟩
    have hr5' : r5 < 6 := hr5
    refine ⟨1, _, rfl, rfl, _, rfl, by omega, by omega, fun L2 hL2 => ?_⟩
    have dr35 := dr34.trans dr5
    have etn2 : (((1 + r5 : Nat) : Int)).toNat = 1 + r5 := Int.toNat_natCast _
    rw [etn2]
    have hM5 := dr35.lst dr3.s (dr3.lst dr2.s hM2 nM) nM
    have hL5 := dr35.lst dr3.s hL3 nL
    refine lc_range (lo := 0) (n := 1 + r5) (fun i H6 => ∃ ts, TabsI d c H5 L2 H6 ts ∧ ts.length = i) ⟨[], TabsI.nil dr5.g dr5.s hL2, rfl⟩ ?_ ?_
    · rintro i H6 hi ⟨us, ti, hus⟩
      refine ⟨rfl, tyes ?_⟩
      have dr6 := ti.1
      refine ⟨_, rfl, _, rfl, _, rfl, d, c, M, _, rfl, dr6.g, dr6.s, dr6.lst dr5.s hM5 nM, nM, by show 1 ≤ 8; decide, by show 8 < 1000000; decide, fun x H7 hx dr7 => ?_⟩
      obtain ⟨n, rfl, n1, n2⟩ := menu8 hr0 hx
      refine ⟨d, c, n, rfl, dr7.g, dr7.s, n1, n2, fun v t H8 dr8 tv tb _ => ?_⟩
      obtain ⟨acc, e1, e2, e3⟩ := ti.step dr5.s hL2 (dr7.trans dr8) tv tb (by omega)
      exact ⟨acc, e1, e2, us ++ [t], e3, by rw [List.length_append]; simp [hus]⟩
    · rintro H6 ⟨us, ⟨dr6, ⟨uvs, hL6, hpu⟩, hub⟩, hus⟩
      have dr36 := dr35.trans dr6
      have dr := drH3.trans dr36
      have hL6' := dr36.lst dr3.s hL3 nL
      have hpt6 := Paired.imp (fun _ _ z => TbV.mono (dr36.tm dr3.s) z) hpt
      refine ⟨_, rfl, _, rfl, ?_⟩
      simp only [List.mem_cons, List.not_mem_nil, or_false] at hen
      rcases hen with rfl | rfl | rfl
      · refine ⟨rfl, _, rfl, ?_⟩
        show if decide (V.str "left" = V.str "round") = true then _ else _
        rw [dec_round _ (.inl rfl)]
        exact iteF ⟨_, rfl, L, tvs, .str "left", ⟨ts, .left⟩, rfl, dr6.g, hL6', hpt6, rfl, mkPlB htb (fun _ e => nomatch e), fun v H7 s7 g7 wv => fin2 g7 (dr.same g7 s7).dom (q v _ H7 (dr.same g7 s7) wv (mkPlB htb (fun _ e => nomatch e)))⟩
      · refine ⟨rfl, _, rfl, ?_⟩
        show if decide (V.str "right" = V.str "round") = true then _ else _
        rw [dec_round _ (.inr rfl)]
        exact iteF ⟨_, rfl, L, tvs, .str "right", ⟨ts, .right⟩, rfl, dr6.g, hL6', hpt6, rfl, mkPlB htb (fun _ e => nomatch e), fun v H7 s7 g7 wv => fin2 g7 (dr.same g7 s7).dom (q v _ H7 (dr.same g7 s7) wv (mkPlB htb (fun _ e => nomatch e)))⟩
      · refine ⟨rfl, _, rfl, ?_⟩
        show if decide (V.str "round" = V.str "round") = true then _ else _
        rw [decide_eq_true rfl]
        refine iteT ⟨_, rfl, L2, uvs, rfl, .inl ⟨SqL.of hL6, fun p hp => ?_⟩⟩
        have sp := same_new (o := .tup uvs) hp
        have gp := dr6.g.tup hp (xs := uvs)
        have pb : PlB ⟨ts, .round us⟩ := mkPlB htb (fun rs e => by cases e; exact ⟨by omega, hub⟩)
        have dr' := dr.same gp sp
        exact ⟨L, tvs, .ref p, ⟨ts, .round us⟩, rfl, gp, sp _ _ hL6', Paired.imp (fun _ _ z => z.mono (TM.of sp)) hpt6, ⟨p, uvs, rfl, upd_same, Paired.imp (fun _ _ z => z.mono (TM.of sp)) hpu⟩, pb, fun v H7 s7 g7 wv => fin2 g7 (dr'.same g7 s7).dom (q v _ H7 (dr'.same g7 s7) wv pb)⟩
theorem lap5 {x : V} (h : x ∈ [V.int 0, .int 1, .int 1, .int 2, .int 3]) : ∃ n : Nat, x = vi n ∧ n ≤ 3 := by
  simp only [List.mem_cons, List.not_mem_nil, or_false] at h
  rcases h with rfl | rfl | rfl | rfl | rfl
  · exact ⟨0, rfl, by decide⟩
  · exact ⟨1, rfl, by decide⟩
  · exact ⟨1, rfl, by decide⟩
  · exact ⟨2, rfl, by decide⟩
  · exact ⟨3, rfl, by decide⟩
theorem c_l_plan (D : DefAt K mg "_law_plan" s_l_plan) (T : Txt K mg CP CR E) (c_l_pick : Cal P w K mg base "_law_pick" 1 ["_law_source_here", "_law_many"] spPick) (c_l_table : Cal P w K mg base "_law_table" 125 ["_law_source_here"] spLTable)
    (c_l_of : Cal P w K mg base "_law_of" 2 ["_law_source_here", "_law_some"] spOf) (c_l_made : Cal P w K mg base "_law_made" 18 ["_law_tables", "_law_end"] (spMade CP)) : Cal P w K mg base "_law_plan" 126 ["_law_source_here"] (spLPlan CP) := by
  refine cal_of D sc_l_plan (fun _ _ _ _ _ _ us hl => match us, hl with | [_], _ => rfl) (fun vs H Q E' h => ?_) (fun f cdv A outer s H vs Q E' hr h => ?_)
  · obtain ⟨d, c, rfl, _⟩ := h
    rfl
  obtain ⟨d, c, rfl, g, src, q⟩ := h
  refine ⟨_, (pss_cons (ps_setLc (g := (gName 2)) (i := 1) (own := [("_law_lap", 2)]) rfl sc_l_plan.nd rfl rfl (sw_true rfl rfl rfl (by decide +kernel)) (pi_range1 (by rfl) T.range_ (pa_cons (pe_cal c_l_of hr (pa_cons (pv 0) (pa_cons (pe_lst (pa_cons pe_int (pa_cons pe_int (pa_cons pe_int (pa_cons pe_int (pa_cons pe_int pa_nil)))))) pa_nil))) pa_nil)) (blkOk_by (own := [("_law_lap", 2)]) (N := n_l_plan) (sc := L2.defScope s_l_plan) (by decide +kernel)) (fun _ _ _ _ _ => (pg_name (i := 2) sc_l_plan.nd rfl (Or.inl rfl))) (fun _ _ _ _ _ => pts_nil) (fun _ _ _ _ _ => (pe_cal c_l_table hr (pa_cons (pv 0) pa_nil)))) (pss_cons (ps_par (i := 3) (j := 4) (by rfl) sc_l_plan.nd rfl rfl (by decide) rfl rfl (pa_cons (pe_cal c_l_of hr (pa_cons (pv 0) (pa_cons (pe_lst (pa_cons pe_str (pa_cons pe_str (pa_cons pe_str (pa_cons pe_str pa_nil))))) pa_nil))) (pa_cons (pe_op op_addN pe_int (pe_cal c_l_pick hr (pa_cons (pv 0) (pa_cons pe_int pa_nil)))) pa_nil)) (by rfl)) (pss_one (ps_ret (pe_cal c_l_made hr (pa_cons (pv 1) (pa_cons (pe_ifExp (pt_cmpR op_eq (pv 3) pe_str (nomark _)) (pe_callTy call_tuple_of (by rfl) T.tuple_ (by decide +kernel) (pa_cons (pe_lc (g := (gName 2)) (own := [("_law_lap", 2)]) rfl sc_l_plan.nd (pi_range1 (by rfl) T.range_ (pa_cons (pv 4) pa_nil)) (blkOk_by (own := [("_law_lap", 2)]) (N := n_l_plan) (sc := L2.defScope s_l_plan) (by decide +kernel)) (fun _ _ _ _ _ => (pg_name (i := 2) sc_l_plan.nd rfl (Or.inl rfl))) (fun _ _ _ _ _ => pts_nil) (fun _ _ _ _ _ => (pe_cal c_l_table hr (pa_cons (pv 0) pa_nil)))) pa_nil)) (pv 3)) pa_nil))))))), ?_⟩
  refine ⟨_, rfl, (by show 5 ≤ sizeLine; decide), fun M hM => ?_⟩
  have sM := same_new (o := .lst [V.int 0, .int 1, .int 1, .int 2, .int 3]) hM
  have gM := g.lst hM (xs := [V.int 0, .int 1, .int 1, .int 2, .int 3])
  have srcM := src.mono sM
  refine ⟨d, c, M, _, rfl, gM, srcM, upd_same, (src.ne hM).2, by show 1 ≤ 5; decide, by show 5 < 1000000; decide, fun x H2 hx dr2 => ?_⟩
  obtain ⟨n, rfl, hn⟩ := lap5 hx
  have drH2 := (Drw.of src gM sM).trans dr2
  refine ⟨_, rfl, by omega, by omega, fun L hL => ?_⟩
  have etn : ((n : Nat) : Int).toNat = n := Int.toNat_natCast _
  rw [etn]
  refine lc_range (lo := 0) (n := n) (fun i H3 => ∃ ts, TabsI d c H2 L H3 ts ∧ ts.length = i) ⟨[], TabsI.nil dr2.g dr2.s hL, rfl⟩ ?_ ?_
  · rintro i H3 hi ⟨ts, ti, hts⟩
    refine ⟨rfl, tyes ?_⟩
    have dr3 := ti.1
    refine ⟨_, rfl, d, c, rfl, dr3.g, dr3.s, fun v t H5 dr5 tv tb => ?_⟩
    obtain ⟨acc, e1, e2, e3⟩ := ti.step dr2.s hL dr5 tv tb (by omega)
    exact ⟨acc, e1, e2, ts ++ [t], e3, by rw [List.length_append]; simp [hts]⟩
  · rintro H3 ⟨ts, ⟨dr3, ⟨tvs, hL3, hpt⟩, htb⟩, hts⟩
    have nL := (dr2.s.ne hL).2
    have drH3 := drH2.trans dr3
    refine ⟨_, rfl, (by show 4 ≤ sizeLine; decide), fun Z hZ => ?_⟩
    have sZ := same_new (o := .lst [V.str "left", .str "right", .str "round", .str "round"]) hZ
    have gZ := dr3.g.lst hZ (xs := [V.str "left", .str "right", .str "round", .str "round"])
    refine ⟨d, c, Z, _, rfl, gZ, dr3.s.mono sZ, upd_same, (dr3.s.ne hZ).2, by show 1 ≤ 4; decide, by show 4 < 1000000; decide, fun en H4 hen dr4 => ?_⟩
    have dr34 := (Drw.of dr3.s gZ sZ).trans dr4
    refine ⟨_, rfl, d, c, 2, rfl, dr4.g, dr4.s, by decide, fun r5 H5 dr5 hr5 => ?_⟩
    have hr5' : r5 < 2 := hr5
    refine ⟨1, _, rfl, rfl, _, _, rfl, ?_⟩
    have dr35 := dr34.trans dr5
    have drH5 := drH3.trans dr35
    have hL5 := dr35.lst dr3.s hL3 nL
    have hpt5 := Paired.imp (fun _ _ z => TbV.mono (dr35.tm dr3.s) z) hpt
    refine ⟨_, rfl, _, rfl, ?_⟩
    simp only [List.mem_cons, List.not_mem_nil, or_false] at hen
    have hen3 : en = .str "left" ∨ en = .str "right" ∨ en = .str "round" := by
      rcases hen with h | h | h | h
      · exact .inl h
      · exact .inr (.inl h)
      · exact .inr (.inr h)
      · exact .inr (.inr h)
    rcases hen3 with rfl | rfl | rfl
    · refine ⟨rfl, _, rfl, ?_⟩
      show if decide (V.str "left" = V.str "round") = true then _ else _
      rw [dec_round _ (.inl rfl)]
      exact iteF ⟨_, rfl, L, tvs, .str "left", ⟨ts, .left⟩, rfl, dr5.g, hL5, hpt5, rfl, mkPlB htb (fun _ e => nomatch e), fun v H7 s7 g7 wv => fin2 g7 (drH5.same g7 s7).dom (q v _ H7 (drH5.same g7 s7) wv (mkPlB htb (fun _ e => nomatch e)))⟩
    · refine ⟨rfl, _, rfl, ?_⟩
      show if decide (V.str "right" = V.str "round") = true then _ else _
      rw [dec_round _ (.inr rfl)]
      exact iteF ⟨_, rfl, L, tvs, .str "right", ⟨ts, .right⟩, rfl, dr5.g, hL5, hpt5, rfl, mkPlB htb (fun _ e => nomatch e), fun v H7 s7 g7 wv => fin2 g7 (drH5.same g7 s7).dom (q v _ H7 (drH5.same g7 s7) wv (mkPlB htb (fun _ e => nomatch e)))⟩
    · refine ⟨rfl, _, rfl, ?_⟩
      show if decide (V.str "round" = V.str "round") = true then _ else _
      rw [decide_eq_true rfl]
      refine iteT ⟨_, rfl, _, rfl, by omega, by omega, fun L2 hL2 => ?_⟩
      have etn2 : (((1 + r5 : Nat) : Int)).toNat = 1 + r5 := Int.toNat_natCast _
      rw [etn2]
      refine lc_range (lo := 0) (n := 1 + r5) (fun i H6 => ∃ ts, TabsI d c H5 L2 H6 ts ∧ ts.length = i) ⟨[], TabsI.nil dr5.g dr5.s hL2, rfl⟩ ?_ ?_
      · rintro i H6 hi ⟨us, ti, hus⟩
        refine ⟨rfl, tyes ?_⟩
        have dr6 := ti.1
        refine ⟨_, rfl, d, c, rfl, dr6.g, dr6.s, fun v t H8 dr8 tv tb => ?_⟩
        obtain ⟨acc, e1, e2, e3⟩ := ti.step dr5.s hL2 dr8 tv tb (by omega)
        exact ⟨acc, e1, e2, us ++ [t], e3, by rw [List.length_append]; simp [hus]⟩
      · rintro H6 ⟨us, ⟨dr6, ⟨uvs, hL6, hpu⟩, hub⟩, hus⟩
        have dr := drH5.trans dr6
        have hL6' := dr6.lst dr5.s hL5 nL
        have hpt6 := Paired.imp (fun _ _ z => TbV.mono (dr6.tm dr5.s) z) hpt5
        refine ⟨L2, uvs, rfl, .inl ⟨SqL.of hL6, fun p hp => ?_⟩⟩
        have sp := same_new (o := .tup uvs) hp
        have gp := dr6.g.tup hp (xs := uvs)
        have pb : PlB ⟨ts, .round us⟩ := mkPlB htb (fun rs e => by cases e; exact ⟨by omega, hub⟩)
        have dr' := dr.same gp sp
        exact ⟨L, tvs, .ref p, ⟨ts, .round us⟩, rfl, gp, sp _ _ hL6', Paired.imp (fun _ _ z => z.mono (TM.of sp)) hpt6, ⟨p, uvs, rfl, upd_same, Paired.imp (fun _ _ z => z.mono (TM.of sp)) hpu⟩, pb, fun v H7 s7 g7 wv => fin2 g7 (dr'.same g7 s7).dom (q v _ H7 (dr'.same g7 s7) wv pb)⟩
theorem c_l_any_plan (D : DefAt K mg "_law_any_plan" s_l_any_plan) (T : Txt K mg CP CR E) (c_l_pick : Cal P w K mg base "_law_pick" 1 ["_law_source_here", "_law_many"] spPick) (c_l_long_plan : Cal P w K mg base "_law_long_plan" 28 ["_law_source_here"] (spLPlan CP))
    (c_l_plan : Cal P w K mg base "_law_plan" 126 ["_law_source_here"] (spLPlan CP)) : Cal P w K mg base "_law_any_plan" 127 ["_law_source_here"] (spLPlan CP) := by
  refine cal_of D sc_l_any_plan (fun _ _ _ _ _ _ us hl => match us, hl with | [_], _ => rfl) (fun vs H Q E' h => ?_) (fun f cdv A outer s H vs Q E' hr h => ?_)
  · obtain ⟨d, c, rfl, _⟩ := h
    rfl
  obtain ⟨d, c, rfl, g, src, q⟩ := h
  refine ⟨_, (pss_one (ps_ret (pe_ifExp (pt_cmpR op_eqN (pe_cal c_l_pick hr (pa_cons (pv 0) (pa_cons pe_int pa_nil))) pe_int (nomark _)) (pe_cal c_l_long_plan hr (pa_cons (pv 0) pa_nil)) (pe_cal c_l_plan hr (pa_cons (pv 0) pa_nil))))), ?_⟩
  refine ⟨_, rfl, d, c, 4, rfl, g, src, by decide, fun r H1 dr1 hr1 => ⟨_, 0, rfl, rfl, _, rfl, ?_⟩⟩
  by_cases c0 : r = 0
  · rw [decide_eq_true c0]
    exact iteT ⟨_, rfl, d, c, rfl, dr1.g, dr1.s, fun v R H2 dr2 wv pb => fin2 dr2.g (dr1.trans dr2).dom (q v R H2 (dr1.trans dr2) wv pb)⟩
  · rw [decide_eq_false c0]
    exact iteF ⟨_, rfl, d, c, rfl, dr1.g, dr1.s, fun v R H2 dr2 wv pb => fin2 dr2.g (dr1.trans dr2).dom (q v R H2 (dr1.trans dr2) wv pb)⟩
end
end KL

namespace KL
open PySem PySem.Spec L2
open PyProof.Rows hiding St
section
variable {P : Program} {w : World} {K : PySem.W.Frag} {mg : Str → Option Value} {base : Heap} {CP CR E : Addr}
/-! ### the lumps that the law counts -/
def spLLumps (k : Nat) : Sp := fun vs H Q _ => ∃ v s, ∃ start : Nat, vs = [v, vi start] ∧ Good H ∧ ShV H v s ∧ s.dp < k ∧ s.sz ≤ 60 ∧ ∀ p ys H', Same H H' → Good H' → H p = none → H' p = some (.lst ys) → Paired (PrV H') ys (s.lumps start) → Q (.ref p) H'
theorem c_l_lumps (D : DefAt K mg "_law_lumps" s_l_lumps) (T : Txt K mg CP CR E) (c_l_size : Cal P w K mg base "_law_size" 61 ["_law_form"] (spLSize 61)) : ∀ k, Cal P w K mg base "_law_lumps" (61 + k) ["_law_form", "_law_start"] (spLLumps k)
  | 0 => (cal_none D (fun _ _ _ _ _ _ us hl => match us, hl with | [_, _], _ => rfl) fun vs H Q E' h => by
    obtain ⟨v, s, st, _, _, _, z, _⟩ := h
    exact Nat.not_lt_zero _ z).mono (Nat.zero_le _)
  | k + 1 => by
    have c_l_lumps := c_l_lumps D T c_l_size k
    show Cal P w K mg base "_law_lumps" ((61 + k) + 1) _ _
    refine cal_of D sc_l_lumps (fun _ _ _ _ _ _ us hl => match us, hl with | [_, _], _ => rfl) (fun vs H Q E' h => ?_) (fun f cdv A outer s H vs Q E' hr h => ?_)
    · obtain ⟨v, s, st, rfl, _⟩ := h
      rfl
    obtain ⟨v, sh, st, rfl, g, hv, hk, hz, q⟩ := h
    have hu : (A.deeper (envOfC "_law_lumps" (L2.defScope s_l_lumps) s.heap.objs.size f cdv)).units + 64 < cLine := by
      have := hr.un
      omega
    have hd := sh.dp_lt
    refine ⟨_, (pss_cons (ps_set (i := 2) sc_l_lumps.nd rfl (Or.inl rfl) (pe_cal c_l_size hr (pa_cons (pv 0) pa_nil) (by omega))) (pss_cons (ps_if (pt_isO hu (pv 0)) (pss_one (ps_ret (pe_lst (pa_cons (pe_tup (pa_cons (pv 1) (pa_cons (pe_op op_addN (pv 1) pe_int) pa_nil))) pa_nil)))) pss_nil) (pss_cons (ps_set (i := 3) sc_l_lumps.nd rfl (Or.inl rfl) (pe_op op_addN (pv 1) (pe_cal c_l_size hr (pa_cons (pe_ix ix_tup (pv 0) pe_int (fun _ _ => rfl)) pa_nil) (by omega)))) (pss_one (ps_ret (pe_op op_cat (pe_op op_cat (pe_lst (pa_cons (pe_tup (pa_cons (pv 1) (pa_cons (pe_op op_addN (pv 1) (pv 2)) pa_nil))) pa_nil)) (pe_cal c_l_lumps hr (pa_cons (pe_ix ix_tup (pv 0) pe_int (fun _ _ => rfl)) (pa_cons (pv 1) pa_nil)) (by omega))) (pe_cal c_l_lumps hr (pa_cons (pe_ix ix_tup (pv 0) pe_int (fun _ _ => rfl)) (pa_cons (pv 3) pa_nil)) (by omega)))))))), ?_⟩
    refine ⟨_, rfl, v, sh, rfl, g, hv, by omega, by omega, ?_⟩
    refine ⟨_, rfl, g, sh, hv, by omega, ?_⟩
    cases sh with
    | o =>
      refine iteT ⟨_, rfl, _, rfl, _, 1, rfl, rfl, (by show 2 ≤ sizeLine; decide), fun t ht => ⟨(by show 1 ≤ sizeLine; decide), fun p hp => ?_⟩⟩
      have s1 := same_new (o := .tup [vi st, vi (st + 1)]) ht
      have s2 := same_new (o := .lst [.ref t]) hp
      exact fin1 ((g.tup ht).lst hp) (Same.trans s1 s2) (q p _ _ (Same.trans s1 s2) ((g.tup ht).lst hp) (s1.free hp) upd_same (.cons ⟨t, rfl, s2 _ _ upd_same⟩ .nil))
    | n l r =>
      obtain ⟨a, x, y, rfl, ha, hx, hy⟩ := id hv
      have e1 : Sh.dp (.n l r) = max l.dp r.dp + 1 := rfl
      have e2 : Sh.sz (.n l r) = l.sz + r.sz := rfl
      have lp := l.sz_pos
      have rp := r.sz_pos
      refine iteF ?_
      refine ⟨_, rfl, _, rfl, a, _, 0, x, rfl, rfl, SqT.of ha, rfl, x, l, rfl, g, hx, by omega, by omega, _, _, rfl, rfl, ?_⟩
      refine ⟨_, rfl, _, rfl, _, rfl, _, _, rfl, rfl, (by show 2 ≤ sizeLine; decide), fun t ht => ⟨(by show 1 ≤ sizeLine; decide), fun p1 hp1 => ?_⟩⟩
      have s1 := same_new (o := .tup [vi st, vi (st + (l.sz + r.sz))]) ht
      have s2 := same_new (o := .lst [.ref t]) hp1
      have s12 := Same.trans s1 s2
      have g2 := (g.tup ht (xs := [vi st, vi (st + (l.sz + r.sz))])).lst hp1 (xs := [.ref t])
      refine ⟨_, rfl, a, _, 0, x, rfl, rfl, SqT.of (s12 _ _ ha), rfl, _, rfl, x, l, st, rfl, g2, hx.mono (TM.of s12), by omega, by omega, fun p3 ys3 H3 s3 g3 hf3 hp3 hpy3 => ?_⟩
      have ll := Sh.lumps_len l st
      have lr := Sh.lumps_len r (st + l.sz)
      have ly3 := hpy3.length
      refine ⟨p1, p3, [.ref t], ys3, rfl, rfl, s3 _ _ upd_same, hp3, (show [V.ref t].length + ys3.length ≤ sizeLine from small (by rw [List.length_singleton]; omega)), fun p4 hp4 => ?_⟩
      have s4 := same_new (o := .lst ([.ref t] ++ ys3)) hp4
      have s14 := Same.trans (Same.trans s12 s3) s4
      have g4 := g3.lst hp4 (xs := [.ref t] ++ ys3)
      refine ⟨_, rfl, a, _, 1, y, rfl, rfl, SqT.of (s14 _ _ ha), rfl, _, rfl, y, r, st + l.sz, rfl, g4, hy.mono (TM.of s14), by omega, by omega, fun p5 ys5 H5 s5 g5 hf5 hp5 hpy5 => ?_⟩
      have ly5 := hpy5.length
      refine ⟨p4, p5, [.ref t] ++ ys3, ys5, rfl, rfl, s5 _ _ upd_same, hp5, (show ([V.ref t] ++ ys3).length + ys5.length ≤ sizeLine from small (by rw [List.length_append, List.length_singleton]; omega)), fun p6 hp6 => ?_⟩
      have s6 := same_new (o := .lst ([.ref t] ++ ys3 ++ ys5)) hp6
      have ss := Same.trans (Same.trans s14 s5) s6
      refine fin1 (g5.lst hp6) ss (q p6 _ _ ss (g5.lst hp6) (Same.free (Same.trans s14 s5) hp6) upd_same ?_)
      show Paired _ _ (([(st, st + (l.sz + r.sz))] ++ l.lumps st) ++ r.lumps (st + l.sz))
      refine Paired.app (Paired.app (.cons ⟨t, rfl, ?_⟩ .nil) (Paired.imp (fun _ _ z => z.mono (TM.of (Same.trans (Same.trans s4 s5) s6))) hpy3)) (Paired.imp (fun _ _ z => z.mono (TM.of s6)) hpy5)
      exact s6 _ _ (s5 _ _ (s4 _ _ (s3 _ _ (s2 _ _ upd_same))))
/-! ### stages of a world -/
def spLStage (CP : Addr) : Sp := fun vs H Q _ => ∃ v R, ∃ k : Nat, vs = [v, vi k] ∧ Good H ∧ WdV CP H v R ∧ PlB R ∧ ∀ r H', Same H H' → Good H' → StV H' r (Pl.stage R k) → Q r H'
theorem c_l_stage (D : DefAt K mg "_law_stage" s_l_stage) (T : Txt K mg CP CR E) : Cal P w K mg base "_law_stage" 1 ["_law_world", "_law_k"] (spLStage CP) := by
  refine cal_of D sc_l_stage (fun _ _ _ _ _ _ us hl => match us, hl with | [_, _], _ => rfl) (fun vs H Q E' h => ?_) (fun f cdv A outer s H vs Q E' hr h => ?_)
  · obtain ⟨v, R, k, rfl, _⟩ := h
    rfl
  obtain ⟨v, R, k, rfl, g, ⟨wd, tv, ev, pv_, rfl, W⟩, pb, q⟩ := h
  have hu65 : (A.deeper (envOfC "_law_stage" (L2.defScope s_l_stage) s.heap.objs.size f cdv)).units + 65 < cLine := by
    have := hr.un
    omega
  have hu : (A.deeper (envOfC "_law_stage" (L2.defScope s_l_stage) s.heap.objs.size f cdv)).units + 1 < cLine := by omega
  obtain ⟨a, xs, rfl, ha, hx⟩ := W.t
  have hlen := hx.length
  refine ⟨_, (pss_cons (ps_if (pt_cmpR op_lt (pv 1) (pe_callB call_len_seq (by rfl) T.len_ PySem.boot_len (pa_cons (pe_dget hu (pv 0) pe_str (fun _ _ => rfl)) pa_nil)) (nomark _)) (pss_one (ps_ret (pe_ix ix_tup (pe_dget hu (pv 0) pe_str (fun _ _ => rfl)) (pv 1) (fun _ _ => rfl)))) pss_nil) (pss_cons (ps_if (pt_cmpR (op_inT hu65) (pe_dget hu (pv 0) pe_str (fun _ _ => rfl)) (pe_tup (pa_cons pe_str (pa_cons pe_str pa_nil))) (by rfl)) (pss_one (ps_ret pe_non)) pss_nil) (pss_one (ps_ret (pe_ix ix_tup (pe_dget hu (pv 0) pe_str (fun _ _ => rfl)) (pe_op op_mod (pe_callTy call_int1 (by rfl) T.int_ (by decide +kernel) (pa_cons (pe_op op_sub (pv 1) (pe_callB call_len_seq (by rfl) T.len_ PySem.boot_len (pa_cons (pe_dget hu (pv 0) pe_str (fun _ _ => rfl)) pa_nil))) pa_nil)) (pe_callB call_len_seq (by rfl) T.len_ PySem.boot_len (pa_cons (pe_dget hu (pv 0) pe_str (fun _ _ => rfl)) pa_nil))) (fun _ _ => rfl)))))), ?_⟩
  refine ⟨_, rfl, _, rfl, wd, _, rfl, W.dget (wdK_t ..), a, xs, rfl, .inr (SqT.of ha), _, _, rfl, rfl, _, rfl, ?_⟩
  by_cases c : k < R.tabs.length
  · have e : decide ((k : Int) < (xs.length : Int)) = true := decide_eq_true (by omega)
    rw [e]
    refine iteT ?_
    obtain ⟨x, hx1, hx2⟩ := Paired.atr hx (List.getElem?_eq_getElem c)
    refine ⟨_, rfl, wd, _, rfl, W.dget (wdK_t ..), _, rfl, a, xs, (k : Int), x, rfl, rfl, SqT.of ha, atI_nat hx1, fin0 g (Same.refl H) (q _ H (Same.refl H) g ?_)⟩
    unfold Pl.stage
    rw [if_pos c, List.getElem?_eq_getElem c]
    exact hx2
  · have e : decide ((k : Int) < (xs.length : Int)) = false := decide_eq_false (by omega)
    rw [e]
    refine iteF ?_
    refine ⟨_, rfl, wd, _, rfl, W.dget (wdK_e ..), (by show 2 ≤ sizeLine; decide), fun p hp => ?_⟩
    have s1 := same_new (o := .tup [V.str "left", .str "right"]) hp
    have g1 := g.tup hp (xs := [V.str "left", .str "right"])
    have he1 := W.e.mono (TM.of s1)
    refine ⟨_, _, EnV.dat he1, .tup (SqT.of upd_same) (.cons (.str _) (.cons (.str _) .nil)), enD_sh pb, ends_sh, _, rfl, ?_⟩
    rw [en_in]
    cases hen : R.en with
    | left =>
      refine iteT (fin1 g1 s1 (q _ _ s1 g1 ?_))
      unfold Pl.stage
      rw [if_neg c, hen]
      rfl
    | right =>
      refine iteT (fin1 g1 s1 (q _ _ s1 g1 ?_))
      unfold Pl.stage
      rw [if_neg c, hen]
      rfl
    | round ts =>
      refine iteF ?_
      rw [hen] at he1
      obtain ⟨b, ys, rfl, hb, hy⟩ := id he1
      have h1 := (pb.ok.rnd ts hen).1
      have hl2 := hy.length
      have hm : (k - R.tabs.length) % ts.length < ts.length := Nat.mod_lt _ h1
      have W1 := W.mono s1
      obtain ⟨y, hy1, hy2⟩ := Paired.atr hy (List.getElem?_eq_getElem hm)
      refine ⟨_, rfl, wd, _, rfl, W1.dget (wdK_e ..), _, rfl, _, rfl, wd, _, rfl, W1.dget (wdK_t ..), a, xs, rfl, .inr (SqT.of (s1 _ _ ha)), _, _, rfl, rfl, .inl ⟨_, rfl, _, rfl, wd, _, rfl, W1.dget (wdK_e ..), b, ys, rfl, .inr (SqT.of hb), _, _, rfl, rfl, (by show (0 : Int) < ys.length; omega), ?_⟩⟩
      refine ⟨b, ys, _, y, rfl, rfl, SqT.of hb, at_of (j := (k - R.tabs.length) % ts.length) ?_ hy1, fin1 g1 s1 (q _ _ s1 g1 ?_)⟩
      · rw [hlen, hl2]
        have e1 : (k : Int) - (R.tabs.length : Int) = ((k - R.tabs.length : Nat) : Int) := by omega
        rw [e1]
        exact (Int.natCast_emod _ _).symm
      · unfold Pl.stage
        rw [if_neg c, hen]
        show StV _ y ts[(k - R.tabs.length) % ts.length]?
        rw [List.getElem?_eq_getElem hm]
        exact hy2
/-! ### the shape that the law tells -/
def spTold (CP : Addr) : Sp := fun vs H Q _ => ∃ v R, ∃ n : Nat, vs = [v, vi n] ∧ Good H ∧ WdV CP H v R ∧ PlB R ∧ 1 ≤ n ∧ n ≤ 60 ∧ ∀ r H', Same H H' → Good H' → ShV H' r (shape R n) → Q r H'
theorem toldF_step {R : Pl} {f k : Nat} {row : List Sh} {t : Tb} (h : 1 < row.length) (hs : R.stage k = some t) : toldF R (f + 1) k row = toldF R f (k + 1) (prs t row) := by
  rw [toldF, if_neg (by omega), hs]
theorem toldF_end {R : Pl} {f k : Nat} {row : List Sh} (h : 1 < row.length) (hs : R.stage k = none) : toldF R (f + 1) k row = Sh.fill (comb R.isLeft row.length) row := by
  rw [toldF, if_neg (by omega), hs]
theorem toldF_one {R : Pl} {f k : Nat} {row : List Sh} (h : row.length ≤ 1) : toldF R (f + 1) k row = row.headD .o := by
  rw [toldF, if_pos h]
theorem c_l_told (D : DefAt K mg "_law_told" s_l_told) (T : Txt K mg CP CR E) (c_l_stage : Cal P w K mg base "_law_stage" 1 ["_law_world", "_law_k"] (spLStage CP)) (c_l_pressed : Cal P w K mg base "_law_pressed" 123 ["_law_table_here", "_law_row"] spPressed)
    (c_l_filled : Cal P w K mg base "_law_filled" 122 ["_law_form", "_law_lumps_here"] (spFill 61)) (c_l_comb : Cal P w K mg base "_law_comb" 1 ["_law_n", "_law_side"] spLComb) : Cal P w K mg base "_law_told" 124 ["_law_world", "_law_n"] (spTold CP) := by
  refine cal_of D sc_l_told (fun _ _ _ _ _ _ us hl => match us, hl with | [_, _], _ => rfl) (fun vs H Q E' h => ?_) (fun f cdv A outer s H vs Q E' hr h => ?_)
  · obtain ⟨v, R, n, rfl, _⟩ := h
    rfl
  obtain ⟨v, R, n, rfl, g, wv, pb, hn1, hn, q⟩ := h
  have hu : (A.deeper (envOfC "_law_told" (L2.defScope s_l_told) s.heap.objs.size f cdv)).units + 1 < cLine := by
    have := hr.un
    omega
  rw [← told_shape pb.ok hn1] at q
  refine ⟨_, (pss_cons (ps_par (i := 2) (j := 3) (by rfl) sc_l_told.nd rfl rfl (by decide) rfl rfl (pa_cons (pe_op op_rep (pe_lst (pa_cons (pe_tup pa_nil) pa_nil)) (pv 1)) (pa_cons pe_int pa_nil)) (by rfl)) (pss_cons (ps_while PassesOwn.never (PW.pt (pw_and (pt_cmpR op_gtN (pe_callB call_len_seq (by rfl) T.len_ PySem.boot_len (pa_cons (pv 2) pa_nil)) pe_int (nomark _)) (pw_and1 (pt_cmpR op_notN (pe_cal c_l_stage hr (pa_cons (pv 0) (pa_cons (pv 3) pa_nil))) pe_non (nomark _))))) (pss_one (ps_par (i := 2) (j := 3) (by rfl) sc_l_told.nd rfl rfl (by decide) rfl rfl (pa_cons (pe_cal c_l_pressed hr (pa_cons (pe_cal c_l_stage hr (pa_cons (pv 0) (pa_cons (pv 3) pa_nil))) (pa_cons (pv 2) pa_nil))) (pa_cons (pe_op op_addN (pv 3) pe_int) pa_nil)) (by rfl)))) (pss_one (ps_ret (pe_ifExp (pt_cmpR op_gtN (pe_callB call_len_seq (by rfl) T.len_ PySem.boot_len (pa_cons (pv 2) pa_nil)) pe_int (nomark _)) (pe_cal c_l_filled hr (pa_cons (pe_cal c_l_comb hr (pa_cons (pe_callB call_len_seq (by rfl) T.len_ PySem.boot_len (pa_cons (pv 2) pa_nil)) (pa_cons (pe_dget hu (pv 0) pe_str (fun _ _ => rfl)) pa_nil))) (pa_cons (pv 2) pa_nil))) (pe_ix ix_list (pv 2) pe_int (fun _ _ => rfl))))))), ?_⟩
  refine ⟨(by show 0 ≤ sizeLine; decide), fun p0 hp0 => ⟨(by show 1 ≤ sizeLine; decide), fun p1 hp1 => ?_⟩⟩
  have s0 := same_new (o := .tup []) hp0
  have s1 := same_new (o := .lst [.ref p0]) hp1
  refine ⟨_, rfl, p1, _, _, rfl, rfl, upd_same, by omega, by omega, by show 1 * _ ≤ sizeLine; rw [Int.toNat_natCast]; exact small (by omega), fun p2 hp2 => ?_⟩
  rw [Int.toNat_natCast, flat_rep]
  have s2 := same_new (o := .lst (List.replicate n (.ref p0))) hp2
  have sm2 := Same.trans (Same.trans s0 s1) s2
  have g2 := ((g.tup hp0).lst hp1 (xs := [.ref p0])).lst hp2 (xs := List.replicate n (.ref p0))
  refine ⟨_, _, rfl, ?_⟩
  refine ⟨fun m σ H' => ∃ (k : Nat) (rl : Addr) (rs : List V) (ss : List Sh), σ = [some v, some (vi n), some (.ref rl), some (vi k)] ∧ Good H' ∧ Same H H' ∧ H' rl = some (.lst rs) ∧ Paired (ShV H') rs ss ∧ toldF R n 0 (List.replicate n .o) = toldF R m k ss ∧ 1 ≤ ss.length ∧ ss.length ≤ m ∧ ss.length ≤ n,
    ⟨n, 0, p2, _, List.replicate n .o, rfl, g2, sm2, upd_same, rep_paired ⟨p0, rfl, s2 _ _ (s1 _ _ upd_same)⟩ _, rfl, by rw [List.length_replicate]; exact hn1, by rw [List.length_replicate]; exact Nat.le_refl _, by rw [List.length_replicate]; exact Nat.le_refl _⟩, ?_⟩
  rintro m σ H' ⟨k, rl, rs, ss, rfl, g', sm, hrl, hp, he, l1, l2, l3⟩
  obtain ⟨m, rfl⟩ : ∃ z, m = z + 1 := ⟨m - 1, by omega⟩
  have hlen := hp.length
  rw [he] at q
  refine ⟨_, rfl, rl, _, rfl, .inl (SqL.of hrl), _, 1, rfl, rfl, _, rfl, ?_⟩
  by_cases c : 1 < rs.length
  · have c' : 1 < ss.length := by omega
    rw [decide_eq_true c]
    refine iteT ?_
    refine ⟨_, rfl, _, rfl, v, R, k, rfl, g', wv.mono sm, pb, fun r H1 s1 g1 hr1 => ⟨rfl, _, rfl, ?_⟩⟩
    have smA := Same.trans sm s1
    have hrlA := s1 _ _ hrl
    have hpA := Paired.imp (fun _ _ z => ShV.mono (TM.of s1) z) hp
    cases hs : R.stage k with
    | none =>
      rw [hs] at hr1
      cases hr1
      refine iteF ?_
      rw [toldF_end c' hs] at q
      obtain ⟨wd, tv, ev, pv_, rfl, W⟩ := wv.mono smA
      have es := EnV.strL W.e (pb.ok.nost hs).2
      refine ⟨_, rfl, rl, _, rfl, .inl (SqL.of hrlA), _, 1, rfl, rfl, _, rfl, ?_⟩
      rw [decide_eq_true c]
      refine iteT ?_
      refine ⟨_, rfl, rl, _, rfl, .inl (SqL.of hrlA), _, rfl, wd, ev, rfl, W.dget (wdK_e ..), R.isLeft, ss.length, by rw [es, hlen]; rfl, g1, by omega, fun cv H3 s3 g3 hcv => ?_⟩
      have hsz := comb_sz R.isLeft (m := ss.length) l1
      have hdp := (comb R.isLeft ss.length).dp_lt
      refine ⟨_, rfl, cv, comb R.isLeft ss.length, rl, rs, ss, rfl, g3, hcv, by omega, by omega, s3 _ _ hrlA, Paired.imp (fun _ _ z => ShV.mono (TM.of s3) z) hpA, hsz.symm, fun fv H4 s4 g4 hfv => ?_⟩
      have smB := Same.trans (Same.trans smA s3) s4
      exact fin1 g4 smB (q fv H4 smB g4 hfv)
    | some t =>
      rw [hs] at hr1
      obtain ⟨ta, txs, rfl, _⟩ := id hr1
      have tb := pb.stage hs
      refine iteT ?_
      refine ⟨Below _ _, below, ?_⟩
      refine ⟨_, rfl, _, rfl, v, R, k, rfl, g1, wv.mono smA, pb, fun r2 H2 s2 g2 hr2 => ?_⟩
      rw [hs] at hr2
      refine ⟨_, rfl, r2, t, rl, rs, ss, rfl, g2, hr2, tb, s2 _ _ hrlA, Paired.imp (fun _ _ z => ShV.mono (TM.of s2) z) hpA, by omega, fun p3 ys H3 s3 g3 hf3 hp3 hpy => ?_⟩
      refine ⟨_, rfl, _, 1, rfl, rfl, _, _, rfl, ?_⟩
      have z1 := cd_pos ss.length (bs t) tb.ok.two l1
      have z2 := cd_lt ss.length (bs t) tb.ok.two c'
      refine ⟨m, Nat.lt_succ_self m, k + 1, p3, ys, prs t ss, rfl, g3, Same.trans (Same.trans smA s2) s3, hp3, hpy, ?_, by rw [prs_len]; exact z1, by rw [prs_len]; omega, by rw [prs_len]; omega⟩
      rw [he, toldF_step c' hs]
  · rw [decide_eq_false c]
    refine iteF ?_
    refine iteF ?_
    refine ⟨_, rfl, rl, _, rfl, .inl (SqL.of hrl), _, 1, rfl, rfl, _, rfl, ?_⟩
    rw [decide_eq_false c]
    refine iteF ?_
    rw [toldF_one (by omega)] at q
    match ss, hp, l1, l2, l3, hlen, q with
    | [s0], .cons h0 .nil, _, _, _, _, q => exact ⟨_, rfl, rl, _, 0, _, rfl, rfl, SqL.of hrl, rfl, fin1 g' sm (q _ H' sm g' h0)⟩
    | s0 :: s1 :: r, hp, _, _, _, hlen, _ => exact absurd (show 1 < rs.length by rw [hlen]; exact Nat.succ_lt_succ (Nat.zero_lt_succ _)) c
end
end KL

namespace KL
open PySem PySem.Spec L2
open PyProof.Rows hiding St
theorem seq_nat {k n : Nat} (h : k < n) : seqIndex? (k : Int) n = some k := by
  unfold seqIndex?
  rw [if_neg (show ¬ (k : Int) < 0 by omega)]
  have e : (decide (0 ≤ (k : Int)) && decide ((k : Int) < (n : Int))) = true := by
    rw [decide_eq_true (show (0 : Int) ≤ (k : Int) by omega), decide_eq_true (show (k : Int) < (n : Int) by omega)]
    rfl
  rw [if_pos e, Int.toNat_natCast]
theorem Kn.same {CP : Addr} {H H' : Hp} {v : V} (s : Same H H') (h : Kn CP H v) : Kn CP H' v := by
  cases h with
  | non => exact .non
  | bl b => exact .bl b
  | int i => exact .int i
  | str x => exact .str x
  | lst h => exact .lst (s _ _ h)
  | tup h => exact .tup (s _ _ h)
  | dK h => exact .dK (s _ _ h)
  | pl h => exact .pl (s _ _ h)
theorem Kn.drw {CP : Addr} {d c : Addr} {H H' : Hp} {v : V} (src : Src H d c) (dr : Drw d c H H') (h : Kn CP H v) : Kn CP H' v := by
  have key : ∀ (a : Addr) (o : HO), H a = some o → (H' a = some o) ∨ ∃ xs, H' a = some (.lst xs) ∨ ∃ ks, H' a = some (.dK ks) := fun a o e => by
    obtain ⟨l, m, t, xs, h1, h2⟩ := dr.s
    by_cases e1 : a = d
    · exact .inr ⟨[], .inr ⟨_, by rw [e1]; exact h1⟩⟩
    · by_cases e2 : a = c
      · exact .inr ⟨_, .inl (by rw [e2]; exact h2)⟩
      · exact .inl (dr.k a o e e1 e2)
  cases h with
  | non => exact .non
  | bl b => exact .bl b
  | int i => exact .int i
  | str x => exact .str x
  | lst h =>
    rcases key _ _ h with h | ⟨xs, h | ⟨ks, h⟩⟩
    · exact .lst h
    · exact .lst h
    · exact .dK h
  | tup h =>
    rcases key _ _ h with h | ⟨xs, h | ⟨ks, h⟩⟩
    · exact .tup h
    · exact .lst h
    · exact .dK h
  | dK h =>
    rcases key _ _ h with h | ⟨xs, h | ⟨ks, h⟩⟩
    · exact .dK h
    · exact .lst h
    · exact .dK h
  | pl h =>
    rcases key _ _ h with h | ⟨xs, h | ⟨ks, h⟩⟩
    · exact .pl h
    · exact .lst h
    · exact .dK h
/-! ### expressions of which only the kind is told -/
def KE (CP : Addr) (F : V → Prop) (te : TE) : Prop := ∀ (σ : St) (H : Hp) (Q : VK), Good H → (∀ x H', Same H H' → Good H' → Kn CP H' x → F x → Q x H') → te σ H Q
def KA (CP : Addr) (F : V → Prop) (n : Nat) (ta : TA) : Prop := ∀ (σ : St) (H : Hp) (Q : List V → Hp → Prop), Good H → (∀ xs H', Same H H' → Good H' → xs.length = n → (∀ x ∈ xs, Kn CP H' x ∧ F x) → Q xs H') → ta σ H Q
def AnyV : V → Prop := fun _ => True
def NoN : V → Prop := fun v => isN v = false
section
variable {CP : Addr} {F : V → Prop} {n : Nat} {te : TE} {ta : TA}
theorem KE.c {v : V} (h : ∀ H, Kn CP H v) (f : F v) : KE CP F (tC v) := fun σ H Q g q => q v H (Same.refl H) g (h H) f
theorem KA.nil : KA CP F 0 tNil := fun σ H Q g q => q [] H (Same.refl H) g rfl fun x h => nomatch h
theorem KA.cons (he : KE CP F te) (ha : KA CP F n ta) : KA CP F (n + 1) (tCons te ta) := fun σ H Q g q =>
  he σ H _ g fun x H1 s1 g1 k1 f1 => ha σ H1 _ g1 fun xs H2 s2 g2 hl hk => q (x :: xs) H2 (Same.trans s1 s2) g2 (by rw [List.length_cons, hl]) fun y hy => by
    rcases List.mem_cons.mp hy with rfl | hy
    · exact ⟨k1.same s2, f1⟩
    · exact hk y hy
theorem KE.tup (ha : KA CP AnyV n ta) (hn : n ≤ 100000) (f : ∀ a, F (.ref a)) : KE CP F (tTup ta) := fun σ H Q g q =>
  ha σ H _ g fun xs H1 s1 g1 hl _ => ⟨small (by omega), fun p hp => q (.ref p) _ (Same.trans s1 (same_new hp)) (g1.tup hp) (.tup upd_same) (f p)⟩
theorem KE.lst (ha : KA CP AnyV n ta) (hn : n ≤ 100000) (f : ∀ a, F (.ref a)) : KE CP F (tLst ta) := fun σ H Q g q =>
  ha σ H _ g fun xs H1 s1 g1 hl _ => ⟨small (by omega), fun p hp => q (.ref p) _ (Same.trans s1 (same_new hp)) (g1.lst hp) (.lst upd_same) (f p)⟩
theorem KE.dnew (f : ∀ a, F (.ref a)) : KE CP F tDNewK := fun σ H Q g q => fun p hp => q (.ref p) _ (same_new hp) (g.dK hp) (.dK upd_same) (f p)
theorem KE.d01 (f : ∀ a, F (.ref a)) : KE CP F (tDisp [(tC (.int 0), tC (.int 1))]) := fun σ H Q g q => fun p hp =>
  ⟨upd_same, [(.inl 0, .int 1)], rfl, by show 1 ≤ 15; decide, q (.ref p) _ (Same.upd (same_new hp) hp) ((g.dK hp (kvs := [])).dK' upd_same) (.dK upd_same) (f p)⟩
theorem KA.list (ha : KA CP F n ta) {σ : St} {H : Hp} {Q : VK} (g : Good H) (q : ∀ xs H' p, Same H H' → Good H' → xs.length = n → H p = none → H' p = some (.lst xs) → (∀ x ∈ xs, Kn CP H' x ∧ F x) → Q (.ref p) H') (hn : n ≤ 100000 := by decide) : tLst ta σ H Q :=
  ha σ H _ g fun xs H1 s1 g1 hl hk => ⟨small (by omega), fun p hp => q xs _ p (Same.trans s1 (same_new hp)) (g1.lst hp) hl (s1.free hp) upd_same fun x hx => ⟨(hk x hx).1.same (same_new hp), (hk x hx).2⟩⟩
theorem KE.plan {t2 : TA} (ht : t2 = tCons (tTup tNil) (tCons (tC (.str "left")) tNil)) (f : ∀ a, F (.ref a)) : KE CP F (tICal CP (spPI CP) t2) := by
  subst ht
  intro σ H Q g q
  refine ⟨(by show 0 ≤ sizeLine; decide), fun t ht x dx hx hdx hne => ?_⟩
  have s1 := same_new (o := .tup []) ht
  have g1 := g.tup ht (xs := [])
  have s2 : Same (upd H t (.tup [])) (upd (upd (upd H t (.tup [])) dx (.own x)) x (.ins CP dx [])) := Same.upd (same_new hdx) hx
  have s3 : Same (upd H t (.tup [])) (upd (upd (upd H t (.tup [])) dx (.own x)) x (.ins CP dx (plF (.ref t) (.str "left")))) := Same.upd (same_new hdx) hx
  refine ⟨x, dx, .ref t, .str "left", ⟨[], .left⟩, rfl, g1.made hx hdx hne, upd_same, ⟨t, [], rfl, s2 _ _ upd_same, .nil⟩, rfl, mkPlB (fun t h => nomatch h) (fun rs e => nomatch e), rfl, ?_⟩
  have g3 := (g1.made hx hdx hne (C := CP)).ins' (fs := plF (.ref t) (.str "left")) upd_same
  rw [upd_self] at g3 ⊢
  exact q (.ref x) _ (Same.trans s1 s3) g3 (.pl upd_same) (f x)
end
theorem anyR (a : Addr) : AnyV (.ref a) := trivial
theorem noR (a : Addr) : NoN (.ref a) := rfl
section
variable {P : Program} {w : World} {K : PySem.W.Frag} {mg : Str → Option Value} {base : Heap} {CP CR E : Addr}
def spOdd (CP : Addr) : Sp := fun vs H Q _ => ∃ d c, vs = [.ref d] ∧ Good H ∧ Src H d c ∧ ∀ x H', Drw d c H H' → Kn CP H' x → Q x H'
theorem c_l_odd (D : DefAt K mg "_law_odd" s_l_odd) (T : Txt K mg CP CR E) (c_l_of : Cal P w K mg base "_law_of" 2 ["_law_source_here", "_law_some"] spOf) : Cal P w K mg base "_law_odd" 3 ["_law_source_here"] (spOdd CP) := by
  refine cal_of D sc_l_odd (fun _ _ _ _ _ _ us hl => match us, hl with | [_], _ => rfl) (fun vs H Q E' h => ?_) (fun f cdv A outer s H vs Q E' hr h => ?_)
  · obtain ⟨d, c, rfl, _⟩ := h
    rfl
  obtain ⟨d, c, rfl, g, src, q⟩ := h
  refine ⟨_, (pss_cons (ps_set (i := 1) sc_l_odd.nd rfl (Or.inl rfl) (pe_lst (pa_cons pe_non (pa_cons pe_bl (pa_cons pe_bl (pa_cons (pe_un un_neg pe_int) (pa_cons pe_int (pa_cons (pe_op op_pow pe_int pe_int) (pa_cons pe_str (pa_cons pe_str (pa_cons pe_str (pa_cons (pe_tup pa_nil) (pa_cons (pe_lst pa_nil) (pa_cons pe_dnewK (pa_cons (pe_tup (pa_cons pe_non pa_nil)) (pa_cons (pe_lst (pa_cons (pe_tup pa_nil) pa_nil)) (pa_cons (pe_tup (pa_cons (pe_tup pa_nil) pa_nil)) (pa_cons (pe_tup (pa_cons (pe_tup pa_nil) (pa_cons (pe_tup pa_nil) pa_nil))) pa_nil)))))))))))))))))) (pss_one (ps_ret (pe_cal c_l_of hr (pa_cons (pv 0) (pa_cons (pe_op op_cat (pv 1) (pe_lst (pa_cons (pe_tup (pa_cons (pe_tup pa_nil) (pa_cons (pe_tup pa_nil) (pa_cons (pe_tup pa_nil) pa_nil)))) (pa_cons (pe_tup (pa_cons (pe_tup pa_nil) (pa_cons (pe_lst pa_nil) pa_nil))) (pa_cons (pe_tup (pa_cons pe_int (pa_cons pe_int pa_nil))) (pa_cons (pe_disp (pps_cons pe_int pe_int pps_nil) (by rfl) (by rfl) (fun z => by cases z) (by decide)) pa_nil)))))) pa_nil)))))), ?_⟩
  have kt0 : KE CP AnyV (tTup tNil) := KE.tup KA.nil (by decide) anyR
  have kn : KE CP AnyV (tUn (rU fun i => V.int (-i)) (tC (V.int 1))) := fun σ H Q g q => ⟨_, rfl, q _ H (Same.refl H) g (.int _) trivial⟩
  have kp : KE CP AnyV (tOp (rI CPow fun i j => V.int (i ^ j.toNat)) (tC (V.int 10)) (tC (V.int 30))) := fun σ H Q g q => ⟨10, 30, rfl, rfl, ⟨by decide, by decide, by decide⟩, q _ H (Same.refl H) g (.int _) trivial⟩
  have ka : KA CP AnyV 16 (tCons (tC V.non) (tCons (tC (V.bl true)) (tCons (tC (V.bl false)) (tCons (tUn (rU fun i => V.int (-i)) (tC (V.int 1))) (tCons (tC (V.int 7)) (tCons (tOp (rI CPow fun i j => V.int (i ^ j.toNat)) (tC (V.int 10)) (tC (V.int 30)))
      (tCons (tC (V.str "")) (tCons (tC (V.str "A")) (tCons (tC (V.str "left")) (tCons (tTup tNil) (tCons (tLst tNil) (tCons tDNewK (tCons (tTup (tCons (tC V.non) tNil)) (tCons (tLst (tCons (tTup tNil) tNil)) (tCons (tTup (tCons (tTup tNil) tNil))
      (tCons (tTup (tCons (tTup tNil) (tCons (tTup tNil) tNil))) tNil)))))))))))))))) :=
    KA.cons (KE.c (fun _ => .non) trivial) (KA.cons (KE.c (fun _ => .bl _) trivial) (KA.cons (KE.c (fun _ => .bl _) trivial) (KA.cons kn (KA.cons (KE.c (fun _ => .int _) trivial) (KA.cons kp (KA.cons (KE.c (fun _ => .str _) trivial) (KA.cons (KE.c (fun _ => .str _) trivial) (KA.cons (KE.c (fun _ => .str _) trivial)
      (KA.cons kt0 (KA.cons (KE.lst KA.nil (by decide) anyR) (KA.cons (KE.dnew anyR) (KA.cons (KE.tup (KA.cons (KE.c (fun _ => .non) trivial) KA.nil) (by decide) anyR) (KA.cons (KE.lst (KA.cons kt0 KA.nil) (by decide) anyR) (KA.cons (KE.tup (KA.cons kt0 KA.nil) (by decide) anyR) (KA.cons (KE.tup (KA.cons kt0 (KA.cons kt0 KA.nil)) (by decide) anyR) KA.nil)))))))))))))))
  have kb : KA CP AnyV 4 (tCons (tTup (tCons (tTup tNil) (tCons (tTup tNil) (tCons (tTup tNil) tNil)))) (tCons (tTup (tCons (tTup tNil) (tCons (tLst tNil) tNil))) (tCons (tTup (tCons (tC (V.int 0)) (tCons (tC (V.int 1)) tNil))) (tCons (tDisp [(tC (V.int 0), tC (V.int 1))]) tNil)))) :=
    KA.cons (KE.tup (KA.cons kt0 (KA.cons kt0 (KA.cons kt0 KA.nil))) (by decide) anyR) (KA.cons (KE.tup (KA.cons kt0 (KA.cons (KE.lst KA.nil (by decide) anyR) KA.nil)) (by decide) anyR) (KA.cons (KE.tup (KA.cons (KE.c (fun _ => .int _) trivial) (KA.cons (KE.c (fun _ => .int _) trivial) KA.nil)) (by decide) anyR) (KA.cons (KE.d01 anyR) KA.nil)))
  unfold tSeq tAsg
  refine ka.list g fun xs H1 L1 s1 g1 hl hL1 e1 hk => ?_
  refine ⟨_, rfl, _, rfl, ?_⟩
  dsimp only
  refine kb.list g1 fun ys H2 L2 s2 g2 hl2 hL2 e2 hk2 => ?_
  refine ⟨L1, L2, xs, ys, rfl, rfl, s2 _ _ e1, e2, small (by omega), fun L3 hL3 => ?_⟩
  have sL3 := same_new (o := .lst (xs ++ ys)) hL3
  have gL3 := g2.lst hL3 (xs := xs ++ ys)
  have ss := Same.trans (Same.trans s1 s2) sL3
  have src3 := src.mono ss
  refine ⟨d, c, L3, xs ++ ys, rfl, gL3, src3, upd_same, (src.ne (Same.free (Same.trans s1 s2) hL3)).2, by rw [List.length_append]; omega, by rw [List.length_append]; omega, fun x H4 hx dr => ?_⟩
  have dr4 := (Drw.of src gL3 ss).trans dr
  refine fin2 dr.g dr4.dom (q x H4 dr4 ?_)
  rcases List.mem_append.mp hx with hx | hx
  · exact ((hk x hx).1.same (Same.trans s2 sL3)).drw src3 dr
  · exact ((hk2 x hx).1.same sL3).drw src3 dr
end
end KL

namespace KL
open PySem PySem.Spec L2
open PyProof.Rows hiding St
section
variable {P : Program} {w : World} {K : PySem.W.Frag} {mg : Str → Option Value} {base : Heap} {CP CR E : Addr}
def spStrange (CP : Addr) : Sp := fun vs H Q _ => ∃ d c, vs = [.ref d] ∧ Good H ∧ Src H d c ∧ ∀ p ys H', Drw d c H H' → H p = none → H' p = some (.lst ys) → (∀ y ∈ ys, Kn CP H' y ∧ NoN y) → Q (.ref p) H'
theorem c_l_strange (D : DefAt K mg "_law_strange" s_l_strange) (T : Txt K mg CP CR E) (c_l_of : Cal P w K mg base "_law_of" 2 ["_law_source_here", "_law_some"] spOf) (i_Plan : ICal P w K mg base CP "Plan" 16 ["self", "tables", "end"] (spPI CP)) : Cal P w K mg base "_law_strange" 18 ["_law_source_here"] (spStrange CP) := by
  refine cal_of D sc_l_strange (fun _ _ _ _ _ _ us hl => match us, hl with | [_], _ => rfl) (fun vs H Q E' h => ?_) (fun f cdv A outer s H vs Q E' hr h => ?_)
  · obtain ⟨d, c, rfl, _⟩ := h
    rfl
  obtain ⟨d, c, rfl, g, src, q⟩ := h
  refine ⟨_, (pss_cons (ps_set (i := 1) sc_l_strange.nd rfl (Or.inl rfl) (pe_lst (pa_cons pe_non (pa_cons pe_str (pa_cons pe_str (pa_cons (pe_lst (pa_cons pe_int pa_nil)) (pa_cons (pe_tup (pa_cons pe_int pa_nil)) (pa_cons pe_dnewK (pa_cons pe_bl (pa_cons pe_bl (pa_cons (pe_tup (pa_cons pe_int (pa_cons pe_int pa_nil))) (pa_cons (pe_lst (pa_cons pe_non pa_nil)) (pa_cons (pe_ical i_Plan hr (pa_cons (pe_tup pa_nil) (pa_cons pe_str pa_nil))) (pa_cons (pe_tup (pa_cons (pe_ical i_Plan hr (pa_cons (pe_tup pa_nil) (pa_cons pe_str pa_nil))) pa_nil)) pa_nil)))))))))))))) (pss_one (ps_ret (pe_op op_cat (pv 1) (pe_lst (pa_cons (pe_cal c_l_of hr (pa_cons (pv 0) (pa_cons (pe_lst (pa_cons pe_str (pa_cons (pe_tup pa_nil) (pa_cons (pe_lst (pa_cons (pe_tup pa_nil) pa_nil)) (pa_cons (pe_disp (pps_cons pe_int pe_int pps_nil) (by rfl) (by rfl) (fun z => by cases z) (by decide)) pa_nil))))) pa_nil))) pa_nil)))))), ?_⟩
  have kt0 : KE CP AnyV (tTup tNil) := KE.tup KA.nil (by decide) anyR
  have ka : KA CP NoN 12 (tCons (tC V.non) (tCons (tC (V.str "3")) (tCons (tC (V.str "")) (tCons (tLst (tCons (tC (V.int 0)) tNil)) (tCons (tTup (tCons (tC (V.int 0)) tNil)) (tCons tDNewK (tCons (tC (V.bl true)) (tCons (tC (V.bl false)) (tCons (tTup (tCons (tC (V.int 0)) (tCons (tC (V.int 1)) tNil))) (tCons (tLst (tCons (tC V.non) tNil))
      (tCons (tICal CP (spPI CP) (tCons (tTup tNil) (tCons (tC (V.str "left")) tNil))) (tCons (tTup (tCons (tICal CP (spPI CP) (tCons (tTup tNil) (tCons (tC (V.str "left")) tNil))) tNil)) tNil)))))))))))) :=
    KA.cons (KE.c (fun _ => .non) rfl) (KA.cons (KE.c (fun _ => .str _) rfl) (KA.cons (KE.c (fun _ => .str _) rfl) (KA.cons (KE.lst (KA.cons (KE.c (fun _ => .int _) trivial) KA.nil) (by decide) noR) (KA.cons (KE.tup (KA.cons (KE.c (fun _ => .int _) trivial) KA.nil) (by decide) noR) (KA.cons (KE.dnew noR) (KA.cons (KE.c (fun _ => .bl _) rfl) (KA.cons (KE.c (fun _ => .bl _) rfl)
      (KA.cons (KE.tup (KA.cons (KE.c (fun _ => .int _) trivial) (KA.cons (KE.c (fun _ => .int _) trivial) KA.nil)) (by decide) noR) (KA.cons (KE.lst (KA.cons (KE.c (fun _ => .non) trivial) KA.nil) (by decide) noR) (KA.cons (KE.plan rfl noR) (KA.cons (KE.tup (KA.cons (KE.plan rfl anyR) KA.nil) (by decide) noR) KA.nil)))))))))))
  have kb : KA CP NoN 4 (tCons (tC (V.str "left")) (tCons (tTup tNil) (tCons (tLst (tCons (tTup tNil) tNil)) (tCons (tDisp [(tC (V.int 0), tC (V.int 1))]) tNil)))) :=
    KA.cons (KE.c (fun _ => .str _) rfl) (KA.cons (KE.tup KA.nil (by decide) noR) (KA.cons (KE.lst (KA.cons kt0 KA.nil) (by decide) noR) (KA.cons (KE.d01 noR) KA.nil)))
  unfold tSeq tAsg
  refine ka.list g fun xs H1 L1 s1 g1 hl hL1 e1 hk => ?_
  refine ⟨_, rfl, _, rfl, ?_⟩
  dsimp only
  refine kb.list g1 fun ys H2 L2 s2 g2 hl2 hL2 e2 hk2 => ?_
  have s12 := Same.trans s1 s2
  have src2 := src.mono s12
  refine ⟨d, c, L2, ys, rfl, g2, src2, e2, (src.ne (s1.free hL2)).2, by omega, by omega, fun x H3 hx dr3 => ⟨(by show 1 ≤ sizeLine; decide), fun L3 hL3 => ?_⟩⟩
  have e13 := dr3.lst src2 (s2 _ _ e1) (src.ne hL1).2
  have sL3 := same_new (o := .lst [x]) hL3
  have gL3 := dr3.g.lst hL3 (xs := [x])
  refine ⟨L1, L3, xs, [x], rfl, rfl, sL3 _ _ e13, upd_same, small (by rw [hl]; show 12 + 1 ≤ 100000; decide), fun p hp => ?_⟩
  have sp := same_new (o := .lst (xs ++ [x])) hp
  have gp := gL3.lst hp (xs := xs ++ [x])
  have ss := Same.trans sL3 sp
  have dr := ((Drw.of src g2 s12).trans dr3).same gp ss
  have fr : H p = none := by
    have h1 : H3 p = none := sL3.free hp
    exact s12.free (dr3.dom _ h1)
  refine fin2 gp dr.dom (q p _ _ dr fr upd_same fun y hy => ?_)
  rcases List.mem_append.mp hy with hy | hy
  · exact ⟨(((hk y hy).1.same s2).drw src2 dr3).same ss, (hk y hy).2⟩
  · rw [List.mem_singleton.mp hy]
    exact ⟨((hk2 x hx).1.drw src2 dr3).same ss, (hk2 x hx).2⟩
/-! ### things in another order -/
def spMixed : Sp := fun vs H Q _ => ∃ d c l xs, vs = [.ref d, .ref l] ∧ Good H ∧ Src H d c ∧ H l = some (.lst xs) ∧ xs.length ≤ 1000 ∧ ∀ p ys H', Drw d c H H' → H p = none → H' p = some (.lst ys) → (∀ y ∈ ys, y ∈ xs) → Q (.ref p) H'
theorem c_l_mixed (D : DefAt K mg "_law_mixed" s_l_mixed) (T : Txt K mg CP CR E) (c_l_pick : Cal P w K mg base "_law_pick" 1 ["_law_source_here", "_law_many"] spPick) : Cal P w K mg base "_law_mixed" 2 ["_law_source_here", "_law_things"] spMixed := by
  refine cal_of D sc_l_mixed (fun _ _ _ _ _ _ us hl => match us, hl with | [_, _], _ => rfl) (fun vs H Q E' h => ?_) (fun f cdv A outer s H vs Q E' hr h => ?_)
  · obtain ⟨d, c, l, xs, rfl, _⟩ := h
    rfl
  obtain ⟨d, c, l, xs, rfl, g, src, hl, hlen, q⟩ := h
  refine ⟨_, (pss_cons (ps_set (i := 2) sc_l_mixed.nd rfl (Or.inr rfl) (pe_callTy call_list_of (by rfl) T.list_ (by decide +kernel) (pa_cons (pv 1) pa_nil))) (pss_one (ps_ret (pe_lc (g := (gName 3)) (te := tBM K "list" rPopAt (tVar 2) (tCons (tCal spPick (tCons (tVar 0) (tCons (tCB (fun xs H Q => ∃ p ys, xs = [.ref p] ∧ (SqL K H p ys ∨ SqT K H p ys) ∧ Q (.int ys.length) H) (tCons (tVar 2) tNil)) tNil))) tNil)) (own := [("_law_lap", 3)]) rfl sc_l_mixed.nd (pi_range1 (by rfl) T.range_ (pa_cons (pe_callB call_len_seq (by rfl) T.len_ PySem.boot_len (pa_cons (pv 2) pa_nil)) pa_nil)) (blkOk_by (own := [("_law_lap", 3)]) (N := n_l_mixed) (sc := L2.defScope s_l_mixed) (by decide +kernel)) (fun _ _ _ _ _ => (pg_name (i := 3) sc_l_mixed.nd rfl (Or.inl rfl))) (fun _ _ _ _ _ => pts_nil) (fun _ _ _ _ _ => (pe_bm PySem.F.plainAttrs_list PySem.F.slot_list_pop PySem.F.type_list_pop mt_popAt (pv 2) (pa_cons (pe_cal c_l_pick hr (pa_cons (pv 0) (pa_cons (pe_callB call_len_seq (by rfl) T.len_ PySem.boot_len (pa_cons (pv 2) pa_nil)) pa_nil))) pa_nil))))))), ?_⟩
  refine ⟨_, rfl, l, xs, rfl, .inl (SqL.of hl), fun r hr0 => ?_⟩
  have s1 := same_new (o := .lst xs) hr0
  refine ⟨_, rfl, r, xs, rfl, .inl (SqL.of upd_same), _, rfl, by omega, by omega, fun L hL => ?_⟩
  have hL0 : H L = none := s1.free hL
  have rL : r ≠ L := ne_of_none upd_same hL
  rw [Int.toNat_natCast]
  refine lc_range (lo := 0) (n := xs.length) (fun i H2 => Drw d c H H2 ∧ ∃ zs ys, H2 r = some (.lst zs) ∧ H2 L = some (.lst ys) ∧ zs.length + i = xs.length ∧ ys.length = i ∧ (∀ z ∈ zs, z ∈ xs) ∧ ∀ y ∈ ys, y ∈ xs) ⟨Drw.of src ((g.lst hr0).lst hL) (Same.trans s1 (same_new hL)), xs, [], by rw [upd_ne rL, upd_same], upd_same, by omega, rfl, fun z h => h, fun y h => nomatch h⟩ ?_ ?_
  · rintro i H2 hi ⟨dr, zs, ys, hz, hy, hzl, hyl, hzm, hym⟩
    refine ⟨rfl, tyes ?_⟩
    refine ⟨_, rfl, .inl ⟨rfl, _, SqL.of hz⟩, _, rfl, _, rfl, r, zs, rfl, .inl (SqL.of hz), d, c, zs.length, rfl, dr.g, dr.s, by omega, fun k H3 dr3 hk => ?_⟩
    have hk' : k < zs.length := by omega
    have hz3 := dr3.lst dr.s hz (src.ne hr0).2
    have hy3 := dr3.lst dr.s hy (src.ne hL0).2
    obtain ⟨x, hx, hxm⟩ := mem_at hk'
    refine ⟨r, zs, _, k, x, rfl, rfl, hz3, by omega, by omega, seq_nat hk', hx, ?_⟩
    have drA := Drw.grow (ys := zs.eraseIdx k) src (dr.trans dr3) hr0 hz3
    have hyA : (upd H3 r (.lst (zs.eraseIdx k))) L = some (.lst ys) := by
      rw [upd_ne (Ne.symm rL)]
      exact hy3
    have drB := Drw.grow (ys := ys ++ [x]) src drA hL0 hyA
    refine ⟨ys, hyA, small1000 (by omega), drB, zs.eraseIdx k, ys ++ [x], ?_, upd_same, ?_, by rw [List.length_append]; simp [hyl], fun z hz => hzm z (List.mem_of_mem_eraseIdx hz), fun y hy => ?_⟩
    · rw [upd_ne rL, upd_same]
    · rw [List.length_eraseIdx, if_pos hk']
      omega
    · rcases List.mem_append.mp hy with hy | hy
      · exact hym y hy
      · rw [List.mem_singleton.mp hy]
        exact hzm x hxm
  · rintro H2 ⟨dr, zs, ys, hz, hy, hzl, hyl, hzm, hym⟩
    exact fin2 dr.g dr.dom (q L ys H2 dr hL0 hy hym)
/-! ### what crosses -/
def spCrosses : Sp := fun vs H Q _ => ∃ v1 v2, ∃ a b : Nat × Nat, vs = [v1, v2] ∧ Good H ∧ PrV H v1 a ∧ PrV H v2 b ∧ max a.1 b.1 < min a.2 b.2 ∧ (max a.1 b.1, min a.2 b.2) ≠ a ∧ (max a.1 b.1, min a.2 b.2) ≠ b ∧ Q (.bl true) H
theorem c_l_crosses (D : DefAt K mg "_law_crosses" s_l_crosses) (T : Txt K mg CP CR E) : Cal P w K mg base "_law_crosses" 1 ["_law_one", "_law_other"] spCrosses := by
  refine cal_of D sc_l_crosses (fun _ _ _ _ _ _ us hl => match us, hl with | [_, _], _ => rfl) (fun vs H Q E' h => ?_) (fun f cdv A outer s H vs Q E' hr h => ?_)
  · obtain ⟨v1, v2, a, b, rfl, _⟩ := h
    rfl
  obtain ⟨v1, v2, a, b, rfl, g, ⟨ta, rfl, hta⟩, ⟨tb, rfl, htb⟩, h1, h2, h3, q⟩ := h
  have hu : (A.deeper (envOfC "_law_crosses" (L2.defScope s_l_crosses) s.heap.objs.size f cdv)).units + 65 < cLine := by
    have := hr.un
    omega
  refine ⟨_, (pss_cons (ps_par (i := 2) (j := 3) (by rfl) sc_l_crosses.nd rfl rfl (by decide) rfl rfl (pa_cons (pe_callB (call_max2N rfl) (by rfl) T.max_ (by decide +kernel) (pa_cons (pe_ix ix_tup (pv 0) pe_int (fun _ _ => rfl)) (pa_cons (pe_ix ix_tup (pv 1) pe_int (fun _ _ => rfl)) pa_nil))) (pa_cons (pe_callB (call_min2N rfl) (by rfl) T.min_ (by decide +kernel) (pa_cons (pe_ix ix_tup (pv 0) pe_int (fun _ _ => rfl)) (pa_cons (pe_ix ix_tup (pv 1) pe_int (fun _ _ => rfl)) pa_nil))) pa_nil)) (by rfl)) (pss_one (ps_ret (pe_and (pe_cmpR op_ltN (pv 2) (pv 3) (nomark _)) (pe_one (pe_cmpR (op_notInT hu) (pe_tup (pa_cons (pv 2) (pa_cons (pv 3) pa_nil))) (pe_tup (pa_cons (pv 0) (pa_cons (pv 1) pa_nil))) (by rfl))))))), ?_⟩
  refine ⟨_, rfl, ta, _, 0, _, rfl, rfl, SqT.of hta, rfl, _, rfl, tb, _, 0, _, rfl, rfl, SqT.of htb, rfl, _, _, rfl, _, rfl, ta, _, 1, _, rfl, rfl, SqT.of hta, rfl, _, rfl, tb, _, 1, _, rfl, rfl, SqT.of htb, rfl, _, _, rfl, _, _, rfl, ?_⟩
  refine ⟨_, rfl, _, rfl, _, _, rfl, rfl, _, rfl, ?_⟩
  rw [decide_eq_true h1]
  refine iteT ?_
  refine ⟨_, rfl, _, rfl, (by show 2 ≤ sizeLine; decide), fun p hp => ?_⟩
  have s1 := same_new (o := .tup [vi (max a.1 b.1), vi (min a.2 b.2)]) hp
  refine ⟨_, rfl, _, rfl, (by show 2 ≤ sizeLine; decide), fun p2 hp2 => ?_⟩
  have s2 := same_new (o := .tup [V.ref ta, .ref tb]) hp2
  have s12 := Same.trans s1 s2
  refine ⟨prD' (max a.1 b.1, min a.2 b.2), [a, b].map prD', .tup (SqT.of (s2 _ _ upd_same)) (.cons (.int _) (.cons (.int _) .nil)), .tup (SqT.of upd_same) (PrVs.dat (.cons ⟨ta, rfl, s12 _ _ hta⟩ (.cons ⟨tb, rfl, s12 _ _ htb⟩ .nil))), prD'_sh1 _, ?_, ?_⟩
  · exact shaped_of (prD'_lay [a, b]) (by
      have := prD'_dp [a, b]
      show PyData.depthAll ([a, b].map prD') + 1 ≤ 64
      omega)
  · rw [prs_in]
    have e : decide ((max a.1 b.1, min a.2 b.2) ∈ [a, b]) = false := by
      refine decide_eq_false fun h => ?_
      rcases List.mem_cons.mp h with h | h
      · exact h2 h
      · exact h3 (List.mem_singleton.mp h)
    rw [e]
    exact fin0 g s12 q
end
end KL

namespace KL
open PySem PySem.Spec L2
open PyProof.Rows hiding St
/-- whether two whole numbers are a lump of n -/
def inL (R : Pl) (n : Nat) (i j : Int) : Bool := decide (0 ≤ i ∧ 0 ≤ j ∧ (i.toNat, j.toNat) ∈ Sh.lumps (shape R n) 0)
def prI (i j : Int) : PyData := .tuple [.int i, .int j]
theorem prI_eqv (a : Nat × Nat) (i j : Int) : PyData.eqv (prD' a) (prI i j) = decide (0 ≤ i ∧ 0 ≤ j ∧ (i.toNat, j.toNat) = a) := by
  have e : PyData.eqv (prD' a) (prI i j) = (((a.1 : Int) == i) && (((a.2 : Int) == j) && true)) := by simp only [prD', prI, PyData.eqv, PyData.eqvAll]
  rw [e, Bool.and_true]
  obtain ⟨a1, a2⟩ := a
  rw [Bool.eq_iff_iff, Bool.and_eq_true, beq_iff_eq, beq_iff_eq, decide_eq_true_iff]
  constructor
  · rintro ⟨rfl, rfl⟩
    exact ⟨Int.natCast_nonneg _, Int.natCast_nonneg _, rfl⟩
  · rintro ⟨h1, h2, h3⟩
    injection h3 with h3 h4
    subst h3 h4
    exact ⟨Int.toNat_of_nonneg h1, Int.toNat_of_nonneg h2⟩
theorem prI_in (i j : Int) : ∀ st : List (Nat × Nat), ((st.map prD').any fun z => PyData.eqv z (prI i j)) = decide (0 ≤ i ∧ 0 ≤ j ∧ (i.toNat, j.toNat) ∈ st)
  | [] => by
    rw [decide_eq_false fun h => nomatch h.2.2]
    rfl
  | p :: r => by
    rw [List.map_cons, List.any_cons, prI_in i j r, prI_eqv, Bool.eq_iff_iff, Bool.or_eq_true, decide_eq_true_iff, decide_eq_true_iff, decide_eq_true_iff, List.mem_cons]
    constructor
    · rintro (⟨h1, h2, h3⟩ | ⟨h1, h2, h3⟩)
      · exact ⟨h1, h2, .inl h3⟩
      · exact ⟨h1, h2, .inr h3⟩
    · rintro ⟨h1, h2, h3 | h3⟩
      · exact .inl ⟨h1, h2, h3⟩
      · exact .inr ⟨h1, h2, h3⟩
theorem prI_sh (i j : Int) : SeqAt.shaped (prI i j) = true := shaped_of rfl (by show 1 ≤ 64; decide)
theorem lump_lt {R : Pl} (pb : PlB R) {n i j : Nat} (hn : 1 ≤ n) (h : (i, j) ∈ Sh.lumps (shape R n) 0) : i < j ∧ j ≤ n := by
  have h1 := ((Sh.mem_lumps _ _ _ _).mp h).2
  rw [Nat.sub_zero, Nat.sub_zero] at h1
  have h2 := Sh.isL_lt _ h1
  rw [shape_sz pb.ok hn] at h2
  exact h2
theorem inL_nat {R : Pl} (pb : PlB R) {n : Nat} (hn : 1 ≤ n) (i j : Nat) : (decide (i < j) && (decide (j ≤ n) && alr R n 0 n i j)) = inL R n (i : Int) (j : Int) := by
  unfold inL
  rw [Int.toNat_natCast, Int.toNat_natCast, Bool.eq_iff_iff, Bool.and_eq_true, Bool.and_eq_true, decide_eq_true_iff, decide_eq_true_iff, decide_eq_true_iff]
  constructor
  · rintro ⟨h1, h2, h3⟩
    exact ⟨by omega, by omega, (alr_shape pb.ok h1 h2).mp h3⟩
  · rintro ⟨_, _, h⟩
    obtain ⟨h1, h2⟩ := lump_lt pb hn h
    exact ⟨h1, h2, (alr_shape pb.ok h1 h2).mpr h⟩
/-- what is_lump tells of two values of any kind -/
def lumpV (R : Pl) (n : Nat) (x y : V) : Bool := match x, y with
  | .int i, .int j => inL R n i j
  | _, _ => false
theorem lumpV_ok {R : Pl} (pb : PlB R) {n : Nat} (hn : 1 ≤ n) (hn2 : n ≤ 1000) (x y : V) :
    (((isN x && isN y) = false ∧ lumpV R n x y = false) ∨ ∃ m i j : Nat, (n : Int) = m ∧ m ≤ 1000 ∧ x = vi i ∧ y = vi j ∧ lumpV R n x y = (decide (i < j) && (decide (j ≤ m) && alr R m 0 m i j))) := by
  cases hx : isN x with
  | false =>
    refine .inl ⟨rfl, ?_⟩
    cases x with
    | int i =>
      have h1 : ¬ 0 ≤ i := of_decide_eq_false hx
      cases y with
      | int j => exact decide_eq_false fun h => h1 h.1
      | _ => rfl
    | _ => rfl
  | true =>
    cases hy : isN y with
    | false =>
      refine .inl ⟨rfl, ?_⟩
      cases x with
      | int i =>
        cases y with
        | int j =>
          have h1 : ¬ 0 ≤ j := of_decide_eq_false hy
          exact decide_eq_false fun h => h1 h.2.1
        | _ => rfl
      | _ => rfl
    | true =>
      cases x with
      | int i =>
        cases y with
        | int j =>
          have h1 : 0 ≤ i := of_decide_eq_true hx
          have h2 : 0 ≤ j := of_decide_eq_true hy
          refine .inr ⟨n, i.toNat, j.toNat, rfl, hn2, ?_, ?_, ?_⟩
          · show V.int i = V.int ((i.toNat : Nat) : Int)
            rw [Int.toNat_of_nonneg h1]
          · show V.int j = V.int ((j.toNat : Nat) : Int)
            rw [Int.toNat_of_nonneg h2]
          · rw [inL_nat pb hn, Int.toNat_of_nonneg h1, Int.toNat_of_nonneg h2]
            rfl
        | _ => cases hy
      | _ => cases hx
theorem inL_self {R : Pl} (pb : PlB R) {n : Nat} (hn : 1 ≤ n) (i : Int) : inL R n i i = false := decide_eq_false fun h => by
  have := lump_lt pb hn h.2.2
  omega
section
variable {P : Program} {w : World} {K : PySem.W.Frag} {mg : Str → Option Value} {base : Heap} {CP CR E : Addr}
/-! ### what is told of a pair -/
def spCrR (CP : Addr) : Sp := fun vs H Q _ => ∃ v prv L ys R, ∃ n i j : Nat, vs = [v, vi n, prv, .ref L] ∧ Good H ∧ PlV CP H v R ∧ PlB R ∧ n ≤ 1000 ∧ PrV H prv (i, j) ∧ i < j ∧ j ≤ n ∧ H L = some (.lst ys) ∧ Paired (PrV H) ys (Sh.lumps (shape R n) 0) ∧ Q (.bl true) H
theorem c_l_crossed_right (D : DefAt K mg "_law_crossed_right" s_l_crossed_right) (T : Txt K mg CP CR E) (c_crossing : Cal P w K mg base "crossing" 6 ["plan", "n", "i", "j"] (spCross CP)) (c_l_crosses : Cal P w K mg base "_law_crosses" 1 ["_law_one", "_law_other"] spCrosses) :
    Cal P w K mg base "_law_crossed_right" 7 ["_law_plan_here", "_law_n", "_law_pair", "_law_lumps_here"] (spCrR CP) := by
  refine cal_of D sc_l_crossed_right (fun _ _ _ _ _ _ us hl => match us, hl with | [_, _, _, _], _ => rfl) (fun vs H Q E' h => ?_) (fun f cdv A outer s H vs Q E' hr h => ?_)
  · obtain ⟨v, prv, L, ys, R, n, i, j, rfl, _⟩ := h
    rfl
  obtain ⟨v, prv, L, ys, R, n, i, j, rfl, g, pv_, pb, hn, ⟨t, rfl, ht⟩, hij, hjn, hL, hp, q⟩ := h
  have hu65 : (A.deeper (envOfC "_law_crossed_right" (L2.defScope s_l_crossed_right) s.heap.objs.size f cdv)).units + 65 < cLine := by
    have := hr.un
    omega
  have hu64 : (A.deeper (envOfC "_law_crossed_right" (L2.defScope s_l_crossed_right) s.heap.objs.size f cdv)).units + 64 < cLine := by omega
  have hn1 : 1 ≤ n := by omega
  refine ⟨_, (pss_cons (ps_set (i := 4) sc_l_crossed_right.nd rfl (Or.inl rfl) (pe_cal c_crossing hr (pa_cons (pv 0) (pa_cons (pv 1) (pa_cons (pe_ix ix_tup (pv 2) pe_int (fun _ _ => rfl)) (pa_cons (pe_ix ix_tup (pv 2) pe_int (fun _ _ => rfl)) pa_nil)))))) (pss_cons (ps_if (pt_cmpR (op_inD hu65) (pv 2) (pv 3) (by rfl)) (pss_one (ps_ret (pe_cmpR op_isN (pv 4) pe_non (nomark _)))) pss_nil) (pss_one (ps_ret (pe_and (pe_cmpR (op_inD hu65) (pv 4) (pv 3) (by rfl)) (pe_and (pe_cal c_l_crosses hr (pa_cons (pv 4) (pa_cons (pv 2) pa_nil))) (pe_one (pe_cmpR (op_eqD hu64) (pe_cal c_crossing hr (pa_cons (pv 0) (pa_cons (pv 1) (pa_cons (pe_ix ix_tup (pv 2) pe_int (fun _ _ => rfl)) (pa_cons (pe_ix ix_tup (pv 2) pe_int (fun _ _ => rfl)) pa_nil))))) (pv 4) (nomark _))))))))), ?_⟩
  have hin : ∀ {H1 : Hp}, Same H H1 → ∃ d ds, Dp K H1 (.ref t) d ∧ Dp K H1 (.ref L) (.list ds) ∧ SeqAt.shaped d = true ∧ SeqAt.shaped (.list ds) = true ∧ (ds.any fun z => PyData.eqv z d) = decide ((i, j) ∈ Sh.lumps (shape R n) 0) := fun {H1} s1 =>
    ⟨prD' (i, j), (Sh.lumps (shape R n) 0).map prD', .tup (SqT.of (s1 _ _ ht)) (.cons (.int _) (.cons (.int _) .nil)), .lst (SqL.of (s1 _ _ hL)) (PrVs.dat (Paired.imp (fun _ _ z => z.mono (TM.of s1)) hp)), prD'_sh1 _, prD'_sh _, prs_in _ _⟩
  refine ⟨_, rfl, _, rfl, _, rfl, t, _, 0, _, rfl, rfl, SqT.of ht, rfl, _, rfl, t, _, 1, _, rfl, rfl, SqT.of ht, rfl, v, R, n, i, j, rfl, g, pv_, pb, hn, hij, hjn, fun ha => ?_, fun ha => ?_⟩
  · obtain ⟨d, ds, h1, h2, h3, h4, h5⟩ := hin (Same.refl H)
    refine ⟨_, rfl, _, rfl, d, ds, h1, h2, h3, h4, _, rfl, ?_⟩
    rw [h5, decide_eq_true ((alr_shape pb.ok hij hjn).mp ha)]
    exact iteT ⟨_, rfl, rfl, fin0 g (Same.refl H) q⟩
  · intro r H1 s1 g1 hr1
    obtain ⟨d, ds, h1, h2, h3, h4, h5⟩ := hin s1
    have no : (i, j) ∉ Sh.lumps (shape R n) 0 := fun h => by
      rw [(alr_shape pb.ok hij hjn).mpr h] at ha
      cases ha
    obtain ⟨k1, k2, k3, k4⟩ := cross_ok pb.ok hij hjn no
    obtain ⟨tr, rfl, htr⟩ := id hr1
    refine ⟨_, rfl, _, rfl, d, ds, h1, h2, h3, h4, _, rfl, ?_⟩
    rw [h5, decide_eq_false no]
    refine iteF ?_
    refine ⟨_, rfl, _, rfl, prD' (crossF R n i j), (Sh.lumps (shape R n) 0).map prD', .tup (SqT.of htr) (.cons (.int _) (.cons (.int _) .nil)), .lst (SqL.of (s1 _ _ hL)) (PrVs.dat (Paired.imp (fun _ _ z => z.mono (TM.of s1)) hp)), prD'_sh1 _, prD'_sh _, _, rfl, ?_⟩
    rw [prs_in, decide_eq_true k1]
    refine iteT ?_
    refine ⟨_, rfl, _, rfl, .ref tr, .ref t, crossF R n i j, (i, j), rfl, g1, hr1, ⟨t, rfl, s1 _ _ ht⟩, k2, k3, k4, _, rfl, iteT ?_⟩
    refine ⟨_, rfl, _, rfl, _, rfl, t, _, 0, _, rfl, rfl, SqT.of (s1 _ _ ht), rfl, _, rfl, t, _, 1, _, rfl, rfl, SqT.of (s1 _ _ ht), rfl, v, R, n, i, j, rfl, g1, pv_.mono s1, pb, hn, hij, hjn, fun ha' => ?_, fun _ => ?_⟩
    · rw [ha] at ha'
      cases ha'
    · intro r2 H2 s2 g2 hr2
      obtain ⟨tr2, rfl, htr2⟩ := id hr2
      refine ⟨_, rfl, prD' (crossF R n i j), prD' (crossF R n i j), .tup (SqT.of htr2) (.cons (.int _) (.cons (.int _) .nil)), .tup (SqT.of (s2 _ _ htr)) (.cons (.int _) (.cons (.int _) .nil)), prD'_sh1 _, prD'_sh1 _, ?_⟩
      rw [prD'_eqv, decide_eq_true rfl]
      exact fin0 g (Same.trans s1 s2) q
end
end KL

namespace KL
open PySem PySem.Spec L2
open PyProof.Rows hiding St
/-! ### the law's own reading, block by block -/
section
variable (K : PySem.W.Frag) (CP : Addr)
abbrev pPlus : R2 := rI0 fun i j => .int (i + j)
abbrev pPow : R2 := rI CPow fun i j => .int (i ^ j.toNat)
abbrev pNeg : V → Hp → VK → Prop := rU fun i => .int (-i)
def bPair : TS :=
  tSeq (tIfS (tTest (tOp rNe (tCB rReprB (tCons (tCal (spIsLump CP) (tCons (tVar 7) (tCons (tVar 6) (tCons (tVar 9) (tCons (tVar 10) tNil))))) tNil)) (tCB rReprB (tCons (tOp (rInD K) (tTup (tCons (tVar 9) (tCons (tVar 10) tNil))) (tVar 8)) tNil))))
      (tRet (tC (.bl false))) tNext)
    (tIfS (tAnd (ttChain3 (rI0 fun i j => .bl (decide (i ≤ j))) (rI0 fun i j => .bl (decide (i < j))) (rI0 fun i j => .bl (decide (i ≤ j))) (tC (.int 0)) (tVar 9) (tVar 10) (tVar 6))
        (tNot (tB (tCal (spCrR CP) (tCons (tVar 7) (tCons (tVar 6) (tCons (tTup (tCons (tVar 9) (tCons (tVar 10) tNil))) (tCons (tVar 8) tNil))))))))
      (tRet (tC (.bl false))) tNext)
def bPairs : TS :=
  tFor (iRng2 (tCons (tUn pNeg (tC (.int 1))) (tCons (tOp pPlus (tVar 6) (tC (.int 2))) tNil))) (gName 9)
    (tFor (iRng2 (tCons (tUn pNeg (tC (.int 1))) (tCons (tOp pPlus (tVar 6) (tC (.int 3))) tNil))) (gName 10) (bPair K CP))
def bMany : TS :=
  tFor (iTup K (tTup (tCons (tVar 5) (tCons (tVar 4) (tCons (tVar 5) (tCons (tVar 4) tNil)))))) (gName 6)
    (tSeq (tAsg (tTup (tCons (tDGet (tVar 3) (tC (.str "plan"))) (tCons (tCal (spLLumps 61) (tCons (tCal (spTold CP) (tCons (tVar 3) (tCons (tVar 6) tNil))) (tCons (tC (.int 0)) tNil))) tNil))) (gTup K 2 (gCons (gName 7) (gCons (gName 8) gNil))))
      (bPairs K CP))
def bDraw : TS :=
  tAsg (tTup (tCons (tCal (spLPlan CP) (tCons (tVar 1) tNil)) (tCons (tOp pPlus (tC (.int 1)) (tCal spPick (tCons (tVar 1) (tCons (tC (.int 15)) tNil)))) (tCons (tOp pPlus (tC (.int 1)) (tCal spPick (tCons (tVar 1) (tCons (tC (.int 15)) tNil)))) tNil))))
    (gTup K 3 (gCons (gName 3) (gCons (gName 4) (gCons (gName 5) gNil))))
def bOdd : TS :=
  tSeq (tAsg (tAndV (tCB (rIsi K) (tCons (tVar 11) (tCons (tC (.ty "int")) tNil))) (tNotV (tCB (rIsi K) (tCons (tVar 11) (tCons (tC (.ty "bool")) tNil))))) (gName 12))
    (tSeq (tAsg (tLst (tCons (tCal (spIsLump CP) (tCons (tVar 7) (tCons (tVar 4) (tCons (tVar 11) (tCons (tVar 4) tNil))))) (tCons (tCal (spIsLump CP) (tCons (tVar 7) (tCons (tVar 4) (tCons (tC (.int 0)) (tCons (tVar 11) tNil)))))
        (tCons (tCal (spIsLump CP) (tCons (tVar 7) (tCons (tVar 4) (tCons (tVar 11) (tCons (tVar 11) tNil))))) tNil)))) (gName 13))
      (tIfS (tTest (tOp rNe (tCB (rReprD K) (tCons (tVar 13) tNil)) (tCB (rReprD K) (tCons (tLst (tCons (tAndV (tVar 12) (tOp (rInD K) (tTup (tCons (tVar 11) (tCons (tVar 4) tNil))) (tVar 8)))
          (tCons (tAndV (tVar 12) (tOp (rInD K) (tTup (tCons (tC (.int 0)) (tCons (tVar 11) tNil))) (tVar 8))) (tCons (tC (.bl false)) tNil)))) tNil)))) (tRet (tC (.bl false))) tNext))
def aOdds : TA := tCons (tC .non) (tCons (tC (.str "0")) (tCons (tLst (tCons (tC (.int 0)) tNil)) (tCons (tTup (tCons (tC (.int 0)) (tCons (tC (.int 1)) tNil))) (tCons (tC (.bl true)) (tCons (tC (.bl false)) (tCons (tOp pPow (tC (.int 10)) (tC (.int 39))) tNil))))))
def bOdds : TS := tFor (iList K (tLst (tCons (tCal (spOdd CP) (tCons (tVar 1) tNil)) aOdds))) (gName 11) (bOdd K CP)
def bAnew : TS :=
  tAsg (tTup (tCons (tICal CP (spPI CP) (tCons (tDGet (tVar 3) (tC (.str "tables"))) (tCons (tDGet (tVar 3) (tC (.str "end"))) tNil))) (tCons (tLst tNil) tNil))) (gTup K 2 (gCons (gName 14) (gCons (gName 15) gNil)))
def bSome : TS :=
  tFor (iRng2 (tCons (tC (.int 1)) (tCons (tOp pPlus (tVar 4) (tC (.int 1))) tNil))) (gName 10)
    (tAsg (tOp rCat (tVar 15) (tLc (iRng1 (tCons (tVar 10) tNil)) (gName 9) tYes (tTup (tCons (tVar 9) (tCons (tVar 10) tNil))) [9])) (gName 15))
def bCross : TS :=
  tIfS (ttNotN K (tLc (iList K (tSl (rSlL K) (tCal spMixed (tCons (tVar 1) (tCons (tVar 15) tNil))) tNoPart (tPart (tC (.int 20))))) (gName 16)
      (tTest (tOp (rNeD K) (tCal (spCross CP) (tCons (tVar 14) (tCons (tVar 4) (tCons (tOp (rIxT K) (tVar 16) (tC (.int 0))) (tCons (tOp (rIxT K) (tVar 16) (tC (.int 1))) tNil)))))
        (tCal (spCross CP) (tCons (tVar 7) (tCons (tVar 4) (tCons (tOp (rIxT K) (tVar 16) (tC (.int 0))) (tCons (tOp (rIxT K) (tVar 16) (tC (.int 1))) tNil))))))) (tVar 16) [16]))
    (tRet (tC (.bl false))) tNext
def bStr : TS :=
  tSeq (tAsg (tLst (tCons (tCal (spIsLump CP) (tCons (tVar 7) (tCons (tOp pPow (tC (.int 10)) (tC (.int 30))) (tCons (tVar 11) (tCons (tC (.int 5)) tNil)))))
      (tCons (tCal (spIsLump CP) (tCons (tVar 7) (tCons (tOp pPow (tC (.int 10)) (tC (.int 30))) (tCons (tC (.int 0)) (tCons (tVar 11) tNil)))))
        (tCons (tCal (spIsLump CP) (tCons (tVar 7) (tCons (tOp pPow (tC (.int 10)) (tC (.int 30))) (tCons (tVar 11) (tCons (tVar 11) tNil))))) tNil)))) (gName 13))
    (tIfS (tTest (tOp rNe (tCB (rReprD K) (tCons (tVar 13) tNil)) (tC (.str "[False, False, False]")))) (tRet (tC (.bl false))) tNext)
def bStrange : TS := tFor (iList K (tCal (spStrange CP) (tCons (tVar 1) tNil))) (gName 11) (bStr K CP)
def bLap : TS := tSeq (bDraw K CP) (tSeq (bMany K CP) (tSeq (bOdds K CP) (tSeq (bAnew K CP) (tSeq bSome (tSeq (bCross K CP) (bStrange K CP))))))
def bLaw : TS := tSeq (tAsg (tCal (spSource (K := K)) (tCons (tVar 0) tNil)) (gName 1)) (tSeq (tFor (iRng1 (tCons (tC (.int 2)) tNil)) (gName 2) (bLap K CP)) (tRet (tC (.bl true))))
end
section
variable {P : Program} {w : World} {K : PySem.W.Frag} {mg : Str → Option Value} {base : Heap} {CP CR E : Addr}
theorem law_term (T : Txt K mg CP CR E) (p : PCl K CP)
    (c_l_source : Cal P w K mg base "_law_source" 1 ["_law_script"] (spSource (K := K)))
    (c_l_any_plan : Cal P w K mg base "_law_any_plan" 127 ["_law_source_here"] (spLPlan CP))
    (c_l_pick : Cal P w K mg base "_law_pick" 1 ["_law_source_here", "_law_many"] spPick)
    (c_l_told : Cal P w K mg base "_law_told" 124 ["_law_world", "_law_n"] (spTold CP))
    (c_l_lumps : Cal P w K mg base "_law_lumps" 122 ["_law_form", "_law_start"] (spLLumps 61))
    (c_is_lump : Cal P w K mg base "is_lump" 4 ["plan", "n", "i", "j"] (spIsLump CP))
    (c_l_crossed_right : Cal P w K mg base "_law_crossed_right" 7 ["_law_plan_here", "_law_n", "_law_pair", "_law_lumps_here"] (spCrR CP))
    (c_l_odd : Cal P w K mg base "_law_odd" 3 ["_law_source_here"] (spOdd CP))
    (i_Plan : ICal P w K mg base CP "Plan" 16 ["self", "tables", "end"] (spPI CP))
    (c_l_mixed : Cal P w K mg base "_law_mixed" 2 ["_law_source_here", "_law_things"] spMixed)
    (c_crossing : Cal P w K mg base "crossing" 6 ["plan", "n", "i", "j"] (spCross CP))
    (c_l_strange : Cal P w K mg base "_law_strange" 18 ["_law_source_here"] (spStrange CP))
    {f : Addr} {cdv : Value} {A : Around} {outer : List Env} {s : Shared} {H : Hp} {E' : XK} (hr : Room 127 (A.deeper (envOfC "law" (L2.defScope s_the_law) s.heap.objs.size f cdv)))
    (hg : (A.deeper (envOfC "law" (L2.defScope s_the_law) s.heap.objs.size f cdv)).guards = some []) :
    PSs (cxOf CX0 P w K mg base n_the_law "law" (L2.defScope s_the_law) f cdv A outer s H E').nox (L2.defBody s_the_law) (bLaw K CP) := by
  have hu66 : (A.deeper (envOfC "law" (L2.defScope s_the_law) s.heap.objs.size f cdv)).units + 66 < cLine := by
    have := hr.un
    omega
  have hu65 : (A.deeper (envOfC "law" (L2.defScope s_the_law) s.heap.objs.size f cdv)).units + 65 < cLine := by omega
  have hu64 : (A.deeper (envOfC "law" (L2.defScope s_the_law) s.heap.objs.size f cdv)).units + 64 < cLine := by omega
  have hu : (A.deeper (envOfC "law" (L2.defScope s_the_law) s.heap.objs.size f cdv)).units + 1 < cLine := by omega
  exact (pss_cons (ps_set (i := 1) sc_the_law.nd rfl (Or.inl rfl) (pe_cal c_l_source hr (pa_cons (pv 0) pa_nil))) (pss_cons (ps_for PassesOwn.never rfl (pi_range1 (by rfl) T.range_ (pa_cons pe_int pa_nil)) (pg_name (i := 2) sc_the_law.nd rfl (Or.inl rfl)) (pss_cons (ps_asg (pe_tup (pa_cons (pe_cal c_l_any_plan hr (pa_cons (pv 1) pa_nil)) (pa_cons (pe_op op_add pe_int (pe_cal c_l_pick hr (pa_cons (pv 1) (pa_cons pe_int pa_nil)))) (pa_cons (pe_op op_add pe_int (pe_cal c_l_pick hr (pa_cons (pv 1) (pa_cons pe_int pa_nil)))) pa_nil)))) (pg_tup rfl (pgs_cons (pg_name (i := 3) sc_the_law.nd rfl (Or.inl rfl)) (pgs_cons (pg_name (i := 4) sc_the_law.nd rfl (Or.inr rfl)) (pgs_cons (pg_name (i := 5) sc_the_law.nd rfl (Or.inl rfl)) pgs_nil))))) (pss_cons (ps_for PassesOwn.never rfl (pi_tup (pe_tup (pa_cons (pv 5) (pa_cons (pv 4) (pa_cons (pv 5) (pa_cons (pv 4) pa_nil)))))) (pg_name (i := 6) sc_the_law.nd rfl (Or.inl rfl)) (pss_cons (ps_asg (pe_tup (pa_cons (pe_dget hu (pv 3) pe_str (fun _ _ => rfl)) (pa_cons (pe_cal c_l_lumps hr (pa_cons (pe_cal c_l_told hr (pa_cons (pv 3) (pa_cons (pv 6) pa_nil))) (pa_cons pe_int pa_nil))) pa_nil))) (pg_tup rfl (pgs_cons (pg_name (i := 7) sc_the_law.nd rfl (Or.inr rfl)) (pgs_cons (pg_name (i := 8) sc_the_law.nd rfl (Or.inl rfl)) pgs_nil)))) (pss_one (ps_for PassesOwn.never rfl (pi_range2 (by rfl) T.range_ (pa_cons (pe_un un_neg pe_int) (pa_cons (pe_op op_add (pv 6) pe_int) pa_nil))) (pg_name (i := 9) sc_the_law.nd rfl (Or.inl rfl)) (pss_one (ps_for PassesOwn.never rfl (pi_range2 (by rfl) T.range_ (pa_cons (pe_un un_neg pe_int) (pa_cons (pe_op op_add (pv 6) pe_int) pa_nil))) (pg_name (i := 10) sc_the_law.nd rfl (Or.inr rfl)) (pss_cons (ps_if (pt_cmpR op_ne (pe_callB call_reprB (by rfl) T.repr_ (by decide +kernel) (pa_cons (pe_cal c_is_lump hr (pa_cons (pv 7) (pa_cons (pv 6) (pa_cons (pv 9) (pa_cons (pv 10) pa_nil))))) pa_nil)) (pe_callB call_reprB (by rfl) T.repr_ (by decide +kernel) (pa_cons (pe_cmpR (op_inD hu65) (pe_tup (pa_cons (pv 9) (pa_cons (pv 10) pa_nil))) (pv 8) (by rfl)) pa_nil)) (nomark _)) (pss_one (ps_ret pe_bl)) pss_nil) (pss_one (ps_if (PW.pt (pw_and (pt_chain3 op_le op_lt op_le pe_int (pv 9) (pv 10) (pv 6)) (pw_and1 (pt_not (pt_val (pe_cal c_l_crossed_right hr (pa_cons (pv 7) (pa_cons (pv 6) (pa_cons (pe_tup (pa_cons (pv 9) (pa_cons (pv 10) pa_nil))) (pa_cons (pv 8) pa_nil)))))))))) (pss_one (ps_ret pe_bl)) pss_nil))))))))) (pss_cons (ps_for PassesOwn.never rfl (pi_list (pe_lst (pa_cons (pe_cal c_l_odd hr (pa_cons (pv 1) pa_nil)) (pa_cons pe_non (pa_cons pe_str (pa_cons (pe_lst (pa_cons pe_int pa_nil)) (pa_cons (pe_tup (pa_cons pe_int (pa_cons pe_int pa_nil))) (pa_cons pe_bl (pa_cons pe_bl (pa_cons (pe_op op_pow pe_int pe_int) pa_nil)))))))))) (pg_name (i := 11) sc_the_law.nd rfl (Or.inl rfl)) (pss_cons (ps_set (i := 12) sc_the_law.nd rfl (Or.inl rfl) (pe_and (pe_callB call_isi (by rfl) T.isinstance_ (by decide +kernel) (pa_cons (pv 11) (pa_cons (pe_bltn (v := .ty "int") (by rfl) T.int_ (by decide +kernel) rfl) pa_nil))) (pe_one (pe_not (pe_callB call_isi (by rfl) T.isinstance_ (by decide +kernel) (pa_cons (pv 11) (pa_cons (pe_bltn (v := .ty "bool") (by rfl) T.bool_ (by decide +kernel) rfl) pa_nil))))))) (pss_cons (ps_set (i := 13) sc_the_law.nd rfl (Or.inl rfl) (pe_lst (pa_cons (pe_cal c_is_lump hr (pa_cons (pv 7) (pa_cons (pv 4) (pa_cons (pv 11) (pa_cons (pv 4) pa_nil))))) (pa_cons (pe_cal c_is_lump hr (pa_cons (pv 7) (pa_cons (pv 4) (pa_cons pe_int (pa_cons (pv 11) pa_nil))))) (pa_cons (pe_cal c_is_lump hr (pa_cons (pv 7) (pa_cons (pv 4) (pa_cons (pv 11) (pa_cons (pv 11) pa_nil))))) pa_nil))))) (pss_one (ps_if (pt_cmpR op_ne (pe_callB (call_reprD hg hu66) (by rfl) T.repr_ (by decide +kernel) (pa_cons (pv 13) pa_nil)) (pe_callB (call_reprD hg hu66) (by rfl) T.repr_ (by decide +kernel) (pa_cons (pe_lst (pa_cons (pe_and (pv 12) (pe_one (pe_cmpR (op_inD hu65) (pe_tup (pa_cons (pv 11) (pa_cons (pv 4) pa_nil))) (pv 8) (by rfl)))) (pa_cons (pe_and (pv 12) (pe_one (pe_cmpR (op_inD hu65) (pe_tup (pa_cons pe_int (pa_cons (pv 11) pa_nil))) (pv 8) (by rfl)))) (pa_cons pe_bl pa_nil)))) pa_nil)) (nomark _)) (pss_one (ps_ret pe_bl)) pss_nil))))) (pss_cons (ps_asg (pe_tup (pa_cons (pe_ical i_Plan hr (pa_cons (pe_dget hu (pv 3) pe_str (fun _ _ => rfl)) (pa_cons (pe_dget hu (pv 3) pe_str (fun _ _ => rfl)) pa_nil))) (pa_cons (pe_lst pa_nil) pa_nil))) (pg_tup rfl (pgs_cons (pg_name (i := 14) sc_the_law.nd rfl (Or.inr rfl)) (pgs_cons (pg_name (i := 15) sc_the_law.nd rfl (Or.inl rfl)) pgs_nil)))) (pss_cons (ps_for PassesOwn.never rfl (pi_range2 (by rfl) T.range_ (pa_cons pe_int (pa_cons (pe_op op_add (pv 4) pe_int) pa_nil))) (pg_name (i := 10) sc_the_law.nd rfl (Or.inr rfl)) (pss_one (ps_set (i := 15) sc_the_law.nd rfl (Or.inl rfl) (pe_op op_cat (pv 15) (pe_lc (g := (gName 9)) (own := [("_law_i", 9)]) rfl sc_the_law.nd (pi_range1 (by rfl) T.range_ (pa_cons (pv 10) pa_nil)) (blkOk_by (own := [("_law_i", 9)]) (N := n_the_law) (sc := L2.defScope s_the_law) (by decide +kernel)) (fun _ _ _ _ _ => (pg_name (i := 9) sc_the_law.nd rfl (Or.inl rfl))) (fun _ _ _ _ _ => pts_nil) (fun _ _ _ _ _ => (pe_tup (pa_cons (pv 9) (pa_cons (pv 10) pa_nil))))))))) (pss_cons (ps_if (pt_notN hu64 (pe_lc (g := (gName 16)) (tt := tTest (tOp (rNeD K) (tCal (spCross CP) (tCons (tVar 14) (tCons (tVar 4) (tCons (tOp (rIxT K) (tVar 16) (tC (V.int 0))) (tCons (tOp (rIxT K) (tVar 16) (tC (V.int 1))) tNil))))) (tCal (spCross CP) (tCons (tVar 7) (tCons (tVar 4) (tCons (tOp (rIxT K) (tVar 16) (tC (V.int 0))) (tCons (tOp (rIxT K) (tVar 16) (tC (V.int 1))) tNil))))))) (own := [("_law_pair", 16)]) rfl sc_the_law.nd (pi_list (pe_slice sl_list (pe_cal c_l_mixed hr (pa_cons (pv 1) (pa_cons (pv 15) pa_nil))) po_none (po_some pe_int))) (blkOk_by (own := [("_law_pair", 16)]) (N := n_the_law) (sc := L2.defScope s_the_law) (by decide +kernel)) (fun _ _ _ _ _ => (pg_name (i := 16) sc_the_law.nd rfl (Or.inl rfl))) (fun _ _ _ _ _ => (pts_one (pt_cmpR (op_neD hu64) (pe_cal c_crossing hr (pa_cons (pv 14) (pa_cons (pv 4) (pa_cons (pe_ix ix_tup (pv 16) pe_int (fun _ _ => rfl)) (pa_cons (pe_ix ix_tup (pv 16) pe_int (fun _ _ => rfl)) pa_nil))))) (pe_cal c_crossing hr (pa_cons (pv 7) (pa_cons (pv 4) (pa_cons (pe_ix ix_tup (pv 16) pe_int (fun _ _ => rfl)) (pa_cons (pe_ix ix_tup (pv 16) pe_int (fun _ _ => rfl)) pa_nil))))) (nomark _)))) (fun _ _ _ _ _ => (pv 16)))) (pss_one (ps_ret pe_bl)) pss_nil) (pss_one (ps_for PassesOwn.never rfl (pi_list (pe_cal c_l_strange hr (pa_cons (pv 1) pa_nil))) (pg_name (i := 11) sc_the_law.nd rfl (Or.inl rfl)) (pss_cons (ps_set (i := 13) sc_the_law.nd rfl (Or.inl rfl) (pe_lst (pa_cons (pe_cal c_is_lump hr (pa_cons (pv 7) (pa_cons (pe_op op_pow pe_int pe_int) (pa_cons (pv 11) (pa_cons pe_int pa_nil))))) (pa_cons (pe_cal c_is_lump hr (pa_cons (pv 7) (pa_cons (pe_op op_pow pe_int pe_int) (pa_cons pe_int (pa_cons (pv 11) pa_nil))))) (pa_cons (pe_cal c_is_lump hr (pa_cons (pv 7) (pa_cons (pe_op op_pow pe_int pe_int) (pa_cons (pv 11) (pa_cons (pv 11) pa_nil))))) pa_nil))))) (pss_one (ps_if (pt_cmpR op_ne (pe_callB (call_reprD hg hu66) (by rfl) T.repr_ (by decide +kernel) (pa_cons (pv 13) pa_nil)) pe_str (nomark _)) (pss_one (ps_ret pe_bl)) pss_nil)))))))))))) (pss_one (ps_ret pe_bl))))
end
end KL

namespace KL
open PySem PySem.Spec L2
open PyProof.Rows hiding St
theorem PlV.drw {CP d c : Addr} {H H' : Hp} {v : V} {R : Pl} (src : Src H d c) (dr : Drw d c H H') (p : PlV CP H v R) : PlV CP H' v R := by
  obtain ⟨a, tv, ev, e, ⟨dx, h1⟩, h2, h3⟩ := p
  exact ⟨a, tv, ev, e, ⟨dx, dr.at src h1 (fun _ z => nomatch z) (fun _ z => nomatch z)⟩, h2.mono (dr.tm src), h3.mono (dr.tm src)⟩
theorem WdAt.drw {CP d c : Addr} {H H' : Hp} {wd : Addr} {tv ev pv : V} {R : Pl} (src : Src H d c) (dr : Drw d c H H') (h : WdAt CP H wd tv ev pv R) : WdAt CP H' wd tv ev pv R := by
  refine ⟨dr.k wd _ h.h (fun e => ?_) (fun e => ?_), h.t.mono (dr.tm src), h.e.mono (dr.tm src), h.p.drw src dr⟩
  · obtain ⟨l, m, t, xs, h1, h2⟩ := src
    have h3 := h.h
    rw [e, h1] at h3
    injection h3 with h3
    injection h3 with h3
    have h4 := congrArg List.length h3
    cases h4
  · obtain ⟨l, m, t, xs, h1, h2⟩ := src
    have h3 := h.h
    rw [e, h2] at h3
    cases h3
theorem Prs.tm {H H' : Hp} {ys : List V} {qs : List (Nat × Nat)} (m : TM H H') (h : Paired (PrV H) ys qs) : Paired (PrV H') ys qs := Paired.imp (fun _ _ z => z.mono m) h
section
variable {K : PySem.W.Frag} {CP : Addr}
/-! ### one pair, all pairs -/
/-- the places of a turn, but those that the loops of pairs write -/
structure Lu (CP : Addr) (H : Hp) (pv : V) (L : Addr) (ys : List V) (R : Pl) (m : Nat) : Prop where
  p : PlV CP H pv R
  h : H L = some (.lst ys)
  l : Paired (PrV H) ys (Sh.lumps (shape R m) 0)
theorem Lu.mono {H H' : Hp} {pv : V} {L : Addr} {ys : List V} {R : Pl} {m : Nat} (s : Same H H') (u : Lu CP H pv L ys R m) : Lu CP H' pv L ys R m := ⟨u.p.mono s, s _ _ u.h, Prs.tm (TM.of s) u.l⟩
theorem Lu.drw {d c : Addr} {H H' : Hp} {pv : V} {L : Addr} {ys : List V} {R : Pl} {m : Nat} (src : Src H d c) (dr : Drw d c H H') (ne : L ≠ c) (u : Lu CP H pv L ys R m) : Lu CP H' pv L ys R m := ⟨u.p.drw src dr, dr.lst src u.h ne, Prs.tm (dr.tm src) u.l⟩
theorem Lu.inn {H : Hp} {pv : V} {L : Addr} {ys : List V} {R : Pl} {m : Nat} (u : Lu CP H pv L ys R m) : Dp K H (.ref L) (.list ((Sh.lumps (shape R m) 0).map prD')) := .lst (SqL.of u.h) (PrVs.dat u.l)
theorem r_pair {D : Ends} {x0 x1 x2 x3 x4 x5 x11 x12 x13 x14 x15 x16 : Option V} {pv : V} {L : Addr} {ys : List V} {R : Pl} {m : Nat} {i j : Int} {H : Hp} (g : Good H) (u : Lu CP H pv L ys R m) (pb : PlB R) (h1 : 1 ≤ m) (h2 : m ≤ 1000)
    (k : ∀ H', Same H H' → Good H' → D.nx [x0, x1, x2, x3, x4, x5, some (vi m), some pv, some (.ref L), some (.int i), some (.int j), x11, x12, x13, x14, x15, x16] H') :
    bPair K CP D [x0, x1, x2, x3, x4, x5, some (vi m), some pv, some (.ref L), some (.int i), some (.int j), x11, x12, x13, x14, x15, x16] H := by
  refine ⟨_, rfl, _, rfl, _, rfl, _, rfl, pv, R, (m : Int), .int i, .int j, lumpV R m (.int i) (.int j), rfl, g, u.p, pb, .int _, .int _, lumpV_ok pb h1 h2 _ _, _, rfl, ?_⟩
  refine ⟨_, rfl, _, rfl, (by show 2 ≤ sizeLine; decide), fun T hT => ?_⟩
  have s1 := same_new (o := .tup [V.int i, .int j]) hT
  have g1 := g.tup hT (xs := [V.int i, .int j])
  refine ⟨_, rfl, prI i j, _, .tup (SqT.of upd_same) (.cons (.int _) (.cons (.int _) .nil)), (u.mono s1).inn, prI_sh i j, prD'_sh _, _, rfl, rfl, _, rfl, ?_⟩
  rw [prI_in]
  show if (!decide (V.str (if inL R m i j = true then "True" else "False") = V.str (if inL R m i j = true then "True" else "False"))) = true then _ else _
  rw [decide_eq_true rfl]
  refine iteF ?_
  refine ⟨_, rfl, _, _, rfl, rfl, _, rfl, ?_⟩
  by_cases c1 : (0 : Int) ≤ i
  · rw [decide_eq_true c1]
    refine iteT ⟨_, rfl, _, _, rfl, rfl, _, rfl, ?_⟩
    by_cases c2 : i < j
    · rw [decide_eq_true c2]
      refine iteT ⟨_, rfl, _, _, rfl, rfl, _, rfl, ?_⟩
      by_cases c3 : j ≤ (m : Int)
      · rw [decide_eq_true c3]
        refine iteT ?_
        obtain ⟨i', rfl⟩ : ∃ z : Nat, i = z := ⟨i.toNat, by omega⟩
        obtain ⟨j', rfl⟩ : ∃ z : Nat, j = z := ⟨j.toNat, by omega⟩
        refine ⟨_, rfl, _, rfl, _, rfl, _, rfl, (by show 2 ≤ sizeLine; decide), fun T2 hT2 => ?_⟩
        have s2 := same_new (o := .tup [V.int (i' : Int), .int (j' : Int)]) hT2
        have g2 := g1.tup hT2 (xs := [V.int (i' : Int), .int (j' : Int)])
        have u2 := (u.mono s1).mono s2
        exact ⟨_, rfl, pv, .ref T2, L, ys, R, m, i', j', rfl, g2, u2.p, pb, h2, ⟨T2, rfl, upd_same⟩, by omega, by omega, u2.h, u2.l, _, rfl, iteF (k _ (Same.trans s1 s2) g2)⟩
      · rw [decide_eq_false c3]
        exact iteF (iteF (k _ s1 g1))
    · rw [decide_eq_false c2]
      exact iteF (iteF (iteF (k _ s1 g1)))
  · rw [decide_eq_false c1]
    exact iteF (iteF (iteF (k _ s1 g1)))
theorem r_pairs {D : Ends} {x0 x1 x2 x3 x4 x5 x9 x10 x11 x12 x13 x14 x15 x16 : Option V} {pv : V} {L : Addr} {ys : List V} {R : Pl} {m : Nat} {H : Hp} (g : Good H) (u : Lu CP H pv L ys R m) (pb : PlB R) (h1 : 1 ≤ m) (h2 : m ≤ 1000)
    (k : ∀ y9 y10 H', Same H H' → Good H' → D.nx [x0, x1, x2, x3, x4, x5, some (vi m), some pv, some (.ref L), y9, y10, x11, x12, x13, x14, x15, x16] H') :
    bPairs K CP D [x0, x1, x2, x3, x4, x5, some (vi m), some pv, some (.ref L), x9, x10, x11, x12, x13, x14, x15, x16] H := by
  refine ⟨_, rfl, _, rfl, _, _, rfl, rfl, _, _, rfl, ⟨by decide, by decide, by omega, by omega⟩, ?_⟩
  refine for_range (fun i σ H' => ∃ y9 y10, σ = [x0, x1, x2, x3, x4, x5, some (vi m), some pv, some (.ref L), y9, y10, x11, x12, x13, x14, x15, x16] ∧ Same H H' ∧ Good H') ⟨x9, x10, rfl, Same.refl H, g⟩ ?_ ?_
  · rintro i σ H' hi ⟨y9, y10, rfl, sm, g'⟩
    refine ⟨_, rfl, _, rfl, _, _, rfl, rfl, _, _, rfl, ⟨by decide, by decide, by omega, by omega⟩, ?_⟩
    refine for_range (fun j σ H' => ∃ y9 y10, σ = [x0, x1, x2, x3, x4, x5, some (vi m), some pv, some (.ref L), some (.int y9), y10, x11, x12, x13, x14, x15, x16] ∧ Same H H' ∧ Good H') ⟨_, y10, rfl, sm, g'⟩ ?_ ?_
    · rintro j σ H2 hj ⟨z9, z10, rfl, sm2, g2⟩
      exact r_pair g2 (u.mono sm2) pb h1 h2 fun H3 s3 g3 => ⟨_, _, rfl, Same.trans sm2 s3, g3⟩
    · rintro σ H2 ⟨z9, z10, rfl, sm2, g2⟩
      exact ⟨_, _, rfl, sm2, g2⟩
  · rintro σ H' ⟨y9, y10, rfl, sm, g'⟩
    exact k y9 y10 H' sm g'
/-! ### the four sizes -/
def mny (n o : Nat) : Nat → Nat
  | 0 => o
  | 1 => n
  | 2 => o
  | _ => n
theorem r_many {D : Ends} {x0 x1 x2 x6 x7 x8 x9 x10 x11 x12 x13 x14 x15 x16 : Option V} {wd : Addr} {tv ev pv : V} {R : Pl} {n o : Nat} {H : Hp} (g : Good H) (W : WdAt CP H wd tv ev pv R) (pb : PlB R) (n1 : 1 ≤ n) (n2 : n ≤ 60) (o1 : 1 ≤ o) (o2 : o ≤ 60)
    (hu : True) (k : ∀ y6 y9 y10 L ys H', Same H H' → Good H' → H L = none → Lu CP H' pv L ys R n → D.nx [x0, x1, x2, some (.ref wd), some (vi n), some (vi o), y6, some pv, some (.ref L), y9, y10, x11, x12, x13, x14, x15, x16] H') :
    bMany K CP D [x0, x1, x2, some (.ref wd), some (vi n), some (vi o), x6, x7, x8, x9, x10, x11, x12, x13, x14, x15, x16] H := by
  refine ⟨_, rfl, _, rfl, _, rfl, _, rfl, (by show 4 ≤ sizeLine; decide), fun T hT => ⟨T, rfl, ⟨_, SqT.of upd_same⟩, ?_⟩⟩
  have sT := same_new (o := .tup [vi o, vi n, vi o, vi n]) hT
  refine for_tup (K := K) (xs := [vi o, vi n, vi o, vi n]) (fun i σ H' => ∃ y6 y7 y8 y9 y10, σ = [x0, x1, x2, some (.ref wd), some (vi n), some (vi o), y6, y7, y8, y9, y10, x11, x12, x13, x14, x15, x16] ∧ Same (upd H T (.tup [vi o, vi n, vi o, vi n])) H' ∧ Good H' ∧
      ∀ k, i = k + 1 → ∃ L ys, y7 = some pv ∧ y8 = some (.ref L) ∧ H L = none ∧ Lu CP H' pv L ys R (mny n o k)) ⟨x6, x7, x8, x9, x10, rfl, Same.refl _, g.tup hT, fun k e => nomatch e⟩ (fun i σ H' _ h => ?_) ?_ ?_
  · obtain ⟨_, _, _, _, _, _, sm, _, _⟩ := h
    exact SqT.of (sm _ _ upd_same)
  · rintro i x σ H' hx ⟨y6, y7, y8, y9, y10, rfl, sm, g', _⟩
    have sm' := Same.trans sT sm
    have hm : x = vi (mny n o i) ∧ 1 ≤ mny n o i ∧ mny n o i ≤ 60 := by
      match i, hx with
      | 0, hx =>
        cases hx
        exact ⟨rfl, o1, o2⟩
      | 1, hx =>
        cases hx
        exact ⟨rfl, n1, n2⟩
      | 2, hx =>
        cases hx
        exact ⟨rfl, o1, o2⟩
      | 3, hx =>
        cases hx
        exact ⟨rfl, n1, n2⟩
      | i + 4, hx => simp at hx
    obtain ⟨rfl, m1, m2⟩ := hm
    have W' := W.mono sm'
    refine ⟨_, rfl, wd, pv, rfl, W'.dget (wdK_p ..), _, rfl, _, rfl, .ref wd, R, mny n o i, rfl, g', ⟨wd, tv, ev, pv, rfl, W'⟩, pb, m1, m2, fun sv H2 s2 g2 hsv => ?_⟩
    have hz := shape_sz pb.ok m1
    have hd := (shape R (mny n o i)).dp_lt
    refine ⟨sv, shape R (mny n o i), 0, rfl, g2, hsv, by omega, by omega, fun L ys H3 s3 g3 hL0 hL hpy => ⟨(by show 2 ≤ sizeLine; decide), fun T3 hT3 => ?_⟩⟩
    have s4 := same_new (o := .tup [pv, .ref L]) hT3
    refine ⟨T3, _, rfl, SqT.of upd_same, rfl, _, _, rfl, _, _, rfl, rfl, ?_⟩
    have s24 := Same.trans (Same.trans s2 s3) s4
    have u : Lu CP (upd H3 T3 (.tup [pv, .ref L])) pv L ys R (mny n o i) := ⟨W'.p.mono s24, s4 _ _ hL, Prs.tm (TM.of s4) hpy⟩
    refine r_pairs (g3.tup hT3) u pb m1 (by omega) fun z9 z10 H5 s5 g5 => ⟨_, _, _, z9, z10, rfl, Same.trans sm (Same.trans s24 s5), g5, fun k e => ?_⟩
    cases e
    exact ⟨L, ys, rfl, rfl, Same.free sm' (Same.free s2 hL0), u.mono s5⟩
  · rintro σ H' ⟨y6, y7, y8, y9, y10, rfl, sm, g', h⟩
    obtain ⟨L, ys, rfl, rfl, hL, u⟩ := h 3 rfl
    exact k y6 y9 y10 L ys H' (Same.trans sT sm) g' hL u
end
end KL

namespace KL
open PySem PySem.Spec L2
open PyProof.Rows hiding St
def bD (b1 b2 b3 : Bool) : PyData := .list [.bool b1, .bool b2, .bool b3]
theorem bD_1 (b1 b2 b3 : Bool) : (bD b1 b2 b3).showable = true := by
  cases b1 <;> cases b2 <;> cases b3 <;> decide +kernel
theorem bD_2 (b1 b2 b3 : Bool) : (bD b1 b2 b3).hasDict = false := by
  cases b1 <;> cases b2 <;> cases b3 <;> decide +kernel
theorem bD_3 (b1 b2 b3 : Bool) : (bD b1 b2 b3).depth ≤ 64 := by
  cases b1 <;> cases b2 <;> cases b3 <;> decide +kernel
theorem bD_4 (b1 b2 b3 : Bool) : (bD b1 b2 b3).shown.length ≤ sizeLine := by
  cases b1 <;> cases b2 <;> cases b3 <;> decide +kernel
theorem bD_f : (bD false false false).shown = ("[False, False, False]" : Str) := by decide +kernel
section
variable {K : PySem.W.Frag} {CP : Addr}
theorem bD_v {H : Hp} {a : Addr} {b1 b2 b3 : Bool} (h : H a = some (.lst [.bl b1, .bl b2, .bl b3])) : Dp K H (.ref a) (bD b1 b2 b3) := .lst (SqL.of h) (.cons (.bl _) (.cons (.bl _) (.cons (.bl _) .nil)))
theorem r_due {σ : St} {H : Hp} {Q : VK} {x : V} (hx : σ[11]? = some (some x)) (kn : Kn CP H x) (p : PCl K CP) (q : Q (.bl (isI x)) H) :
    tAndV (tCB (rIsi K) (tCons (tVar 11) (tCons (tC (.ty "int")) tNil))) (tNotV (tCB (rIsi K) (tCons (tVar 11) (tCons (tC (.ty "bool")) tNil)))) σ H Q := by
  obtain ⟨t, ht, k1, k2⟩ := kn.ty p
  refine ⟨x, hx, _, _, t, _, _, rfl, .ty "int", ht, k1, _, rfl, ?_⟩
  cases x with
  | int i => exact iteT ⟨_, hx, _, _, t, _, _, rfl, .ty "bool", ht, k2, _, rfl, q⟩
  | bl b => exact iteT ⟨_, hx, _, _, t, _, _, rfl, .ty "bool", ht, k2, _, rfl, q⟩
  | _ => exact iteF q
theorem lumpV_noL {R : Pl} {n : Nat} {x y : V} (h : isI x = false) : lumpV R n x y = false := by
  cases x with
  | int i => cases h
  | _ => rfl
theorem lumpV_noR {R : Pl} {n : Nat} {x y : V} (h : isI y = false) : lumpV R n x y = false := by
  cases y with
  | int i => cases h
  | _ => cases x <;> rfl
theorem r_odd {D : Ends} {x0 x1 x2 x3 x5 x6 x9 x10 x12 x13 x14 x15 x16 : Option V} {pv x : V} {L : Addr} {ys : List V} {R : Pl} {n : Nat} {H : Hp} (g : Good H) (u : Lu CP H pv L ys R n) (pb : PlB R) (h1 : 1 ≤ n) (h2 : n ≤ 1000) (p : PCl K CP) (kn : Kn CP H x)
    (k : ∀ y12 y13 H', Same H H' → Good H' → D.nx [x0, x1, x2, x3, some (vi n), x5, x6, some pv, some (.ref L), x9, x10, some x, y12, y13, x14, x15, x16] H') :
    bOdd K CP D [x0, x1, x2, x3, some (vi n), x5, x6, some pv, some (.ref L), x9, x10, some x, x12, x13, x14, x15, x16] H := by
  unfold bOdd tSeq tAsg
  refine r_due rfl kn p ?_
  refine ⟨_, rfl, _, rfl, _, rfl, _, rfl, pv, R, (n : Int), x, vi n, lumpV R n x (vi n), rfl, g, u.p, pb, kn, .int _, lumpV_ok pb h1 h2 _ _, ?_⟩
  refine ⟨_, rfl, _, rfl, _, rfl, pv, R, (n : Int), .int 0, x, lumpV R n (.int 0) x, rfl, g, u.p, pb, .int _, kn, lumpV_ok pb h1 h2 _ _, ?_⟩
  refine ⟨_, rfl, _, rfl, _, rfl, _, rfl, pv, R, (n : Int), x, x, lumpV R n x x, rfl, g, u.p, pb, kn, kn, lumpV_ok pb h1 h2 _ _, (by show 3 ≤ sizeLine; decide), fun Lt hLt => ?_⟩
  have s1 := same_new (o := .lst [V.bl (lumpV R n x (vi n)), .bl (lumpV R n (.int 0) x), .bl (lumpV R n x x)]) hLt
  have g1 := g.lst hLt (xs := [V.bl (lumpV R n x (vi n)), .bl (lumpV R n (.int 0) x), .bl (lumpV R n x x)])
  refine ⟨_, rfl, Lt, bD _ _ _, rfl, bD_v upd_same, bD_1 _ _ _, bD_2 _ _ _, bD_3 _ _ _, bD_4 _ _ _, ?_⟩
  have u1 := u.mono s1
  cases hI : isI x with
  | false =>
    refine ⟨_, rfl, _, rfl, iteF ⟨_, rfl, _, rfl, iteF ⟨(by show 3 ≤ sizeLine; decide), fun Lr hLr => ?_⟩⟩⟩
    have s2 := same_new (o := .lst [V.bl false, .bl false, .bl false]) hLr
    refine ⟨Lr, bD false false false, rfl, bD_v upd_same, bD_1 _ _ _, bD_2 _ _ _, bD_3 _ _ _, bD_4 _ _ _, rfl, _, rfl, ?_⟩
    have es : (bD (lumpV R n x (vi n)) (lumpV R n (.int 0) x) (lumpV R n x x)).shown = (bD false false false).shown := by rw [lumpV_noL hI, lumpV_noR hI, lumpV_noL hI]
    show if (!decide (V.str (bD (lumpV R n x (vi n)) (lumpV R n (.int 0) x) (lumpV R n x x)).shown = V.str (bD false false false).shown)) = true then _ else _
    rw [es, decide_eq_true rfl]
    exact iteF (k _ _ _ (Same.trans s1 s2) (g1.lst hLr))
  | true =>
    cases x with
    | int i =>
      refine ⟨_, rfl, _, rfl, iteT ⟨_, rfl, _, rfl, (by show 2 ≤ sizeLine; decide), fun T1 hT1 => ?_⟩⟩
      have s2 := same_new (o := .tup [V.int i, vi n]) hT1
      have u2 := u1.mono s2
      refine ⟨_, rfl, prI i n, _, .tup (SqT.of upd_same) (.cons (.int _) (.cons (.int _) .nil)), u2.inn, prI_sh _ _, prD'_sh _, ?_⟩
      refine ⟨_, rfl, _, rfl, iteT ⟨_, rfl, (by show 2 ≤ sizeLine; decide), fun T2 hT2 => ?_⟩⟩
      have s3 := same_new (o := .tup [V.int 0, .int i]) hT2
      have u3 := u2.mono s3
      refine ⟨_, rfl, prI 0 i, _, .tup (SqT.of upd_same) (.cons (.int _) (.cons (.int _) .nil)), u3.inn, prI_sh _ _, prD'_sh _, (by show 3 ≤ sizeLine; decide), fun Lr hLr => ?_⟩
      rw [prI_in, prI_in]
      have s4 := same_new (o := .lst [V.bl (inL R n i n), .bl (inL R n 0 i), .bl false]) hLr
      refine ⟨Lr, bD (inL R n i n) (inL R n 0 i) false, rfl, bD_v upd_same, bD_1 _ _ _, bD_2 _ _ _, bD_3 _ _ _, bD_4 _ _ _, rfl, _, rfl, ?_⟩
      have e3 : lumpV R n (.int i) (.int i) = false := inL_self pb h1 i
      have es : (bD (lumpV R n (.int i) (vi n)) (lumpV R n (.int 0) (.int i)) (lumpV R n (.int i) (.int i))).shown = (bD (inL R n i n) (inL R n 0 i) false).shown := by
        rw [e3]
        rfl
      show if (!decide (V.str (bD (lumpV R n (.int i) (vi n)) (lumpV R n (.int 0) (.int i)) (lumpV R n (.int i) (.int i))).shown = V.str (bD (inL R n i n) (inL R n 0 i) false).shown)) = true then _ else _
      rw [es, decide_eq_true rfl]
      exact iteF (k _ _ _ (Same.trans (Same.trans (Same.trans s1 s2) s3) s4) (((g1.tup hT1).tup hT2).lst hLr))
    | _ => cases hI
theorem ka_odds : KA CP AnyV 7 aOdds :=
  KA.cons (KE.c (fun _ => .non) trivial) (KA.cons (KE.c (fun _ => .str _) trivial) (KA.cons (KE.lst (KA.cons (KE.c (fun _ => .int _) trivial) KA.nil) (by decide) anyR) (KA.cons (KE.tup (KA.cons (KE.c (fun _ => .int _) trivial) (KA.cons (KE.c (fun _ => .int _) trivial) KA.nil)) (by decide) anyR)
    (KA.cons (KE.c (fun _ => .bl _) trivial) (KA.cons (KE.c (fun _ => .bl _) trivial) (KA.cons (fun σ H Q g q => ⟨10, 39, rfl, rfl, ⟨by decide, by decide, by decide⟩, q _ H (Same.refl H) g (.int _) trivial⟩) KA.nil))))))
theorem r_odds {D : Ends} {x0 x2 x3 x5 x6 x9 x10 x11 x12 x13 x14 x15 x16 : Option V} {d c : Addr} {pv : V} {L : Addr} {ys : List V} {R : Pl} {n : Nat} {H : Hp} (g : Good H) (src : Src H d c) (nL : L ≠ c) (u : Lu CP H pv L ys R n) (pb : PlB R) (h1 : 1 ≤ n) (h2 : n ≤ 1000) (p : PCl K CP)
    (k : ∀ y11 y12 y13 H', Drw d c H H' → D.nx [x0, some (.ref d), x2, x3, some (vi n), x5, x6, some pv, some (.ref L), x9, x10, y11, y12, y13, x14, x15, x16] H') :
    bOdds K CP D [x0, some (.ref d), x2, x3, some (vi n), x5, x6, some pv, some (.ref L), x9, x10, x11, x12, x13, x14, x15, x16] H := by
  refine ⟨_, rfl, d, c, rfl, g, src, fun x H1 dr1 kx => ?_⟩
  refine ka_odds (CP := CP) _ _ _ dr1.g fun xs H2 s2 g2 hl hk => ⟨small (by rw [List.length_cons]; omega), fun Lo hLo => ⟨Lo, rfl, ⟨_, SqL.of upd_same⟩, ?_⟩⟩
  have s3 := same_new (o := .lst (x :: xs)) hLo
  have g3 := g2.lst hLo (xs := x :: xs)
  have dr3 := dr1.same g3 (Same.trans s2 s3)
  have u3 := u.drw src dr3 nL
  refine for_list (K := K) (xs := x :: xs) (fun i σ H' => ∃ y11 y12 y13, σ = [x0, some (.ref d), x2, x3, some (vi n), x5, x6, some pv, some (.ref L), x9, x10, y11, y12, y13, x14, x15, x16] ∧ Same (upd H2 Lo (.lst (x :: xs))) H' ∧ Good H') ⟨x11, x12, x13, rfl, Same.refl _, g3⟩ (fun i σ H' _ h => ?_) ?_ ?_
  · obtain ⟨_, _, _, _, sm, _⟩ := h
    exact SqL.of (sm _ _ upd_same)
  · rintro i z σ H' hz ⟨y11, y12, y13, rfl, sm, g'⟩
    have kz : Kn CP H' z := by
      rcases List.mem_cons.mp (List.mem_of_getElem? hz) with rfl | hm
      · exact (kx.same (Same.trans s2 s3)).same sm
      · exact ((hk z hm).1.same s3).same sm
    exact r_odd g' (u3.mono sm) pb h1 h2 p kz fun z12 z13 H5 s5 g5 => ⟨_, z12, z13, rfl, Same.trans sm s5, g5⟩
  · rintro σ H' ⟨y11, y12, y13, rfl, sm, g'⟩
    exact k _ _ _ H' (dr3.same g' sm)
/-! ### the plan anew, the pairs, what crosses them -/
theorem r_anew {D : Ends} {x0 x1 x2 x4 x5 x6 x7 x8 x9 x10 x11 x12 x13 x14 x15 x16 : Option V} {wd : Addr} {tv ev pv : V} {R : Pl} {H : Hp} (g : Good H) (W : WdAt CP H wd tv ev pv R) (pb : PlB R)
    (k : ∀ x Ls H', Same H H' → Good H' → PlV CP H' (.ref x) R → H Ls = none → H' Ls = some (.lst []) → D.nx [x0, x1, x2, some (.ref wd), x4, x5, x6, x7, x8, x9, x10, x11, x12, x13, some (.ref x), some (.ref Ls), x16] H') :
    bAnew K CP D [x0, x1, x2, some (.ref wd), x4, x5, x6, x7, x8, x9, x10, x11, x12, x13, x14, x15, x16] H := by
  refine ⟨_, rfl, wd, tv, rfl, W.dget (wdK_t ..), _, rfl, wd, ev, rfl, W.dget (wdK_e ..), fun x dx hx hdx hne => ⟨x, dx, tv, ev, R, rfl, g.made hx hdx hne, upd_same, ?_, ?_, pb, rfl, ?_⟩⟩
  · exact W.t.mono (TM.of (Same.upd (same_new hdx) hx))
  · exact W.e.mono (TM.of (Same.upd (same_new hdx) hx))
  · rw [upd_self]
    have s4 : Same H (upd (upd H dx (.own x)) x (.ins CP dx (plF tv ev))) := Same.upd (same_new hdx) hx
    have g4 := (g.made hx hdx hne (C := CP)).ins' (fs := plF tv ev) upd_same
    rw [upd_self] at g4
    refine ⟨(by show 0 ≤ sizeLine; decide), fun Ls hLs => ⟨(by show 2 ≤ sizeLine; decide), fun T hT => ?_⟩⟩
    have s5 := same_new (o := .lst []) hLs
    have s6 := same_new (o := .tup [V.ref x, .ref Ls]) hT
    refine ⟨T, _, rfl, SqT.of upd_same, rfl, _, _, rfl, _, _, rfl, rfl, ?_⟩
    have ss := Same.trans (Same.trans s4 s5) s6
    exact k x Ls _ ss ((g4.lst hLs).tup hT) ⟨x, tv, ev, rfl, ⟨dx, s6 _ _ (s5 _ _ upd_same)⟩, W.t.mono (TM.of ss), W.e.mono (TM.of ss)⟩ (Same.free s4 hLs) (s6 _ _ upd_same)
def AllPr (H : Hp) (n : Nat) (xs : List V) : Prop := ∀ x ∈ xs, ∃ i j : Nat, PrV H x (i, j) ∧ i < j ∧ j ≤ n
theorem AllPr.mono {H H' : Hp} {n : Nat} {xs : List V} (m : TM H H') (h : AllPr H n xs) : AllPr H' n xs := fun x hx => by
  obtain ⟨i, j, h1, h2⟩ := h x hx
  exact ⟨i, j, h1.mono m, h2⟩
theorem r_some {D : Ends} {x0 x1 x2 x3 x5 x6 x7 x8 x9 x10 x11 x12 x13 x14 x16 : Option V} {Ls : Addr} {n : Nat} {H : Hp} (g : Good H) (hL : H Ls = some (.lst [])) (n1 : n ≤ 15)
    (k : ∀ y9 y10 Lz xs H', Same H H' → Good H' → H' Lz = some (.lst xs) → xs.length ≤ 1000 → AllPr H' n xs → D.nx [x0, x1, x2, x3, some (vi n), x5, x6, x7, x8, y9, y10, x11, x12, x13, x14, some (.ref Lz), x16] H') :
    bSome D [x0, x1, x2, x3, some (vi n), x5, x6, x7, x8, x9, x10, x11, x12, x13, x14, some (.ref Ls), x16] H := by
  refine ⟨_, rfl, _, _, rfl, rfl, 1, _, rfl, ⟨by decide, by decide, by omega, by omega⟩, ?_⟩
  have etn : ((n : Int) + 1 - 1).toNat = n := by omega
  rw [etn]
  refine for_range (lo := 1) (n := n) (fun i σ H' => ∃ y9 y10 Lz xs, σ = [x0, x1, x2, x3, some (vi n), x5, x6, x7, x8, y9, y10, x11, x12, x13, x14, some (.ref Lz), x16] ∧ Same H H' ∧ Good H' ∧ H' Lz = some (.lst xs) ∧ xs.length ≤ 15 * i ∧ AllPr H' n xs)
    ⟨x9, x10, Ls, [], rfl, Same.refl H, g, hL, by simp, fun x h => nomatch h⟩ ?_ ?_
  · rintro i σ H' hi ⟨y9, y10, Lz, xs, rfl, sm, g', hLz, hlen, hall⟩
    have ej : (1 : Int) + (i : Int) = ((1 + i : Nat) : Int) := rfl
    rw [ej]
    refine ⟨_, rfl, _, rfl, _, rfl, by omega, by omega, fun Lc hLc => ?_⟩
    rw [Int.toNat_natCast]
    refine lc_range (lo := 0) (n := 1 + i) (fun j H2 => Same H' H2 ∧ Good H2 ∧ ∃ zs, H2 Lc = some (.lst zs) ∧ zs.length = j ∧ AllPr H2 n zs) ⟨same_new hLc, g'.lst hLc, [], upd_same, rfl, fun x h => nomatch h⟩ ?_ ?_
    · rintro j H2 hj ⟨s2, g2, zs, hz, hzl, hza⟩
      have ej2 : (0 : Int) + (j : Int) = (j : Int) := Int.zero_add _
      rw [ej2]
      refine ⟨rfl, tyes ?_⟩
      refine ⟨_, rfl, _, rfl, (by show 2 ≤ sizeLine; decide), fun T hT => ?_⟩
      have s3 := same_new (o := .tup [vi j, vi (1 + i)]) hT
      have hz3 := s3 _ _ hz
      have tm := TM.lst hz3 (o := .lst (zs ++ [.ref T]))
      have eT : (upd (upd H2 T (.tup [vi j, vi (1 + i)])) Lc (.lst (zs ++ [.ref T]))) T = some (.tup [vi j, vi (1 + i)]) := tm _ _ upd_same
      refine ⟨zs, hz3, small1000 (by omega), Same.upd (Same.trans s2 s3) hLc, (g2.tup hT).lst' hz3, _, upd_same, by rw [List.length_append]; simp [hzl], fun x hx => ?_⟩
      rcases List.mem_append.mp hx with hx | hx
      · exact (AllPr.mono tm (AllPr.mono (TM.of s3) hza)) x hx
      · rw [List.mem_singleton.mp hx]
        exact ⟨j, 1 + i, ⟨T, rfl, eT⟩, by omega, by omega⟩
    · rintro H2 ⟨s2, g2, zs, hz, hzl, hza⟩
      have hLz2 := s2 _ _ hLz
      refine ⟨Lz, Lc, xs, zs, rfl, rfl, hLz2, hz, small (by omega), fun Ln hLn => ?_⟩
      have s3 := same_new (o := .lst (xs ++ zs)) hLn
      refine ⟨_, _, Ln, xs ++ zs, rfl, Same.trans (Same.trans sm s2) s3, g2.lst hLn, upd_same, by rw [List.length_append]; omega, fun x hx => ?_⟩
      rcases List.mem_append.mp hx with hx | hx
      · exact (AllPr.mono (TM.of (Same.trans s2 s3)) hall) x hx
      · exact (AllPr.mono (TM.of s3) hza) x hx
  · rintro σ H' ⟨y9, y10, Lz, xs, rfl, sm, g', hLz, hlen, hall⟩
    exact k y9 y10 Lz xs H' sm g' hLz (by omega) hall
theorem cutV_mem {xs : List V} {lo hi : Option Int} {x : V} (h : x ∈ cutV xs lo hi) : x ∈ xs := List.mem_of_mem_drop (List.mem_of_mem_take h)
theorem r_cross {D : Ends} {x0 x2 x3 x5 x6 x8 x9 x10 x11 x12 x13 x16 : Option V} {d c : Addr} {pv av : V} {R : Pl} {n : Nat} {Lz : Addr} {xs : List V} {H : Hp} (g : Good H) (src : Src H d c) (pp : PlV CP H pv R) (pa : PlV CP H av R) (pb : PlB R) (n2 : n ≤ 1000) (hLz : H Lz = some (.lst xs)) (hlen : xs.length ≤ 1000) (hall : AllPr H n xs)
    (k : ∀ H', Drw d c H H' → D.nx [x0, some (.ref d), x2, x3, some (vi n), x5, x6, some pv, x8, x9, x10, x11, x12, x13, some av, some (.ref Lz), x16] H') :
    bCross K CP D [x0, some (.ref d), x2, x3, some (vi n), x5, x6, some pv, x8, x9, x10, x11, x12, x13, some av, some (.ref Lz), x16] H := by
  refine ⟨_, rfl, _, rfl, d, c, Lz, xs, rfl, g, src, hLz, hlen, fun p ys H1 dr1 hp0 hp hm => ?_⟩
  refine ⟨_, rfl, p, ys, rfl, SqL.of hp, fun p2 hp2 => ⟨p2, rfl, ⟨_, SqL.of upd_same⟩, fun Dl hD => ?_⟩⟩
  have s2 := same_new (o := .lst (cutV ys none (some 20))) hp2
  have g2 := dr1.g.lst hp2 (xs := cutV ys none (some 20))
  have dr2 := dr1.same g2 s2
  have pp2 := pp.drw src dr2
  have pa2 := pa.drw src dr2
  have hall2 := hall.mono (dr2.tm src)
  refine lc_list (K := K) (xs := cutV ys none (some 20)) (fun i H' => Same (upd H1 p2 (.lst (cutV ys none (some 20)))) H' ∧ Good H' ∧ H' Dl = some (.lst [])) ⟨same_new hD, g2.lst hD, upd_same⟩ (fun i H' _ h => SqL.of (h.1 _ _ upd_same)) ?_ ?_
  · rintro i z H' hz ⟨sm, g', hDl⟩
    obtain ⟨a, b, hpr, hab, hbn⟩ := hall2 z (hm z (cutV_mem (List.mem_of_getElem? hz)))
    obtain ⟨tz, rfl, htz⟩ := hpr.mono (TM.of sm)
    refine ⟨rfl, ?_⟩
    refine ⟨_, rfl, _, rfl, _, rfl, tz, _, 0, _, rfl, rfl, SqT.of htz, rfl, _, rfl, tz, _, 1, _, rfl, rfl, SqT.of htz, rfl, av, R, n, a, b, rfl, g', pa2.mono sm, pb, n2, hab, hbn, fun ha => ?_, fun ha => ?_⟩
    · refine ⟨_, rfl, _, rfl, _, rfl, tz, _, 0, _, rfl, rfl, SqT.of htz, rfl, _, rfl, tz, _, 1, _, rfl, rfl, SqT.of htz, rfl, pv, R, n, a, b, rfl, g', pp2.mono sm, pb, n2, hab, hbn, fun _ => ?_, fun hb => ?_⟩
      · refine ⟨.none, .none, .non, .non, by decide +kernel, by decide +kernel, _, rfl, ?_⟩
        show if (!PyData.eqv .none .none) = true then _ else _
        rw [show PyData.eqv .none .none = true by decide +kernel]
        exact iteF ⟨sm, g', hDl⟩
      · rw [ha] at hb
        cases hb
    · intro r1 H3 s3 g3 hr1
      refine ⟨_, rfl, _, rfl, _, rfl, tz, _, 0, _, rfl, rfl, SqT.of (s3 _ _ htz), rfl, _, rfl, tz, _, 1, _, rfl, rfl, SqT.of (s3 _ _ htz), rfl, pv, R, n, a, b, rfl, g3, (pp2.mono sm).mono s3, pb, n2, hab, hbn, fun hb => ?_, fun _ => ?_⟩
      · rw [ha] at hb
        cases hb
      · intro r2 H4 s4 g4 hr2
        obtain ⟨t1, rfl, ht1⟩ := hr1
        obtain ⟨t2, rfl, ht2⟩ := hr2
        refine ⟨prD' (crossF R n a b), prD' (crossF R n a b), .tup (SqT.of (s4 _ _ ht1)) (.cons (.int _) (.cons (.int _) .nil)), .tup (SqT.of ht2) (.cons (.int _) (.cons (.int _) .nil)), prD'_sh1 _, prD'_sh1 _, _, rfl, ?_⟩
        rw [prD'_eqv, decide_eq_true rfl]
        exact iteF ⟨Same.trans sm (Same.trans s3 s4), g4, s4 _ _ (s3 _ _ hDl)⟩
  · rintro H' ⟨sm, g', hDl⟩
    exact ⟨g', Dl, [], [], rfl, hDl, fun _ _ => .nil, by decide +kernel, iteF (k H' (dr2.same g' sm))⟩
end
end KL

namespace KL
open PySem PySem.Spec L2
open PyProof.Rows hiding St
section
variable {K : PySem.W.Frag} {CP : Addr}
theorem noN_and {x y : V} (h : isN x = false) : (isN x && isN y) = false := by rw [h, Bool.false_and]
theorem noN_and2 {x y : V} (h : isN y = false) : (isN x && isN y) = false := by rw [h, Bool.and_false]
theorem r_str {D : Ends} {x0 x1 x2 x3 x4 x5 x6 x8 x9 x10 x12 x13 x14 x15 x16 : Option V} {pv x : V} {R : Pl} {H : Hp} (g : Good H) (pp : PlV CP H pv R) (pb : PlB R) (kn : Kn CP H x) (no : isN x = false)
    (k : ∀ y13 H', Same H H' → Good H' → D.nx [x0, x1, x2, x3, x4, x5, x6, some pv, x8, x9, x10, some x, x12, y13, x14, x15, x16] H') :
    bStr K CP D [x0, x1, x2, x3, x4, x5, x6, some pv, x8, x9, x10, some x, x12, x13, x14, x15, x16] H := by
  refine ⟨_, rfl, 10, 30, rfl, rfl, ⟨by decide, by decide, by decide⟩, _, rfl, pv, R, _, x, .int 5, false, rfl, g, pp, pb, kn, .int _, .inl ⟨noN_and no, rfl⟩, ?_⟩
  refine ⟨_, rfl, 10, 30, rfl, rfl, ⟨by decide, by decide, by decide⟩, _, rfl, pv, R, _, .int 0, x, false, rfl, g, pp, pb, .int _, kn, .inl ⟨noN_and2 no, rfl⟩, ?_⟩
  refine ⟨_, rfl, 10, 30, rfl, rfl, ⟨by decide, by decide, by decide⟩, _, rfl, _, rfl, pv, R, _, x, x, false, rfl, g, pp, pb, kn, kn, .inl ⟨noN_and no, rfl⟩, (by show 3 ≤ sizeLine; decide), fun Lt hLt => ?_⟩
  have s1 := same_new (o := .lst [V.bl false, .bl false, .bl false]) hLt
  refine ⟨_, rfl, Lt, bD false false false, rfl, bD_v upd_same, bD_1 _ _ _, bD_2 _ _ _, bD_3 _ _ _, bD_4 _ _ _, rfl, _, rfl, ?_⟩
  show if (!decide (V.str (bD false false false).shown = V.str "[False, False, False]")) = true then _ else _
  rw [bD_f, decide_eq_true rfl]
  exact iteF (k _ _ s1 (g.lst hLt))
theorem r_strange {D : Ends} {x0 x2 x3 x4 x5 x6 x8 x9 x10 x11 x12 x13 x14 x15 x16 : Option V} {d c : Addr} {pv : V} {R : Pl} {H : Hp} (g : Good H) (src : Src H d c) (pp : PlV CP H pv R) (pb : PlB R)
    (k : ∀ y11 y13 H', Drw d c H H' → D.nx [x0, some (.ref d), x2, x3, x4, x5, x6, some pv, x8, x9, x10, y11, x12, y13, x14, x15, x16] H') :
    bStrange K CP D [x0, some (.ref d), x2, x3, x4, x5, x6, some pv, x8, x9, x10, x11, x12, x13, x14, x15, x16] H := by
  refine ⟨_, rfl, d, c, rfl, g, src, fun p ys H1 dr1 hp0 hp hk => ⟨p, rfl, ⟨_, SqL.of hp⟩, ?_⟩⟩
  have pp1 := pp.drw src dr1
  refine for_list (K := K) (xs := ys) (fun i σ H' => ∃ y11 y13, σ = [x0, some (.ref d), x2, x3, x4, x5, x6, some pv, x8, x9, x10, y11, x12, y13, x14, x15, x16] ∧ Same H1 H' ∧ Good H') ⟨x11, x13, rfl, Same.refl _, dr1.g⟩ (fun i σ H' _ h => ?_) ?_ ?_
  · obtain ⟨_, _, _, sm, _⟩ := h
    exact SqL.of (sm _ _ hp)
  · rintro i z σ H' hz ⟨y11, y13, rfl, sm, g'⟩
    obtain ⟨kz, nz⟩ := hk z (List.mem_of_getElem? hz)
    exact r_str g' (pp1.mono sm) pb (kz.same sm) nz fun z13 H5 s5 g5 => ⟨_, z13, rfl, Same.trans sm s5, g5⟩
  · rintro σ H' ⟨y11, y13, rfl, sm, g'⟩
    exact k _ _ H' (dr1.same g' sm)
theorem r_draw {D : Ends} {x0 x2 x3 x4 x5 x6 x7 x8 x9 x10 x11 x12 x13 x14 x15 x16 : Option V} {d c : Addr} {H : Hp} (g : Good H) (src : Src H d c)
    (k : ∀ wd tv ev pv R n o H', Drw d c H H' → WdAt CP H' wd tv ev pv R → PlB R → 1 ≤ n → n ≤ 15 → 1 ≤ o → o ≤ 15 → D.nx [x0, some (.ref d), x2, some (.ref wd), some (vi n), some (vi o), x6, x7, x8, x9, x10, x11, x12, x13, x14, x15, x16] H') :
    bDraw K CP D [x0, some (.ref d), x2, x3, x4, x5, x6, x7, x8, x9, x10, x11, x12, x13, x14, x15, x16] H := by
  refine ⟨_, rfl, d, c, rfl, g, src, fun wv R H1 dr1 hw pb => ?_⟩
  obtain ⟨wd, tv, ev, pv, rfl, W⟩ := hw
  refine ⟨_, rfl, d, c, 15, rfl, dr1.g, dr1.s, by decide, fun r1 H2 dr2 hr1 => ?_⟩
  refine ⟨1, _, rfl, rfl, _, rfl, d, c, 15, rfl, dr2.g, dr2.s, by decide, fun r2 H3 dr3 hr2 => ?_⟩
  have hr1' : r1 < 15 := hr1
  have hr2' : r2 < 15 := hr2
  refine ⟨1, _, rfl, rfl, (by show 3 ≤ sizeLine; decide), fun T hT => ⟨T, _, rfl, SqT.of upd_same, rfl, _, _, rfl, _, _, rfl, _, _, rfl, rfl, ?_⟩⟩
  have sT := same_new (o := .tup [V.ref wd, .int (1 + (r1 : Int)), .int (1 + (r2 : Int))]) hT
  have gT := dr3.g.tup hT (xs := [V.ref wd, .int (1 + (r1 : Int)), .int (1 + (r2 : Int))])
  exact k wd tv ev pv R (1 + r1) (1 + r2) _ (((dr1.trans dr2).trans dr3).same gT sT) (((W.drw dr1.s dr2).drw dr2.s dr3).mono sT) pb (by omega) (by omega) (by omega) (by omega)
theorem r_lap {D : Ends} {x0 x2 x3 x4 x5 x6 x7 x8 x9 x10 x11 x12 x13 x14 x15 x16 : Option V} {d c : Addr} {H : Hp} (g : Good H) (src : Src H d c) (p : PCl K CP)
    (k : ∀ z3 z4 z5 z6 z7 z8 z9 z10 z11 z12 z13 z14 z15 H', Drw d c H H' → D.nx [x0, some (.ref d), x2, z3, z4, z5, z6, z7, z8, z9, z10, z11, z12, z13, z14, z15, x16] H') :
    bLap K CP D [x0, some (.ref d), x2, x3, x4, x5, x6, x7, x8, x9, x10, x11, x12, x13, x14, x15, x16] H := by
  unfold bLap tSeq
  refine r_draw g src fun wd tv ev pv R n o H1 dr1 W pb n1 n2 o1 o2 => ?_
  refine r_many dr1.g W pb n1 (by omega) o1 (by omega) trivial fun y6 y9 y10 L ys H2 s2 g2 hL u => ?_
  have dr2 := dr1.same g2 s2
  have nL : L ≠ c := (dr1.s.ne hL).2
  have W2 := W.mono s2
  refine r_odds g2 dr2.s nL u pb n1 (by omega) p fun y11 y12 y13 H3 dr3 => ?_
  have dr13 := dr2.trans dr3
  have W3 := W2.drw dr2.s dr3
  refine r_anew dr3.g W3 pb fun x Ls H4 s4 g4 pa hL0 hLs => ?_
  refine r_some g4 hLs n2 fun z9 z10 Lz xs H5 s5 g5 hLz hlen hall => ?_
  have s35 := Same.trans s4 s5
  have dr5 := dr13.same g5 s35
  have pp := W3.p.mono s35
  refine r_cross g5 dr5.s pp (pa.mono s5) pb (by omega) hLz hlen hall fun H6 dr6 => ?_
  have dr16 := dr5.trans dr6
  refine r_strange dr6.g dr6.s (pp.drw dr5.s dr6) pb fun z11 z13 H7 dr7 => ?_
  exact k _ _ _ _ _ _ _ _ _ _ _ _ _ H7 (dr16.trans dr7)
theorem r_law {H : Hp} {a : Addr} {ns : List Int} (g : Good H) (hs : SqL K H a (ns.map V.int)) (hns : ns.length ≤ 1000) (p : PCl K CP) (Q : VK) (hQ : ∀ H', Q (.bl true) H') :
    bLaw K CP { nx := fun _ H' => Q .non H', rt := Q } (start n_the_law [.ref a]) H := by
  refine ⟨_, rfl, a, ns, rfl, g, hs, hns, fun d c H1 s1 g1 src hd hc => ?_⟩
  refine ⟨2, rfl, by decide, by decide, ?_⟩
  refine for_range (lo := 0) (n := 2) (fun i σ H' => Drw d c H1 H' ∧ ∃ x2 x3 x4 x5 x6 x7 x8 x9 x10 x11 x12 x13 x14 x15 x16, σ = [some (.ref a), some (.ref d), x2, x3, x4, x5, x6, x7, x8, x9, x10, x11, x12, x13, x14, x15, x16])
    ⟨Drw.refl g1 src, none, none, none, none, none, none, none, none, none, none, none, none, none, none, none, rfl⟩ ?_ ?_
  · rintro i σ H' hi ⟨dr, x2, x3, x4, x5, x6, x7, x8, x9, x10, x11, x12, x13, x14, x15, x16, rfl⟩
    exact r_lap dr.g dr.s p fun z3 z4 z5 z6 z7 z8 z9 z10 z11 z12 z13 z14 z15 H2 dr2 => ⟨dr.trans dr2, _, _, _, _, _, _, _, _, _, _, _, _, _, _, _, rfl⟩
  · rintro σ H' _
    exact hQ H'
end
end KL

/-! KLEnd: a law that is entered from the caller alone, so that no repr is under way (its guards are known). -/
namespace KL
open PySem PySem.Spec L2
open PyProof.Rows hiding St
/-- one call of a def, from an entry whose surroundings are given -/
theorem enter_fn {P : Program} {w : World} {K : PySem.W.Frag} {mg : Str → Option Value} {base : Heap} {x qual : Str} {params : Arguments} {body : List Stmt} {scope : Scope} {f : Addr} {fd : FuncData} {N ps : List Str} {k : Nat}
    (F : FunD K x qual params body scope [] [] f fd) (S : FnScope N ps scope) {A : Around} {outer : List Env} {t0 : Shared} {M : Hp} {args : Args} {us : List Value} {vs : List V} {Q : VK} {E : XK}
    (room : Room (k + 1) A) (en : Env0 P w K mg base A outer t0 M) (bd : BindsTo t0 fd args (ps.zip us)) (rel : Vals vs us) (hl : vs.length = ps.length)
    (walk : ∀ cdv : Value, Room k (A.deeper (envOfC qual scope t0.heap.objs.size f cdv)) → ∃ rd, PSs (cxOf CX0 P w K mg base N qual scope f cdv A outer t0 M E) body rd ∧ rd { nx := fun _ H' => Q .non H', rt := Q } (start N vs) M) :
    codeAny (model P w) A (.call (.ref f) args) (CR CX0 outer P w M t0 Q E) t0 := by
  obtain ⟨oc, od, dV, kV, doc, pm, an, cdv, ct, osl, rfl, found, code, _, _⟩ := F.ex
  have inK : K.In t0.heap := en.mod.kin.keeps fun b o z => (en.bs b o z).1
  have nolim : t0.heap.NoLimit := en.mod.nolimit.keeps fun b o z => (en.bs b o z).1
  have kinds : ∀ y ∈ ps.zip us, scope.names.lookup y.1 = some .local ∨ (scope.names.lookup y.1 = some .cell ∧ ((cellsFrom (t0.heap.objs.size + 1) scope.names []).lookup y.1).isSome = true) := by
    rintro ⟨nm, u⟩ hy
    rcases S.par nm (List.of_mem_zip hy).1 with z | z
    · exact Or.inl z
    · exact Or.inr ⟨z, PySem.W.cellsFrom_some _ _ _ (Or.inl z)⟩
  refine codeAny_call_function room.depth (inK _ _ found) rfl S.co S.gen rfl (PySem.W.codeRec_of inK code) (bd _ _ _ _ ?_)
  refine wpAny_newFunctionEnv_cells S.kind kinds fun env heq t1 x1 => ?_
  subst heq
  refine ⟨nolim.keeps x1.toInCall.keep, codeAny_func ?_⟩
  obtain ⟨rd, h1, h2⟩ := walk cdv (room.deeper _)
  have inv0 : L2.Inv (cxOf CX0 P w K mg base N qual scope f cdv A outer t0 M E) [] (start N vs) M t1 := inv_start S room.hd en hl rel x1
  refine wpAny_mono (h1.run [] t1 (start N vs) M _ inv0 h2) (fun fl t2 z => ?_) fun e t2 z => z
  cases fl with
  | next =>
    obtain ⟨σ', M', J, q⟩ := z
    exact ⟨V.non, M', J.os, J.bare, J.base, J.hok, (rfl : RelV V.non Value.none), q⟩
  | ret u =>
    obtain ⟨v, σ', M', J, rv, q⟩ := z
    exact ⟨v, M', J.os, J.bare, J.base, J.hok, rv, q⟩
  | brk =>
    obtain ⟨_, _, _, q⟩ := z
    exact q.elim
  | cont =>
    obtain ⟨_, _, _, q⟩ := z
    exact q.elim
/-- the caller's entry, and what it leaves: go tells the call over a heap in which nothing but the script may be told -/
theorem enter_law {P : Program} {w : World} {K : PySem.W.Frag} {mg mb : Str → Option Value} {fa a : Addr} {t1 : Shared} {us : List Value} {zs : List Int}
    (inK : K.In t1.heap) (glob : t1.heap.Ns mainGlobals mg) (blt : t1.heap.Ns builtinsNs mb) (boot : ∀ x : Str, x ≠ "__name__" → mb x = bootBuiltins x) (nolim : t1.heap.NoLimit) (nogen : t1.gens = #[])
    (script : t1.heap.get? a = some { cls := .type "list", data := .seq us.toArray }) (isInts : IntsAre us zs) (few : zs.length ≤ sizeLine)
    (go : ∀ (base : Heap) (M : Hp), K.In base → base.Ns mainGlobals mg → Env0 P w K mg base callerA [] t1 M → Only M → SqL K M a (zs.map V.int) →
      codeAny (model P w) callerA (.call (.ref fa) ⟨[.ref a], []⟩) (CR CX0 [] P w M t1 (fun v _ => v = .bl true) fun _ _ _ => False) t1) :
    codeAny (model P w) callerA (.call (.ref fa) ⟨[.ref a], []⟩) (fun r t2 => r = .ok (.ret (.bool true)) ∧ OldK t1.heap t2.heap ∧ t2.os = t1.os ∧ AllBare t2.gens) t1 := by
  have vals := vals_ints isInts
  have same := isInts.length
  have main : ∀ M : Hp, Only M → SqL K M a (zs.map V.int) → HOk P w M t1.heap → (∀ b, M b ≠ none → b = a) → (M a ≠ none → K.lookup a = none) →
      codeAny (model P w) callerA (.call (.ref fa) ⟨[.ref a], []⟩) (fun r t2 => r = .ok (.ret (.bool true)) ∧ OldK t1.heap t2.heap ∧ t2.os = t1.os ∧ AllBare t2.gens) t1 := by
    intro M only sq ok one away
    have low : ∀ {b : Addr} {o : Obj}, t1.heap.get? b = some o → M b = none → (hidT t1.heap M).get? b = some o := fun z n => hidT_get z n
    have nodict : ∀ {b : Addr} {o : Obj} {es : Array DictEntry} {ep : Nat}, t1.heap.get? b = some o → o.data = .dict es ep → M b = none := by
      intro b o es ep z1 z2
      cases z3 : M b with
      | none => rfl
      | some u =>
        have z4 : b = a := one b (by rw [z3]; simp)
        subst z4
        rw [script] at z1
        cases z1
        have z5 : Data.seq us.toArray _ = Data.dict es ep := z2
        cases z5
    have nsOf : ∀ {b : Addr} {m : Str → Option Value}, t1.heap.Ns b m → (hidT t1.heap M).Ns b m := by
      rintro b m ⟨o, es, ep, z1, z2, z3⟩
      exact ⟨o, es, ep, low z1 (nodict z1 z2), z2, z3⟩
    have inB : K.In (hidT t1.heap M) := by
      intro b o z1
      refine low (inK b o z1) ?_
      cases z3 : M b with
      | none => rfl
      | some u =>
        have z4 : b = a := one b (by rw [z3]; simp)
        subst z4
        rw [away (by rw [z3]; simp)] at z1
        cases z1
    have md : Mod K mg (hidT t1.heap M) := ⟨inB, nsOf glob, ⟨mb, nsOf blt, boot⟩, by
      obtain ⟨mc, z1, z2⟩ := nolim
      exact ⟨mc, nsOf z1, z2⟩⟩
    have en : Env0 P w K mg (hidT t1.heap M) callerA [] t1 M := ⟨rfl, md, fun b o z => of_hidT z, Nat.le_of_eq (hidT_size _ _), trivial, fun b z => absurd (show b ∈ ([] : List Addr) from z) (by simp), ok, .of_eq nogen⟩
    refine codeAny_mono (go _ M inB (nsOf glob) en only sq) fun r t2 z => ?_
    cases r with
    | error e => exact False.elim z
    | ok fl =>
      cases fl with
      | next => exact z.elim
      | brk => exact z.elim
      | cont => exact z.elim
      | ret u =>
        obtain ⟨v, M', os, bare, un, ok', rv, q⟩ := z
        have q1 : v = .bl true := q
        subst q1
        obtain rfl : u = Value.bool true := rv
        refine ⟨rfl, OldK.of_keep fun b o z1 => ?_, os, bare⟩
        cases z3 : M b with
        | none => exact un.keep b o z1 z3 (fun z => absurd (show b ∈ ([] : List Addr) from z) (by simp)) (by simp)
        | some u =>
          rcases only b with z4 | ⟨ob, xs, z4⟩
          · rw [z3] at z4
            cases z4
          · obtain ⟨y1, _⟩ := ok b _ z4
            obtain ⟨y2, _⟩ := ok' b _ (un.frzs b ob _ z4)
            rw [z1] at y1
            cases y1
            exact y2
  cases found : K.lookup a with
  | some o =>
    have z := inK a o found
    rw [script] at z
    cases z
    exact main (fun _ => none) (fun _ => Or.inl rfl) (Or.inr ⟨_, us.toArray, _, found, rfl, rfl, rfl, by rw [List.size_toArray, same]; exact few, by simpa using vals⟩)
      (fun b u z => by have z1 : (none : Option HO) = some u := z; cases z1) (fun b z => absurd rfl z) fun z => absurd rfl z
  | none =>
    refine main (fun b => if b = a then some (.frz { cls := .type "list", data := .seq us.toArray } (.lst (zs.map V.int))) else none) (fun b => ?_)
      (Or.inl (Or.inr ⟨{ cls := .type "list", data := .seq us.toArray }, if_pos rfl⟩)) (fun b u z => ?_) (fun b z => ?_) fun _ => found
    · by_cases y : b = a
      · exact Or.inr ⟨_, _, if_pos y⟩
      · exact Or.inl (if_neg y)
    · by_cases y : b = a
      · have z1 := (if_pos y).symm.trans z
        cases z1
        subst y
        exact ⟨script, by rw [List.length_map]; exact few, us, _, vals, script⟩
      · have z1 := (if_neg y).symm.trans z
        cases z1
    · by_cases y : b = a
      · exact y
      · exact absurd (if_neg y) z
theorem Only.good {M : Hp} (h : Only M) : Good M := by
  refine ⟨fun a kvs e => ?_, fun a C dx fs e => ?_, fun a o u e => ?_⟩
  · rcases h a with z | ⟨ob, xs, z⟩ <;> rw [e] at z <;> cases z
  · rcases h a with z | ⟨ob, xs, z⟩ <;> rw [e] at z <;> cases z
  · rcases h a with z | ⟨ob, xs, z⟩
    · rw [e] at z
      cases z
    · rw [e] at z
      cases z
      exact ⟨xs, rfl⟩
end KL

set_option maxHeartbeats 0
namespace KL
open PySem PySem.Spec PyProof.Rows L2
def d_is_integer : He.DefD := ⟨("is_integer", none), "is_integer", "is_integer", defArgs s_is_integer, defBody s_is_integer, defScope s_is_integer, [], []⟩
def d_is_number : He.DefD := ⟨("is_number", none), "is_number", "is_number", defArgs s_is_number, defBody s_is_number, defScope s_is_number, [], []⟩
def d_wrong_shape : He.DefD := ⟨("wrong_shape", none), "wrong_shape", "wrong_shape", defArgs s_wrong_shape, defBody s_wrong_shape, defScope s_wrong_shape, [], []⟩
def d_size_of : He.DefD := ⟨("size_of", none), "size_of", "size_of", defArgs s_size_of, defBody s_size_of, defScope s_size_of, [], []⟩
def d_wrong_sizes : He.DefD := ⟨("wrong_sizes", none), "wrong_sizes", "wrong_sizes", defArgs s_wrong_sizes, defBody s_wrong_sizes, defScope s_wrong_sizes, [], []⟩
def d_wrong_table : He.DefD := ⟨("wrong_table", none), "wrong_table", "wrong_table", defArgs s_wrong_table, defBody s_wrong_table, defScope s_wrong_table, [], []⟩
def d_table_size : He.DefD := ⟨("table_size", none), "table_size", "table_size", defArgs s_table_size, defBody s_table_size, defScope s_table_size, [], []⟩
def d_entry : He.DefD := ⟨("entry", none), "entry", "entry", defArgs s_entry, defBody s_entry, defScope s_entry, [], []⟩
def d_counts : He.DefD := ⟨("counts", none), "counts", "counts", defArgs s_counts, defBody s_counts, defScope s_counts, [], []⟩
def d_widths : He.DefD := ⟨("widths", none), "widths", "widths", defArgs s_widths, defBody s_widths, defScope s_widths, [], []⟩
def d_shape_lumps : He.DefD := ⟨("shape_lumps", none), "shape_lumps", "shape_lumps", defArgs s_shape_lumps, defBody s_shape_lumps, defScope s_shape_lumps, [], []⟩
def d_comb_parts : He.DefD := ⟨("comb_parts", none), "comb_parts", "comb_parts", defArgs s_comb_parts, defBody s_comb_parts, defScope s_comb_parts, [], []⟩
def d_Rows_init : He.DefD := ⟨("Rows", some "__init__"), "__init__", "Rows.__init__", defArgs s_Rows_init, defBody s_Rows_init, defScope s_Rows_init, [], []⟩
def d_Rows_places : He.DefD := ⟨("Rows", some "places"), "places", "Rows.places", defArgs s_Rows_places, defBody s_Rows_places, defScope s_Rows_places, [], []⟩
def d_Rows_stretch : He.DefD := ⟨("Rows", some "stretch"), "stretch", "Rows.stretch", defArgs s_Rows_stretch, defBody s_Rows_stretch, defScope s_Rows_stretch, [], []⟩
def d_Rows_opened : He.DefD := ⟨("Rows", some "opened"), "opened", "Rows.opened", defArgs s_Rows_opened, defBody s_Rows_opened, defScope s_Rows_opened, [], []⟩
def d_Rows_parts : He.DefD := ⟨("Rows", some "parts"), "parts", "Rows.parts", defArgs s_Rows_parts, defBody s_Rows_parts, defScope s_Rows_parts, [], []⟩
def d_Rows_narrowed : He.DefD := ⟨("Rows", some "narrowed"), "narrowed", "Rows.narrowed", defArgs s_Rows_narrowed, defBody s_Rows_narrowed, defScope s_Rows_narrowed, [], []⟩
def d_Rows_least : He.DefD := ⟨("Rows", some "least"), "least", "Rows.least", defArgs s_Rows_least, defBody s_Rows_least, defScope s_Rows_least, [], []⟩
def d_are_lump_numbers : He.DefD := ⟨("are_lump_numbers", none), "are_lump_numbers", "are_lump_numbers", defArgs s_are_lump_numbers, defBody s_are_lump_numbers, defScope s_are_lump_numbers, [], []⟩
def d_is_lump : He.DefD := ⟨("is_lump", none), "is_lump", "is_lump", defArgs s_is_lump, defBody s_is_lump, defScope s_is_lump, [], []⟩
def d_crossing : He.DefD := ⟨("crossing", none), "crossing", "crossing", defArgs s_crossing, defBody s_crossing, defScope s_crossing, [], []⟩
def d_wrong_member : He.DefD := ⟨("wrong_member", none), "wrong_member", "wrong_member", defArgs s_wrong_member, defBody s_wrong_member, defScope s_wrong_member, [], []⟩
def d_wrong_plan : He.DefD := ⟨("wrong_plan", none), "wrong_plan", "wrong_plan", defArgs s_wrong_plan, defBody s_wrong_plan, defScope s_wrong_plan, [], []⟩
def d_Plan_init : He.DefD := ⟨("Plan", some "__init__"), "__init__", "Plan.__init__", defArgs s_Plan_init, defBody s_Plan_init, defScope s_Plan_init, [], []⟩
def d_Plan_end : He.DefD := ⟨("Plan", some "end"), "end", "Plan.end", defArgs s_Plan_end, defBody s_Plan_end, defScope s_Plan_end, [], []⟩
def d_Plan_stage : He.DefD := ⟨("Plan", some "stage"), "stage", "Plan.stage", defArgs s_Plan_stage, defBody s_Plan_stage, defScope s_Plan_stage, [], []⟩
def d_l_source : He.DefD := ⟨("_law_source", none), "_law_source", "_law_source", defArgs s_l_source, defBody s_l_source, defScope s_l_source, [], []⟩
def d_l_pick : He.DefD := ⟨("_law_pick", none), "_law_pick", "_law_pick", defArgs s_l_pick, defBody s_l_pick, defScope s_l_pick, [], []⟩
def d_l_comb : He.DefD := ⟨("_law_comb", none), "_law_comb", "_law_comb", defArgs s_l_comb, defBody s_l_comb, defScope s_l_comb, [], []⟩
def d_l_halves : He.DefD := ⟨("_law_halves", none), "_law_halves", "_law_halves", defArgs s_l_halves, defBody s_l_halves, defScope s_l_halves, [], []⟩
def d_l_shape : He.DefD := ⟨("_law_shape", none), "_law_shape", "_law_shape", defArgs s_l_shape, defBody s_l_shape, defScope s_l_shape, [], []⟩
def d_l_any_table : He.DefD := ⟨("_law_any_table", none), "_law_any_table", "_law_any_table", defArgs s_l_any_table, defBody s_l_any_table, defScope s_l_any_table, [], []⟩
def d_l_of : He.DefD := ⟨("_law_of", none), "_law_of", "_law_of", defArgs s_l_of, defBody s_l_of, defScope s_l_of, [], []⟩
def d_l_made : He.DefD := ⟨("_law_made", none), "_law_made", "_law_made", defArgs s_l_made, defBody s_l_made, defScope s_l_made, [], []⟩
def d_l_long_plan : He.DefD := ⟨("_law_long_plan", none), "_law_long_plan", "_law_long_plan", defArgs s_l_long_plan, defBody s_l_long_plan, defScope s_l_long_plan, [], []⟩
def d_l_size : He.DefD := ⟨("_law_size", none), "_law_size", "_law_size", defArgs s_l_size, defBody s_l_size, defScope s_l_size, [], []⟩
def d_l_filled : He.DefD := ⟨("_law_filled", none), "_law_filled", "_law_filled", defArgs s_l_filled, defBody s_l_filled, defScope s_l_filled, [], []⟩
def d_l_entry : He.DefD := ⟨("_law_entry", none), "_law_entry", "_law_entry", defArgs s_l_entry, defBody s_l_entry, defScope s_l_entry, [], []⟩
def d_l_pressed : He.DefD := ⟨("_law_pressed", none), "_law_pressed", "_law_pressed", defArgs s_l_pressed, defBody s_l_pressed, defScope s_l_pressed, [], []⟩
def d_l_glue : He.DefD := ⟨("_law_glue", none), "_law_glue", "_law_glue", defArgs s_l_glue, defBody s_l_glue, defScope s_l_glue, [], []⟩
def d_l_table : He.DefD := ⟨("_law_table", none), "_law_table", "_law_table", defArgs s_l_table, defBody s_l_table, defScope s_l_table, [], []⟩
def d_l_plan : He.DefD := ⟨("_law_plan", none), "_law_plan", "_law_plan", defArgs s_l_plan, defBody s_l_plan, defScope s_l_plan, [], []⟩
def d_l_any_plan : He.DefD := ⟨("_law_any_plan", none), "_law_any_plan", "_law_any_plan", defArgs s_l_any_plan, defBody s_l_any_plan, defScope s_l_any_plan, [], []⟩
def d_l_lumps : He.DefD := ⟨("_law_lumps", none), "_law_lumps", "_law_lumps", defArgs s_l_lumps, defBody s_l_lumps, defScope s_l_lumps, [], []⟩
def d_l_stage : He.DefD := ⟨("_law_stage", none), "_law_stage", "_law_stage", defArgs s_l_stage, defBody s_l_stage, defScope s_l_stage, [], []⟩
def d_l_told : He.DefD := ⟨("_law_told", none), "_law_told", "_law_told", defArgs s_l_told, defBody s_l_told, defScope s_l_told, [], []⟩
def d_l_odd : He.DefD := ⟨("_law_odd", none), "_law_odd", "_law_odd", defArgs s_l_odd, defBody s_l_odd, defScope s_l_odd, [], []⟩
def d_l_mixed : He.DefD := ⟨("_law_mixed", none), "_law_mixed", "_law_mixed", defArgs s_l_mixed, defBody s_l_mixed, defScope s_l_mixed, [], []⟩
def d_l_strange : He.DefD := ⟨("_law_strange", none), "_law_strange", "_law_strange", defArgs s_l_strange, defBody s_l_strange, defScope s_l_strange, [], []⟩
def d_l_crosses : He.DefD := ⟨("_law_crosses", none), "_law_crosses", "_law_crosses", defArgs s_l_crosses, defBody s_l_crosses, defScope s_l_crosses, [], []⟩
def d_l_crossed_right : He.DefD := ⟨("_law_crossed_right", none), "_law_crossed_right", "_law_crossed_right", defArgs s_l_crossed_right, defBody s_l_crossed_right, defScope s_l_crossed_right, [], []⟩
def d_the_law : He.DefD := ⟨("law", none), "law", "law", defArgs s_the_law, defBody s_the_law, defScope s_the_law, [], []⟩
def fn1 : List He.DefD := [d_is_integer, d_is_number, d_wrong_shape, d_size_of, d_wrong_sizes, d_wrong_table, d_table_size, d_entry, d_counts, d_widths, d_shape_lumps, d_comb_parts, d_Rows_init, d_Rows_places, d_Rows_stretch, d_Rows_opened, d_Rows_parts, d_Rows_narrowed, d_Rows_least, d_are_lump_numbers, d_is_lump, d_crossing, d_wrong_member, d_wrong_plan, d_Plan_init, d_Plan_end]
def fn2 : List He.DefD := [d_Plan_stage, d_l_source, d_l_pick, d_l_comb, d_l_halves, d_l_shape, d_l_any_table, d_l_of, d_l_made, d_l_long_plan, d_l_size, d_l_filled, d_l_entry, d_l_pressed, d_l_glue, d_l_table, d_l_plan, d_l_any_plan, d_l_lumps, d_l_stage, d_l_told, d_l_odd, d_l_mixed, d_l_strange, d_l_crosses, d_l_crossed_right, d_the_law]
def fn : List He.DefD := fn1 ++ fn2
def fa1 : List He.Fa := [.glo "LumpError", .glo "BadPlan", .glo "is_integer", .glo "is_number", .glo "wrong_shape", .glo "size_of", .glo "wrong_sizes", .glo "wrong_table", .glo "table_size", .glo "entry", .glo "counts", .glo "widths", .glo "shape_lumps", .glo "comb_parts", .glo "Rows", .glo "are_lump_numbers", .glo "is_lump", .glo "crossing", .glo "ENDS", .glo "wrong_member", .glo "wrong_plan", .glo "Plan", .glo "_law_source", .glo "_law_pick", .glo "_law_comb", .glo "_law_halves", .glo "_law_shape", .glo "_law_any_table", .glo "_law_of", .glo "_law_made"]
def fa2 : List He.Fa := [.glo "_law_long_plan", .glo "_law_size", .glo "_law_filled", .glo "_law_entry", .glo "_law_pressed", .glo "_law_glue", .glo "_law_table", .glo "_law_plan", .glo "_law_any_plan", .glo "_law_lumps", .glo "_law_stage", .glo "_law_told", .glo "_law_odd", .glo "_law_mixed", .glo "_law_strange", .glo "_law_crosses", .glo "_law_crossed_right", .glo "law"]
def fa3 : List He.Fa := [.free "isinstance", .free "int", .free "bool", .free "tuple", .free "list", .free "str", .free "len", .free "enumerate", .free "range", .free "min", .free "max", .free "abs", .free "repr"]
def fa4 : List He.Fa := [.cls "Rows", .mkr "Rows", .cls "Plan", .mkr "Plan", .noat "Rows" "plan", .noat "Rows" "many", .noat "Rows" "width", .noat "Plan" "own_tables", .noat "Plan" "own_end", .meth "Rows" "places", .meth "Rows" "stretch", .meth "Rows" "opened", .meth "Rows" "parts", .meth "Rows" "narrowed", .meth "Rows" "least", .meth "Plan" "end", .meth "Plan" "stage"]
def fa : List He.Fa := fa1 ++ (fa2 ++ (fa3 ++ fa4))
def lo1 : List PySem.Str := ["_wall", "LumpError", "BadPlan", "is_integer", "is_number", "wrong_shape", "size_of", "wrong_sizes", "wrong_table", "table_size", "entry", "counts", "widths", "shape_lumps", "comb_parts", "Rows", "are_lump_numbers", "is_lump", "crossing", "ENDS", "wrong_member", "wrong_plan", "Plan", "_law_source", "_law_pick", "_law_comb", "_law_halves", "_law_shape"]
def lo2 : List PySem.Str := ["_law_any_table", "_law_of", "_law_made", "_law_long_plan", "_law_size", "_law_filled", "_law_entry", "_law_pressed", "_law_glue", "_law_table", "_law_plan", "_law_any_plan", "_law_lumps", "_law_stage", "_law_told", "_law_odd", "_law_mixed", "_law_strange", "_law_crosses", "_law_crossed_right"]
def loose : List PySem.Str := lo1 ++ lo2
abbrev RR : PySem.W.OpenRow := PySem.W.OpenLaw.row PySem.Challenge.rw_lumpplans_k25_whole_lump_or_not
def exx (K : PySem.W.Frag) : Bool := He.tupB K "ENDS" [.str "left", .str "right"] && (He.eqO (PySem.W.findIn K (.ref (He.ga K "Plan")) "__class__") (some (some (.builtin "object.__class__"))) &&
  (decide (PySem.W.specialIn K (.builtin "object.__class__") "__get__" = some (some (.builtin "getset_descriptor.__get__"))) && (decide (PySem.W.takesIn K (.builtin "object.__class__") = some true) && (decide (PySem.W.mroIn K (He.ga K "Plan") (.type "object") = some true) &&
    (decide (PySem.W.kitOne K (.ref (He.ga K "Plan")) (.type "int") = some false) && decide (PySem.W.kitOne K (.ref (He.ga K "Plan")) (.type "bool") = some false))))))
abbrev hk : PySem.W.Hook := He.hookX 6 fa fn [] [] exx
def ob (s : PySem.W.SharedT) : He.AlX := He.obsX 6 fa fn [] [] exx (HandSHeadRun.getT s)
theorem ob_eq (s : PySem.W.SharedT) : ob s = hk.obs s.abs := He.obsX_eq (HandSHeadRun.getT_eq s)
theorem run (w : World) : HandSHeadRun.RunEq RR (PySem.W.view RR.prog [57]) hk ob 6000 loose w := by
  intro os
  kernel_rfl
end KL

set_option maxHeartbeats 4000000
/-! KLFacts: what the head tells, by names; all defs in a chain; the law. -/
namespace KL
open PySem PySem.Spec L2
open PyProof.Rows hiding St
section
variable {K : PySem.W.Frag} {h : Heap} {mg : Str → Option Value} {w : World}
abbrev Told (w : World) (h : Heap) (K : PySem.W.Frag) : Prop := He.SaysX fa fn [] [] exx w h K
abbrev cP (K : PySem.W.Frag) : Addr := He.ga K "Plan"
abbrev cR (K : PySem.W.Frag) : Addr := He.ga K "Rows"
abbrev cE (K : PySem.W.Frag) : Addr := He.ga K "ENDS"
theorem told_txt (X : K.In h) (G : h.Ns mainGlobals mg) (c : Told w h K) : Txt K mg (cP K) (cR K) (cE K) where
  isinstance_ := He.free_ok X G (c.t.d.fact 48 (f := .free "isinstance") rfl)
  int_ := He.free_ok X G (c.t.d.fact 49 (f := .free "int") rfl)
  bool_ := He.free_ok X G (c.t.d.fact 50 (f := .free "bool") rfl)
  tuple_ := He.free_ok X G (c.t.d.fact 51 (f := .free "tuple") rfl)
  list_ := He.free_ok X G (c.t.d.fact 52 (f := .free "list") rfl)
  str_ := He.free_ok X G (c.t.d.fact 53 (f := .free "str") rfl)
  len_ := He.free_ok X G (c.t.d.fact 54 (f := .free "len") rfl)
  enumerate_ := He.free_ok X G (c.t.d.fact 55 (f := .free "enumerate") rfl)
  range_ := He.free_ok X G (c.t.d.fact 56 (f := .free "range") rfl)
  min_ := He.free_ok X G (c.t.d.fact 57 (f := .free "min") rfl)
  max_ := He.free_ok X G (c.t.d.fact 58 (f := .free "max") rfl)
  abs_ := He.free_ok X G (c.t.d.fact 59 (f := .free "abs") rfl)
  repr_ := He.free_ok X G (c.t.d.fact 60 (f := .free "repr") rfl)
  ends := He.glo_ok X G (c.t.d.fact 18 (f := .glo "ENDS") rfl)
  endsT := fun H => He.tupB_ok (He.ba c.more).1 H
  clP := He.cls_ok (c.t.d.fact 63 (f := .cls "Plan") rfl)
  clR := He.cls_ok (c.t.d.fact 61 (f := .cls "Rows") rfl)
  nT := He.noat_ok (c.t.d.fact 68 (f := .noat "Plan" "own_tables") rfl)
  nE := He.noat_ok (c.t.d.fact 69 (f := .noat "Plan" "own_end") rfl)
  nP := He.noat_ok (c.t.d.fact 65 (f := .noat "Rows" "plan") rfl)
  nM := He.noat_ok (c.t.d.fact 66 (f := .noat "Rows" "many") rfl)
  nW := He.noat_ok (c.t.d.fact 67 (f := .noat "Rows" "width") rfl)
theorem told_pcl (c : Told w h K) : PCl K (cP K) := by
  obtain ⟨_, m⟩ := He.ba c.more
  obtain ⟨m1, m⟩ := He.ba m
  obtain ⟨m2, m⟩ := He.ba m
  obtain ⟨m3, m⟩ := He.ba m
  obtain ⟨m4, m⟩ := He.ba m
  obtain ⟨m5, m6⟩ := He.ba m
  exact ⟨He.cls_ok (c.t.d.fact 63 (f := .cls "Plan") rfl), He.eqO_ok m1, of_decide_eq_true m2, of_decide_eq_true m3, of_decide_eq_true m4, of_decide_eq_true m5, of_decide_eq_true m6⟩
theorem at_is_integer (X : K.In h) (G : h.Ns mainGlobals mg) (c : Told w h K) : DefAt K mg "is_integer" s_is_integer := by
  obtain ⟨fd, F⟩ := c.t.d.def_ 0 (d := d_is_integer) rfl
  exact ⟨_, fd, He.glo_ok X G (c.t.d.fact 2 (f := .glo "is_integer") rfl), F⟩
theorem at_is_number (X : K.In h) (G : h.Ns mainGlobals mg) (c : Told w h K) : DefAt K mg "is_number" s_is_number := by
  obtain ⟨fd, F⟩ := c.t.d.def_ 1 (d := d_is_number) rfl
  exact ⟨_, fd, He.glo_ok X G (c.t.d.fact 3 (f := .glo "is_number") rfl), F⟩
theorem at_wrong_shape (X : K.In h) (G : h.Ns mainGlobals mg) (c : Told w h K) : DefAt K mg "wrong_shape" s_wrong_shape := by
  obtain ⟨fd, F⟩ := c.t.d.def_ 2 (d := d_wrong_shape) rfl
  exact ⟨_, fd, He.glo_ok X G (c.t.d.fact 4 (f := .glo "wrong_shape") rfl), F⟩
theorem at_size_of (X : K.In h) (G : h.Ns mainGlobals mg) (c : Told w h K) : DefAt K mg "size_of" s_size_of := by
  obtain ⟨fd, F⟩ := c.t.d.def_ 3 (d := d_size_of) rfl
  exact ⟨_, fd, He.glo_ok X G (c.t.d.fact 5 (f := .glo "size_of") rfl), F⟩
theorem at_wrong_sizes (X : K.In h) (G : h.Ns mainGlobals mg) (c : Told w h K) : DefAt K mg "wrong_sizes" s_wrong_sizes := by
  obtain ⟨fd, F⟩ := c.t.d.def_ 4 (d := d_wrong_sizes) rfl
  exact ⟨_, fd, He.glo_ok X G (c.t.d.fact 6 (f := .glo "wrong_sizes") rfl), F⟩
theorem at_wrong_table (X : K.In h) (G : h.Ns mainGlobals mg) (c : Told w h K) : DefAt K mg "wrong_table" s_wrong_table := by
  obtain ⟨fd, F⟩ := c.t.d.def_ 5 (d := d_wrong_table) rfl
  exact ⟨_, fd, He.glo_ok X G (c.t.d.fact 7 (f := .glo "wrong_table") rfl), F⟩
theorem at_table_size (X : K.In h) (G : h.Ns mainGlobals mg) (c : Told w h K) : DefAt K mg "table_size" s_table_size := by
  obtain ⟨fd, F⟩ := c.t.d.def_ 6 (d := d_table_size) rfl
  exact ⟨_, fd, He.glo_ok X G (c.t.d.fact 8 (f := .glo "table_size") rfl), F⟩
theorem at_entry (X : K.In h) (G : h.Ns mainGlobals mg) (c : Told w h K) : DefAt K mg "entry" s_entry := by
  obtain ⟨fd, F⟩ := c.t.d.def_ 7 (d := d_entry) rfl
  exact ⟨_, fd, He.glo_ok X G (c.t.d.fact 9 (f := .glo "entry") rfl), F⟩
theorem at_counts (X : K.In h) (G : h.Ns mainGlobals mg) (c : Told w h K) : DefAt K mg "counts" s_counts := by
  obtain ⟨fd, F⟩ := c.t.d.def_ 8 (d := d_counts) rfl
  exact ⟨_, fd, He.glo_ok X G (c.t.d.fact 10 (f := .glo "counts") rfl), F⟩
theorem at_widths (X : K.In h) (G : h.Ns mainGlobals mg) (c : Told w h K) : DefAt K mg "widths" s_widths := by
  obtain ⟨fd, F⟩ := c.t.d.def_ 9 (d := d_widths) rfl
  exact ⟨_, fd, He.glo_ok X G (c.t.d.fact 11 (f := .glo "widths") rfl), F⟩
theorem at_shape_lumps (X : K.In h) (G : h.Ns mainGlobals mg) (c : Told w h K) : DefAt K mg "shape_lumps" s_shape_lumps := by
  obtain ⟨fd, F⟩ := c.t.d.def_ 10 (d := d_shape_lumps) rfl
  exact ⟨_, fd, He.glo_ok X G (c.t.d.fact 12 (f := .glo "shape_lumps") rfl), F⟩
theorem at_comb_parts (X : K.In h) (G : h.Ns mainGlobals mg) (c : Told w h K) : DefAt K mg "comb_parts" s_comb_parts := by
  obtain ⟨fd, F⟩ := c.t.d.def_ 11 (d := d_comb_parts) rfl
  exact ⟨_, fd, He.glo_ok X G (c.t.d.fact 13 (f := .glo "comb_parts") rfl), F⟩
theorem at_Rows_init (X : K.In h) (G : h.Ns mainGlobals mg) (c : Told w h K) : IDefAt K mg (He.ga K "Rows") "Rows" "Rows.__init__" s_Rows_init := by
  obtain ⟨fd, F⟩ := c.t.d.def_ 12 (d := d_Rows_init) rfl
  exact ⟨_, fd, He.mkr_ok (c.t.d.fact 62 (f := .mkr "Rows") rfl), He.glo_ok X G (c.t.d.fact 14 (f := .glo "Rows") rfl), F⟩
theorem at_Rows_places (c : Told w h K) : MDefAt K (He.ga K "Rows") "places" "Rows.places" s_Rows_places := by
  obtain ⟨fd, F⟩ := c.t.d.def_ 13 (d := d_Rows_places) rfl
  exact ⟨_, fd, He.meth_ok (c.t.d.fact 70 (f := .meth "Rows" "places") rfl), F⟩
theorem at_Rows_stretch (c : Told w h K) : MDefAt K (He.ga K "Rows") "stretch" "Rows.stretch" s_Rows_stretch := by
  obtain ⟨fd, F⟩ := c.t.d.def_ 14 (d := d_Rows_stretch) rfl
  exact ⟨_, fd, He.meth_ok (c.t.d.fact 71 (f := .meth "Rows" "stretch") rfl), F⟩
theorem at_Rows_opened (c : Told w h K) : MDefAt K (He.ga K "Rows") "opened" "Rows.opened" s_Rows_opened := by
  obtain ⟨fd, F⟩ := c.t.d.def_ 15 (d := d_Rows_opened) rfl
  exact ⟨_, fd, He.meth_ok (c.t.d.fact 72 (f := .meth "Rows" "opened") rfl), F⟩
theorem at_Rows_parts (c : Told w h K) : MDefAt K (He.ga K "Rows") "parts" "Rows.parts" s_Rows_parts := by
  obtain ⟨fd, F⟩ := c.t.d.def_ 16 (d := d_Rows_parts) rfl
  exact ⟨_, fd, He.meth_ok (c.t.d.fact 73 (f := .meth "Rows" "parts") rfl), F⟩
theorem at_Rows_narrowed (c : Told w h K) : MDefAt K (He.ga K "Rows") "narrowed" "Rows.narrowed" s_Rows_narrowed := by
  obtain ⟨fd, F⟩ := c.t.d.def_ 17 (d := d_Rows_narrowed) rfl
  exact ⟨_, fd, He.meth_ok (c.t.d.fact 74 (f := .meth "Rows" "narrowed") rfl), F⟩
theorem at_Rows_least (c : Told w h K) : MDefAt K (He.ga K "Rows") "least" "Rows.least" s_Rows_least := by
  obtain ⟨fd, F⟩ := c.t.d.def_ 18 (d := d_Rows_least) rfl
  exact ⟨_, fd, He.meth_ok (c.t.d.fact 75 (f := .meth "Rows" "least") rfl), F⟩
theorem at_are_lump_numbers (X : K.In h) (G : h.Ns mainGlobals mg) (c : Told w h K) : DefAt K mg "are_lump_numbers" s_are_lump_numbers := by
  obtain ⟨fd, F⟩ := c.t.d.def_ 19 (d := d_are_lump_numbers) rfl
  exact ⟨_, fd, He.glo_ok X G (c.t.d.fact 15 (f := .glo "are_lump_numbers") rfl), F⟩
theorem at_is_lump (X : K.In h) (G : h.Ns mainGlobals mg) (c : Told w h K) : DefAt K mg "is_lump" s_is_lump := by
  obtain ⟨fd, F⟩ := c.t.d.def_ 20 (d := d_is_lump) rfl
  exact ⟨_, fd, He.glo_ok X G (c.t.d.fact 16 (f := .glo "is_lump") rfl), F⟩
theorem at_crossing (X : K.In h) (G : h.Ns mainGlobals mg) (c : Told w h K) : DefAt K mg "crossing" s_crossing := by
  obtain ⟨fd, F⟩ := c.t.d.def_ 21 (d := d_crossing) rfl
  exact ⟨_, fd, He.glo_ok X G (c.t.d.fact 17 (f := .glo "crossing") rfl), F⟩
theorem at_wrong_member (X : K.In h) (G : h.Ns mainGlobals mg) (c : Told w h K) : DefAt K mg "wrong_member" s_wrong_member := by
  obtain ⟨fd, F⟩ := c.t.d.def_ 22 (d := d_wrong_member) rfl
  exact ⟨_, fd, He.glo_ok X G (c.t.d.fact 19 (f := .glo "wrong_member") rfl), F⟩
theorem at_wrong_plan (X : K.In h) (G : h.Ns mainGlobals mg) (c : Told w h K) : DefAt K mg "wrong_plan" s_wrong_plan := by
  obtain ⟨fd, F⟩ := c.t.d.def_ 23 (d := d_wrong_plan) rfl
  exact ⟨_, fd, He.glo_ok X G (c.t.d.fact 20 (f := .glo "wrong_plan") rfl), F⟩
theorem at_Plan_init (X : K.In h) (G : h.Ns mainGlobals mg) (c : Told w h K) : IDefAt K mg (He.ga K "Plan") "Plan" "Plan.__init__" s_Plan_init := by
  obtain ⟨fd, F⟩ := c.t.d.def_ 24 (d := d_Plan_init) rfl
  exact ⟨_, fd, He.mkr_ok (c.t.d.fact 64 (f := .mkr "Plan") rfl), He.glo_ok X G (c.t.d.fact 21 (f := .glo "Plan") rfl), F⟩
theorem at_Plan_end (c : Told w h K) : MDefAt K (He.ga K "Plan") "end" "Plan.end" s_Plan_end := by
  obtain ⟨fd, F⟩ := c.t.d.def_ 25 (d := d_Plan_end) rfl
  exact ⟨_, fd, He.meth_ok (c.t.d.fact 76 (f := .meth "Plan" "end") rfl), F⟩
theorem at_Plan_stage (c : Told w h K) : MDefAt K (He.ga K "Plan") "stage" "Plan.stage" s_Plan_stage := by
  obtain ⟨fd, F⟩ := c.t.d.def_ 26 (d := d_Plan_stage) rfl
  exact ⟨_, fd, He.meth_ok (c.t.d.fact 77 (f := .meth "Plan" "stage") rfl), F⟩
theorem at_l_source (X : K.In h) (G : h.Ns mainGlobals mg) (c : Told w h K) : DefAt K mg "_law_source" s_l_source := by
  obtain ⟨fd, F⟩ := c.t.d.def_ 27 (d := d_l_source) rfl
  exact ⟨_, fd, He.glo_ok X G (c.t.d.fact 22 (f := .glo "_law_source") rfl), F⟩
theorem at_l_pick (X : K.In h) (G : h.Ns mainGlobals mg) (c : Told w h K) : DefAt K mg "_law_pick" s_l_pick := by
  obtain ⟨fd, F⟩ := c.t.d.def_ 28 (d := d_l_pick) rfl
  exact ⟨_, fd, He.glo_ok X G (c.t.d.fact 23 (f := .glo "_law_pick") rfl), F⟩
theorem at_l_comb (X : K.In h) (G : h.Ns mainGlobals mg) (c : Told w h K) : DefAt K mg "_law_comb" s_l_comb := by
  obtain ⟨fd, F⟩ := c.t.d.def_ 29 (d := d_l_comb) rfl
  exact ⟨_, fd, He.glo_ok X G (c.t.d.fact 24 (f := .glo "_law_comb") rfl), F⟩
theorem at_l_halves (X : K.In h) (G : h.Ns mainGlobals mg) (c : Told w h K) : DefAt K mg "_law_halves" s_l_halves := by
  obtain ⟨fd, F⟩ := c.t.d.def_ 30 (d := d_l_halves) rfl
  exact ⟨_, fd, He.glo_ok X G (c.t.d.fact 25 (f := .glo "_law_halves") rfl), F⟩
theorem at_l_shape (X : K.In h) (G : h.Ns mainGlobals mg) (c : Told w h K) : DefAt K mg "_law_shape" s_l_shape := by
  obtain ⟨fd, F⟩ := c.t.d.def_ 31 (d := d_l_shape) rfl
  exact ⟨_, fd, He.glo_ok X G (c.t.d.fact 26 (f := .glo "_law_shape") rfl), F⟩
theorem at_l_any_table (X : K.In h) (G : h.Ns mainGlobals mg) (c : Told w h K) : DefAt K mg "_law_any_table" s_l_any_table := by
  obtain ⟨fd, F⟩ := c.t.d.def_ 32 (d := d_l_any_table) rfl
  exact ⟨_, fd, He.glo_ok X G (c.t.d.fact 27 (f := .glo "_law_any_table") rfl), F⟩
theorem at_l_of (X : K.In h) (G : h.Ns mainGlobals mg) (c : Told w h K) : DefAt K mg "_law_of" s_l_of := by
  obtain ⟨fd, F⟩ := c.t.d.def_ 33 (d := d_l_of) rfl
  exact ⟨_, fd, He.glo_ok X G (c.t.d.fact 28 (f := .glo "_law_of") rfl), F⟩
theorem at_l_made (X : K.In h) (G : h.Ns mainGlobals mg) (c : Told w h K) : DefAt K mg "_law_made" s_l_made := by
  obtain ⟨fd, F⟩ := c.t.d.def_ 34 (d := d_l_made) rfl
  exact ⟨_, fd, He.glo_ok X G (c.t.d.fact 29 (f := .glo "_law_made") rfl), F⟩
theorem at_l_long_plan (X : K.In h) (G : h.Ns mainGlobals mg) (c : Told w h K) : DefAt K mg "_law_long_plan" s_l_long_plan := by
  obtain ⟨fd, F⟩ := c.t.d.def_ 35 (d := d_l_long_plan) rfl
  exact ⟨_, fd, He.glo_ok X G (c.t.d.fact 30 (f := .glo "_law_long_plan") rfl), F⟩
theorem at_l_size (X : K.In h) (G : h.Ns mainGlobals mg) (c : Told w h K) : DefAt K mg "_law_size" s_l_size := by
  obtain ⟨fd, F⟩ := c.t.d.def_ 36 (d := d_l_size) rfl
  exact ⟨_, fd, He.glo_ok X G (c.t.d.fact 31 (f := .glo "_law_size") rfl), F⟩
theorem at_l_filled (X : K.In h) (G : h.Ns mainGlobals mg) (c : Told w h K) : DefAt K mg "_law_filled" s_l_filled := by
  obtain ⟨fd, F⟩ := c.t.d.def_ 37 (d := d_l_filled) rfl
  exact ⟨_, fd, He.glo_ok X G (c.t.d.fact 32 (f := .glo "_law_filled") rfl), F⟩
theorem at_l_entry (X : K.In h) (G : h.Ns mainGlobals mg) (c : Told w h K) : DefAt K mg "_law_entry" s_l_entry := by
  obtain ⟨fd, F⟩ := c.t.d.def_ 38 (d := d_l_entry) rfl
  exact ⟨_, fd, He.glo_ok X G (c.t.d.fact 33 (f := .glo "_law_entry") rfl), F⟩
theorem at_l_pressed (X : K.In h) (G : h.Ns mainGlobals mg) (c : Told w h K) : DefAt K mg "_law_pressed" s_l_pressed := by
  obtain ⟨fd, F⟩ := c.t.d.def_ 39 (d := d_l_pressed) rfl
  exact ⟨_, fd, He.glo_ok X G (c.t.d.fact 34 (f := .glo "_law_pressed") rfl), F⟩
theorem at_l_glue (X : K.In h) (G : h.Ns mainGlobals mg) (c : Told w h K) : DefAt K mg "_law_glue" s_l_glue := by
  obtain ⟨fd, F⟩ := c.t.d.def_ 40 (d := d_l_glue) rfl
  exact ⟨_, fd, He.glo_ok X G (c.t.d.fact 35 (f := .glo "_law_glue") rfl), F⟩
theorem at_l_table (X : K.In h) (G : h.Ns mainGlobals mg) (c : Told w h K) : DefAt K mg "_law_table" s_l_table := by
  obtain ⟨fd, F⟩ := c.t.d.def_ 41 (d := d_l_table) rfl
  exact ⟨_, fd, He.glo_ok X G (c.t.d.fact 36 (f := .glo "_law_table") rfl), F⟩
theorem at_l_plan (X : K.In h) (G : h.Ns mainGlobals mg) (c : Told w h K) : DefAt K mg "_law_plan" s_l_plan := by
  obtain ⟨fd, F⟩ := c.t.d.def_ 42 (d := d_l_plan) rfl
  exact ⟨_, fd, He.glo_ok X G (c.t.d.fact 37 (f := .glo "_law_plan") rfl), F⟩
theorem at_l_any_plan (X : K.In h) (G : h.Ns mainGlobals mg) (c : Told w h K) : DefAt K mg "_law_any_plan" s_l_any_plan := by
  obtain ⟨fd, F⟩ := c.t.d.def_ 43 (d := d_l_any_plan) rfl
  exact ⟨_, fd, He.glo_ok X G (c.t.d.fact 38 (f := .glo "_law_any_plan") rfl), F⟩
theorem at_l_lumps (X : K.In h) (G : h.Ns mainGlobals mg) (c : Told w h K) : DefAt K mg "_law_lumps" s_l_lumps := by
  obtain ⟨fd, F⟩ := c.t.d.def_ 44 (d := d_l_lumps) rfl
  exact ⟨_, fd, He.glo_ok X G (c.t.d.fact 39 (f := .glo "_law_lumps") rfl), F⟩
theorem at_l_stage (X : K.In h) (G : h.Ns mainGlobals mg) (c : Told w h K) : DefAt K mg "_law_stage" s_l_stage := by
  obtain ⟨fd, F⟩ := c.t.d.def_ 45 (d := d_l_stage) rfl
  exact ⟨_, fd, He.glo_ok X G (c.t.d.fact 40 (f := .glo "_law_stage") rfl), F⟩
theorem at_l_told (X : K.In h) (G : h.Ns mainGlobals mg) (c : Told w h K) : DefAt K mg "_law_told" s_l_told := by
  obtain ⟨fd, F⟩ := c.t.d.def_ 46 (d := d_l_told) rfl
  exact ⟨_, fd, He.glo_ok X G (c.t.d.fact 41 (f := .glo "_law_told") rfl), F⟩
theorem at_l_odd (X : K.In h) (G : h.Ns mainGlobals mg) (c : Told w h K) : DefAt K mg "_law_odd" s_l_odd := by
  obtain ⟨fd, F⟩ := c.t.d.def_ 47 (d := d_l_odd) rfl
  exact ⟨_, fd, He.glo_ok X G (c.t.d.fact 42 (f := .glo "_law_odd") rfl), F⟩
theorem at_l_mixed (X : K.In h) (G : h.Ns mainGlobals mg) (c : Told w h K) : DefAt K mg "_law_mixed" s_l_mixed := by
  obtain ⟨fd, F⟩ := c.t.d.def_ 48 (d := d_l_mixed) rfl
  exact ⟨_, fd, He.glo_ok X G (c.t.d.fact 43 (f := .glo "_law_mixed") rfl), F⟩
theorem at_l_strange (X : K.In h) (G : h.Ns mainGlobals mg) (c : Told w h K) : DefAt K mg "_law_strange" s_l_strange := by
  obtain ⟨fd, F⟩ := c.t.d.def_ 49 (d := d_l_strange) rfl
  exact ⟨_, fd, He.glo_ok X G (c.t.d.fact 44 (f := .glo "_law_strange") rfl), F⟩
theorem at_l_crosses (X : K.In h) (G : h.Ns mainGlobals mg) (c : Told w h K) : DefAt K mg "_law_crosses" s_l_crosses := by
  obtain ⟨fd, F⟩ := c.t.d.def_ 50 (d := d_l_crosses) rfl
  exact ⟨_, fd, He.glo_ok X G (c.t.d.fact 45 (f := .glo "_law_crosses") rfl), F⟩
theorem at_l_crossed_right (X : K.In h) (G : h.Ns mainGlobals mg) (c : Told w h K) : DefAt K mg "_law_crossed_right" s_l_crossed_right := by
  obtain ⟨fd, F⟩ := c.t.d.def_ 51 (d := d_l_crossed_right) rfl
  exact ⟨_, fd, He.glo_ok X G (c.t.d.fact 46 (f := .glo "_law_crossed_right") rfl), F⟩
end
theorem law_all {P : Program} {w : World} {K : PySem.W.Frag} {h base : Heap} {mg : Str → Option Value} (X : K.In h) (G : h.Ns mainGlobals mg) (c : Told w h K)
    {f : Addr} {cdv : Value} {A : Around} {outer : List Env} {s : Shared} {H : Hp} {E' : XK} (hr : Room 127 (A.deeper (envOfC "law" (L2.defScope s_the_law) s.heap.objs.size f cdv)))
    (hg : (A.deeper (envOfC "law" (L2.defScope s_the_law) s.heap.objs.size f cdv)).guards = some []) :
    PSs (cxOf CX0 P w K mg base n_the_law "law" (L2.defScope s_the_law) f cdv A outer s H E').nox (L2.defBody s_the_law) (bLaw K (cP K)) := by
  have T := told_txt X G c
  have p := told_pcl c
  have h_is_integer := c_is_integer (P := P) (w := w) (base := base) (at_is_integer X G c) T p
  have h_is_number := c_is_number (P := P) (w := w) (base := base) (at_is_number X G c) T h_is_integer
  have h_wrong_shape := c_wrong_shape (P := P) (w := w) (base := base) (at_wrong_shape X G c) T 12
  have h_size_of := c_size_of (P := P) (w := w) (base := base) (at_size_of X G c) T
  have h_wrong_sizes := c_wrong_sizes (P := P) (w := w) (base := base) (at_wrong_sizes X G c) T h_size_of
  have h_wrong_table := c_wrong_table (P := P) (w := w) (base := base) (at_wrong_table X G c) T h_wrong_shape h_wrong_sizes
  have h_table_size := c_table_size (P := P) (w := w) (base := base) (at_table_size X G c) T
  have h_entry := c_entry (P := P) (w := w) (base := base) (at_entry X G c) T
  have h_wrong_member := c_wrong_member (P := P) (w := w) (base := base) (at_wrong_member X G c) T h_wrong_table
  have h_wrong_plan := c_wrong_plan (P := P) (w := w) (base := base) (at_wrong_plan X G c) T h_wrong_member
  have h_Plan_init := c_Plan_init (P := P) (w := w) (base := base) (at_Plan_init X G c) T h_wrong_plan
  have h_Plan_end := c_Plan_end (P := P) (w := w) (base := base) (at_Plan_end c) T
  have h_Plan_stage := c_Plan_stage (P := P) (w := w) (base := base) (at_Plan_stage c) T
  have h_counts := c_counts (P := P) (w := w) (base := base) (at_counts X G c) T h_Plan_stage h_table_size
  have h_widths := c_widths (P := P) (w := w) (base := base) (at_widths X G c) T h_counts h_Plan_stage h_table_size
  have h_shape_lumps := c_shape_lumps (P := P) (w := w) (base := base) (at_shape_lumps X G c) T h_size_of
  have h_comb_parts := c_comb_parts (P := P) (w := w) (base := base) (at_comb_parts X G c) T
  have h_are_lump_numbers := c_are_lump_numbers (P := P) (w := w) (base := base) (at_are_lump_numbers X G c) T h_Plan_stage h_Plan_end h_table_size h_entry h_shape_lumps
  have h_is_lump := c_is_lump (P := P) (w := w) (base := base) (at_is_lump X G c) T h_is_number h_are_lump_numbers
  have h_Rows_init := c_Rows_init (P := P) (w := w) (base := base) (at_Rows_init X G c) T h_counts h_widths
  have h_Rows_places := c_Rows_places (P := P) (w := w) (base := base) (at_Rows_places c) T
  have h_Rows_stretch := c_Rows_stretch (P := P) (w := w) (base := base) (at_Rows_stretch c) T h_Plan_stage h_table_size h_entry
  have h_Rows_opened := c_Rows_opened (P := P) (w := w) (base := base) (at_Rows_opened c) T h_Rows_stretch
  have h_Rows_narrowed := c_Rows_narrowed (P := P) (w := w) (base := base) (at_Rows_narrowed c) T h_size_of
  have h_Rows_parts := c_Rows_parts (P := P) (w := w) (base := base) (at_Rows_parts c) T h_comb_parts h_Plan_end h_Rows_opened h_size_of
  have h_Rows_least := c_Rows_least (P := P) (w := w) (base := base) (at_Rows_least c) T h_Plan_stage h_table_size h_Rows_stretch h_Rows_narrowed h_Plan_end
  have h_crossing := c_crossing (P := P) (w := w) (base := base) (at_crossing X G c) T h_is_lump h_Rows_init h_Rows_least h_Rows_parts h_Rows_places
  have h_l_source := c_l_source (P := P) (w := w) (base := base) (at_l_source X G c) T
  have h_l_pick := c_l_pick (P := P) (w := w) (base := base) (at_l_pick X G c) T
  have h_l_comb := c_l_comb (P := P) (w := w) (base := base) (at_l_comb X G c) T
  have h_l_halves := c_l_halves (P := P) (w := w) (base := base) (at_l_halves X G c) T 13 (by decide)
  have h_l_shape := c_l_shape (P := P) (w := w) (base := base) (at_l_shape X G c) T h_l_pick h_l_comb h_l_halves 13
  have h_l_any_table := c_l_any_table (P := P) (w := w) (base := base) (at_l_any_table X G c) T h_l_shape
  have h_l_of := c_l_of (P := P) (w := w) (base := base) (at_l_of X G c) T h_l_pick
  have h_l_made := c_l_made (P := P) (w := w) (base := base) (at_l_made X G c) T h_Plan_init
  have h_l_long_plan := c_l_long_plan (P := P) (w := w) (base := base) (at_l_long_plan X G c) T h_l_pick h_l_any_table h_l_of h_l_made
  have h_l_size := c_l_size (P := P) (w := w) (base := base) (at_l_size X G c) T 61
  have h_l_filled := c_l_filled (P := P) (w := w) (base := base) (at_l_filled X G c) T h_l_size 61
  have h_l_entry := c_l_entry (P := P) (w := w) (base := base) (at_l_entry X G c) T
  have h_l_pressed := c_l_pressed (P := P) (w := w) (base := base) (at_l_pressed X G c) T h_l_filled h_l_entry
  have h_l_glue := c_l_glue (P := P) (w := w) (base := base) (at_l_glue X G c) T h_l_pressed h_l_filled h_l_entry
  have h_l_table := c_l_table (P := P) (w := w) (base := base) (at_l_table X G c) T h_l_pick h_l_any_table h_l_glue h_l_of
  have h_l_plan := c_l_plan (P := P) (w := w) (base := base) (at_l_plan X G c) T h_l_pick h_l_table h_l_of h_l_made
  have h_l_any_plan := c_l_any_plan (P := P) (w := w) (base := base) (at_l_any_plan X G c) T h_l_pick h_l_long_plan h_l_plan
  have h_l_lumps := c_l_lumps (P := P) (w := w) (base := base) (at_l_lumps X G c) T h_l_size 61
  have h_l_stage := c_l_stage (P := P) (w := w) (base := base) (at_l_stage X G c) T
  have h_l_told := c_l_told (P := P) (w := w) (base := base) (at_l_told X G c) T h_l_stage h_l_pressed h_l_filled h_l_comb
  have h_l_odd := c_l_odd (P := P) (w := w) (base := base) (at_l_odd X G c) T h_l_of
  have h_l_mixed := c_l_mixed (P := P) (w := w) (base := base) (at_l_mixed X G c) T h_l_pick
  have h_l_strange := c_l_strange (P := P) (w := w) (base := base) (at_l_strange X G c) T h_l_of h_Plan_init
  have h_l_crosses := c_l_crosses (P := P) (w := w) (base := base) (at_l_crosses X G c) T
  have h_l_crossed_right := c_l_crossed_right (P := P) (w := w) (base := base) (at_l_crossed_right X G c) T h_crossing h_l_crosses
  exact law_term T p h_l_source h_l_any_plan h_l_pick h_l_told h_l_lumps h_is_lump h_l_crossed_right h_l_odd h_Plan_init h_l_mixed h_crossing h_l_strange hr hg
end KL
open PySem PySem.W PySem.Calls PyProof.Rows
theorem PySem.Challenge.cw_lumpplans_k25_whole_lump_or_not_holds : PySem.Challenge.rw_lumpplans_k25_whole_lump_or_not.Holds := by
  w_on; o_law
  refine HandSHeadRun.head_any (r := KL.RR) (q := view KL.RR.prog [57]) (H := KL.hk) (ob := KL.ob) (M := 6000) (loose := KL.loose) (d := HandSHeadRun.topDef KL.RR.prog 57) (kwd := []) KL.ob_eq (by kernel_rfl) (fun s => by kernel_rfl) KL.run
    (by kernel_rfl) (by kernel_rfl) (by kernel_rfl) (by rfl) (by first | assumption | decide +kernel) (by decide +kernel) ⟨rfl, rfl, rfl, rfl, rfl, by decide +kernel⟩ ?hw ?hc
  case hw => w_witness2
  case hc =>
    refine Att.attach_call (l := PySem.Challenge.rw_lumpplans_k25_whole_lump_or_not) (n := 63) rfl (by kernel_rfl) fun w t0 t1 mg mb fa o pm cd doc a us zs G Y ho hd hcd named script isInts few nogen => ?_
    obtain ⟨K, inK, c⟩ := Y
    have e : (HandSHeadRun.topDef KL.RR.prog 57).name = ("law" : PySem.Str) := by kernel_rfl
    rw [e] at named
    refine KL.enter_law inK G.T.g G.T.b G.T.builtins G.T.nolimit nogen script isInts (Nat.le_trans few (by decide)) fun base M inB nsB en only sq => ?_
    obtain ⟨fd, F⟩ := c.t.d.def_ 52 (d := KL.d_the_law) rfl
    have same := named.symm.trans (He.glo_ok inK G.T.g (c.t.d.fact 47 (f := .glo "law") rfl))
    cases same
    have bd := L2.FunD.bindsA (ps := ["_law_script"]) F fun _ _ _ _ _ _ us hl => match us, hl with | [_], _ => rfl
    refine KL.enter_fn (k := 127) (vs := [L2.V.ref a]) F KL.sc_the_law ⟨rfl, by decide, by decide⟩ en (bd t1 [.ref a] rfl) (.cons rfl .nil) rfl fun cdv room => ⟨_, (KL.law_all inK G.T.g c room rfl).nox, ?_⟩
    exact KL.r_law (KL.Only.good only) sq (Nat.le_trans few (by decide)) (KL.told_pcl c) _ fun _ => rfl
