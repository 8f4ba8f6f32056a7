import PyProof.Rows.All
import Wide.All
import OpenK.AllK
import Wide.FinOn
import HandS.Base
import HandS.List
import HandS.Text
import KE.KExcSuper
import HandS.Call
import HandS.Ends
import HandS.Exc
import HandS.ExcInit
import HandS.ForMost
import HandS.Walk
import HandS.Zip
import PyProof.EqAt
import PyProof.EqKinds
import PyProof.TupleCall
import PyProof.ReprRoads
import PyProof.EnumMake
import PyProof.EnumFor
import PyProof.Draws
import KE.GoesMore
import HandS.Iter
import HandS.Words
import PySem.Challenge.RW_booklimits_k94_whole_texts_of_halls
import HandS.ExcField
import HandS.Lambda
import HandS.WordsExc
import HandS.IsInst
import HandS.TupAny
import HandS.Star
import HandS.RaiseMore
import HandS.EndOwn
set_option Elab.async false
set_option linter.all false
set_option maxRecDepth 100000
set_option maxHeartbeats 4000000
/-! What the texts tell: plain functions of texts and lists. -/
namespace K94
open PySem TL
abbrev blank : Str := " "
abbrev lf : Str := "\n"
abbrev figs : Str := "0123456789"
def sigB (c : Nat) : Bool := decide (c ∈ figs.cps.toList)
/-- the first sign as a text -/
def sign0 (w : Str) : Str := ⟨#[w.cps.getD 0 0]⟩
def isNum (w : Str) : Bool := (decide ((1 : Int) ≤ (w.length : Int)) && decide ((w.length : Int) ≤ 7)) && w.cps.toList.all sigB && (!decide (sign0 w = "0") || decide (w = "0"))
def numOf (w : Str) : Int := (intText? w).getD 0
theorem sigB_dig {c : Nat} (h : sigB c = true) : 48 ≤ c ∧ c ≤ 57 := by
  have h' : c ∈ figs.cps.toList := of_decide_eq_true h
  have e : figs.cps.toList = [48, 49, 50, 51, 52, 53, 54, 55, 56, 57] := by decide +kernel
  rw [e] at h'
  simp at h'
  omega
theorem dig_sigB {c : Nat} (h : 48 ≤ c ∧ c ≤ 57) : sigB c = true := by
  refine decide_eq_true ?_
  have e : figs.cps.toList = [48, 49, 50, 51, 52, 53, 54, 55, 56, 57] := by decide +kernel
  rw [e]
  simp
  omega
theorem isNum_int {w : Str} (h : isNum w = true) : intText? w = some (numOf w) ∧ w.length ≤ 640 := by
  unfold isNum at h
  simp only [Bool.and_eq_true, decide_eq_true_eq, List.all_eq_true] at h
  obtain ⟨⟨⟨h1, h2⟩, h3⟩, _⟩ := h
  have a : NumText.AllDigits w.cps.toList := fun c hc => sigB_dig (h3 c hc)
  have l : w.length = w.cps.toList.length := len_tl w
  have n : w.cps.toList ≠ [] := fun z => by
    rw [z] at l
    simp at l
    omega
  have e := intText_digits a n (by omega)
  refine ⟨?_, by omega⟩
  unfold numOf
  rw [e]
  rfl
/-- whether the word at place k cannot stand -/
def badAt (ws : List Str) (most k : Nat) : Bool := decide (most < k) || !isNum (ws.getD k Str.empty)
/-- the first word from one on that cannot stand, or where one has to come -/
def tailWrong (ws : List Str) (most : Nat) : Option Nat :=
  match (List.range' 1 (ws.length - 1)).find? (badAt ws most) with
  | some k => some k
  | none => if ws.length < 2 then some ws.length else none
def lineWrong (ws : List Str) (head : Str) (most : Nat) : Option Nat := if ws.getD 0 Str.empty = head then tailWrong ws most else some 0
def rowsOf (t : Str) : List (List Str) := (Txt.split t lf).map fun l => Txt.split l blank
inductive Out where
  | hall (s : Int) (fs : List Int)
  | text (l w : Nat)
  | bad (p : Str)
def inB (lo hi x : Int) : Bool := decide (lo ≤ x) && decide (x ≤ hi)
def ascB (fs : List Int) : Bool := (List.range (fs.length - 1)).all fun k => decide (fs.getD k 0 < fs.getD (k + 1) 0)
def hallOut (s : Int) (fs : List Int) : Out :=
  if inB 1 6 s = true then (if inB 1 4 (fs.length : Int) = true then (if fs.all (inB 1 99) = true then (if ascB fs = true then .hall s fs else .bad "fares") else .bad "fares") else .bad "fares") else .bad "seats"
def rowWrong (rows : List (List Str)) (k : Nat) (head : Str) (most : Nat) : Option Nat := if k < rows.length then lineWrong (rows.getD k []) head most else none
def outOf (rows : List (List Str)) : Out :=
  match rowWrong rows 0 "seats" 1 with
  | some w => .text 0 w
  | none => match rowWrong rows 1 "fares" 4 with
    | some w => .text 1 w
    | none => if rows.length < 2 then .text rows.length 0 else if 2 < rows.length then .text 2 0 else
      hallOut (numOf ((rows.getD 0 []).getD 1 Str.empty)) (((rows.getD 1 []).drop 1).map numOf)

theorem tailWrong_none {ws : List Str} {most : Nat} (h : tailWrong ws most = none) : 2 ≤ ws.length ∧ ws.length ≤ most + 1 ∧ ∀ k, 1 ≤ k → k < ws.length → isNum (ws.getD k Str.empty) = true := by
  unfold tailWrong at h
  cases e : (List.range' 1 (ws.length - 1)).find? (badAt ws most) with
  | some k => rw [e] at h; cases h
  | none =>
    rw [e] at h
    have hl : ¬ ws.length < 2 := fun z => by
      have h' : (if ws.length < 2 then some ws.length else none) = none := h
      rw [if_pos z] at h'
      cases h'
    have q := List.find?_eq_none.mp e
    have g : ∀ k, 1 ≤ k → k < ws.length → badAt ws most k = false := fun k h1 h2 => by
      have z := q k (by rw [List.mem_range'_1]; omega)
      simpa using z
    refine ⟨by omega, ?_, fun k h1 h2 => ?_⟩
    · have z := g (ws.length - 1) (by omega) (by omega)
      unfold badAt at z
      simp only [Bool.or_eq_false_iff, decide_eq_false_iff_not] at z
      omega
    · have z := g k h1 h2
      unfold badAt at z
      simp only [Bool.or_eq_false_iff, decide_eq_false_iff_not, Bool.not_eq_false'] at z
      exact z.2
theorem lineWrong_none {ws : List Str} {head : Str} {most : Nat} (h : lineWrong ws head most = none) : ws.getD 0 Str.empty = head ∧ tailWrong ws most = none := by
  unfold lineWrong at h
  by_cases e : ws.getD 0 Str.empty = head
  · rw [if_pos e] at h
    exact ⟨e, h⟩
  · rw [if_neg e] at h
    cases h
/-- at place i of the loop none was bad so far: a further one -/
theorem find_step {p : Nat → Bool} {n i : Nat} (hi : 1 ≤ i) (hn : i < n + 1) (h : ∀ k, 1 ≤ k → k < i → p k = false) (hp : p i = true) : (List.range' 1 n).find? p = some i := by
  have e : List.range' 1 n = List.range' 1 (i - 1) ++ i :: List.range' (i + 1) (n - i) := by
    have a := List.range'_append_1 (s := 1) (m := i - 1) (n := n - (i - 1))
    have b : List.range' i (n - (i - 1)) = i :: List.range' (i + 1) (n - i) := by
      have q : n - (i - 1) = (n - i) + 1 := by omega
      rw [q, List.range'_succ]
    have c : 1 + (i - 1) = i := by omega
    have d : i - 1 + (n - (i - 1)) = n := by omega
    rw [c, b, d] at a
    exact a.symm
  rw [e, List.find?_append]
  have z : (List.range' 1 (i - 1)).find? p = none := List.find?_eq_none.mpr fun k hk => by
    rw [List.mem_range'_1] at hk
    rw [h k hk.1 (by omega)]
    exact Bool.false_ne_true
  rw [z]
  simp [List.find?_cons, hp]
theorem find_end {p : Nat → Bool} {n : Nat} (h : ∀ k, 1 ≤ k → k < n + 1 → p k = false) : (List.range' 1 n).find? p = none := List.find?_eq_none.mpr fun k hk => by
  rw [List.mem_range'_1] at hk
  rw [h k hk.1 (by omega)]
  exact Bool.false_ne_true
theorem joinL_len (S : List Nat) : ∀ ps : List (List Nat), (joinL S ps).length ≤ (ps.map (·.length)).sum + ps.length * S.length
  | [] => by simp [joinL]
  | [p] => by simp [joinL]
  | p :: q :: r => by
    have ih := joinL_len S (q :: r)
    have e : joinL S (p :: q :: r) = p ++ (S ++ joinL S (q :: r)) := by simp [joinL]
    rw [e, List.length_append, List.length_append, List.map_cons, List.sum_cons, List.length_cons, Nat.succ_mul]
    omega
theorem join_len (y : Str) (ps : List Str) : (Txt.join y ps).length ≤ (ps.map (·.length)).sum + ps.length * y.length := by
  rw [join_eq, len_tl, tl_join]
  have q := joinL_len (tl y) (ps.map tl)
  rw [List.map_map, List.length_map] at q
  have e : ps.map ((fun x : List Nat => x.length) ∘ tl) = ps.map (·.length) := List.map_congr_left fun x _ => (len_tl x).symm
  rw [e, ← len_tl] at q
  exact q
/-! ### a text has a line, a line has a word -/
theorem spl_len (S : List Nat) : ∀ (l : List Nat) (k : Nat) (acc : List Nat), 1 ≤ (spl S k acc l).length ∧ (spl S k acc l).length ≤ l.length + 1
  | [], k, acc => by rw [spl_nil]; simp
  | c :: r, k + 1, acc => by
    have q := spl_pass S (k + 1) acc (c :: r)
    rw [q]
    have e : (c :: r).drop (k + 1) = r.drop k := rfl
    rw [e]
    have z := spl_len S (r.drop k) 0 acc
    have l : (r.drop k).length ≤ r.length := by simp
    simp only [List.length_cons]
    omega
  | c :: r, 0, acc => by
    cases h : pre S (c :: r) with
    | true =>
      rw [spl_hit h]
      have z := spl_len S r (S.length - 1) []
      simp only [List.length_cons]
      omega
    | false =>
      rw [spl_miss h]
      have z := spl_len S r 0 (acc ++ [c])
      simp only [List.length_cons]
      omega
  termination_by l => l.length
  decreasing_by all_goals (simp only [List.length_cons, List.length_drop]; omega)
theorem split_len (x y : Str) (hy : tl y ≠ []) (hk : y.cps.all (· < 256) = true) : 1 ≤ (Txt.split x y).length ∧ (Txt.split x y).length ≤ x.length + 1 := by
  have e := split_spl x y hy (kind_ok hk)
  have l : (Txt.split x y).length = (spl (tl y) 0 [] (tl x)).length := by rw [← e, List.length_map]
  rw [l, len_tl]
  exact spl_len _ _ _ _
theorem lines_len (t : Str) : 1 ≤ (Txt.split t lf).length ∧ (Txt.split t lf).length ≤ t.length + 1 := split_len t lf (by decide +kernel) (by decide +kernel)
theorem words_len (t : Str) : 1 ≤ (Txt.split t blank).length ∧ (Txt.split t blank).length ≤ t.length + 1 := split_len t blank (by decide +kernel) (by decide +kernel)
/-! ### how long a part is -/
theorem spl_part_len (S : List Nat) (n : Nat) : ∀ (l : List Nat) (k : Nat) (acc : List Nat), acc.length + l.length ≤ n → ∀ p ∈ spl S k acc l, p.length ≤ n
  | [], k, acc, h, p, hp => by
    rw [spl_nil] at hp
    rw [List.mem_singleton.mp hp]
    simpa using h
  | c :: r, k + 1, acc, h, p, hp => by
    rw [spl_pass S (k + 1) acc (c :: r)] at hp
    have e : (c :: r).drop (k + 1) = r.drop k := rfl
    rw [e] at hp
    have l : (r.drop k).length ≤ r.length := by simp
    simp only [List.length_cons] at h
    exact spl_part_len S n (r.drop k) 0 acc (by omega) p hp
  | c :: r, 0, acc, h, p, hp => by
    simp only [List.length_cons] at h
    cases e : pre S (c :: r) with
    | true =>
      rw [spl_hit e] at hp
      rcases List.mem_cons.mp hp with rfl | hp
      · omega
      · exact spl_part_len S n r (S.length - 1) [] (by simp; omega) p hp
    | false =>
      rw [spl_miss e] at hp
      exact spl_part_len S n r 0 (acc ++ [c]) (by simp; omega) p hp
  termination_by l => l.length
  decreasing_by all_goals (simp only [List.length_cons, List.length_drop]; omega)
theorem split_part_len (x y : Str) (hy : tl y ≠ []) (hk : y.cps.all (· < 256) = true) : ∀ p ∈ Txt.split x y, p.length ≤ x.length := fun p hp => by
  have e := split_spl x y hy (kind_ok hk)
  have m : tl p ∈ (Txt.split x y).map tl := List.mem_map.mpr ⟨p, hp, rfl⟩
  rw [e] at m
  rw [len_tl, len_tl]
  exact spl_part_len _ _ _ _ _ (by simp) _ m
theorem line_le {t l : Str} (h : l ∈ Txt.split t lf) : l.length ≤ t.length := split_part_len t lf (by decide +kernel) (by decide +kernel) l h
theorem word_le {l x : Str} (h : x ∈ Txt.split l blank) : x.length ≤ l.length := split_part_len l blank (by decide +kernel) (by decide +kernel) x h
theorem rows_len (t : Str) : (rowsOf t).length = (Txt.split t lf).length := by simp [rowsOf]
theorem rows_at {t : Str} {i : Nat} (h : i < (rowsOf t).length) : ∃ l, (Txt.split t lf)[i]? = some l ∧ (rowsOf t).getD i [] = Txt.split l blank ∧ l.length ≤ t.length := by
  rw [rows_len] at h
  refine ⟨(Txt.split t lf)[i], List.getElem?_eq_getElem h, ?_, line_le (List.getElem_mem h)⟩
  unfold rowsOf
  rw [List.getD_eq_getElem?_getD, List.getElem?_map, List.getElem?_eq_getElem h]
  rfl
/-- of a row: it has a word, it is not long, nor is a word -/
theorem row_facts {t : Str} {i : Nat} (h : i < (rowsOf t).length) : 1 ≤ ((rowsOf t).getD i []).length ∧ ((rowsOf t).getD i []).length ≤ t.length + 1 ∧ ∀ k, (((rowsOf t).getD i []).getD k Str.empty).length ≤ t.length := by
  obtain ⟨l, _, e, hl⟩ := rows_at h
  rw [e]
  have w := words_len l
  refine ⟨w.1, by omega, fun k => ?_⟩
  by_cases hk : k < (Txt.split l blank).length
  · rw [List.getD_eq_getElem?_getD, List.getElem?_eq_getElem hk]
    have z := word_le (List.getElem_mem hk)
    show ((Txt.split l blank)[k]).length ≤ t.length
    omega
  · rw [List.getD_eq_getElem?_getD, List.getElem?_eq_none (by omega)]
    exact Nat.zero_le _
end K94
/-! Texts of the first 128 signs: what is cut of them is such. -/
namespace K94
open PySem TL
/-- signs of the first 128 -/
def Asc (z : Str) : Prop := ∀ c ∈ z.cps.toList, c < 128
theorem asc_tl {z : Str} (h : ∀ c ∈ tl z, c < 128) : Asc z := h
theorem Asc.app {x y : Str} (h : Asc x) (k : Asc y) : Asc (x ++ y) := fun c hc => by
  have hc' : c ∈ tl (x ++ y) := hc
  rw [tl_append] at hc'
  rcases List.mem_append.mp hc' with z | z
  · exact h c z
  · exact k c z
theorem spl_mem (S : List Nat) (p : Nat → Prop) : ∀ (l : List Nat) (k : Nat) (acc : List Nat), (∀ c ∈ acc, p c) → (∀ c ∈ l, p c) → ∀ x ∈ spl S k acc l, ∀ c ∈ x, p c
  | [], k, acc, h1, h2, x, hx => by
    rw [spl_nil] at hx
    rw [List.mem_singleton.mp hx]
    exact h1
  | c :: r, k + 1, acc, h1, h2, x, hx => by
    rw [spl_pass S (k + 1) acc (c :: r)] at hx
    have e : (c :: r).drop (k + 1) = r.drop k := rfl
    rw [e] at hx
    exact spl_mem S p (r.drop k) 0 acc h1 (fun d hd => h2 d (List.mem_cons_of_mem _ (List.mem_of_mem_drop hd))) x hx
  | c :: r, 0, acc, h1, h2, x, hx => by
    cases e : pre S (c :: r) with
    | true =>
      rw [spl_hit e] at hx
      rcases List.mem_cons.mp hx with rfl | hx
      · exact h1
      · exact spl_mem S p r (S.length - 1) [] (fun d hd => by cases hd) (fun d hd => h2 d (List.mem_cons_of_mem _ hd)) x hx
    | false =>
      rw [spl_miss e] at hx
      refine spl_mem S p r 0 (acc ++ [c]) (fun d hd => ?_) (fun d hd => h2 d (List.mem_cons_of_mem _ hd)) x hx
      rcases List.mem_append.mp hd with z | z
      · exact h1 d z
      · rw [List.mem_singleton.mp z]
        exact h2 c (List.mem_cons_self ..)
  termination_by l => l.length
  decreasing_by all_goals (simp only [List.length_cons, List.length_drop]; omega)
theorem split_asc {x y : Str} (hx : Asc x) (hy : tl y ≠ []) (hk : y.cps.all (· < 256) = true) : ∀ p ∈ Txt.split x y, Asc p := fun p hp => by
  have e := split_spl x y hy (kind_ok hk)
  have m : tl p ∈ (Txt.split x y).map tl := List.mem_map.mpr ⟨p, hp, rfl⟩
  rw [e] at m
  exact spl_mem _ (· < 128) _ _ _ (fun d hd => by cases hd) hx _ m
theorem line_asc {t : Str} (h : Asc t) : ∀ l ∈ Txt.split t lf, Asc l := split_asc h (by decide +kernel) (by decide +kernel)
theorem word_asc {t : Str} (h : Asc t) : ∀ l ∈ Txt.split t blank, Asc l := split_asc h (by decide +kernel) (by decide +kernel)
theorem asc_empty : Asc Str.empty := fun c hc => by
  have z : c ∈ ([] : List Nat) := hc
  cases z
theorem getD_asc {l : List Str} (h : ∀ p ∈ l, Asc p) (k : Nat) : Asc (l.getD k Str.empty) := by
  by_cases hk : k < l.length
  · rw [List.getD_eq_getElem?_getD, List.getElem?_eq_getElem hk]
    exact h _ (List.getElem_mem hk)
  · rw [List.getD_eq_getElem?_getD, List.getElem?_eq_none (by omega)]
    exact asc_empty
theorem row_asc {t : Str} {i : Nat} (hA : Asc t) (h : i < (rowsOf t).length) (k : Nat) : Asc (((rowsOf t).getD i []).getD k Str.empty) := by
  obtain ⟨l, g, e, hl⟩ := rows_at h
  rw [e]
  exact getD_asc (word_asc (line_asc hA l (List.mem_of_getElem? g))) k
theorem joinL_mem (S : List Nat) (p : Nat → Prop) (hS : ∀ c ∈ S, p c) : ∀ ps : List (List Nat), (∀ x ∈ ps, ∀ c ∈ x, p c) → ∀ c ∈ joinL S ps, p c
  | [], _, c, hc => by cases hc
  | [x], h, c, hc => h x (List.mem_singleton.mpr rfl) c hc
  | x :: y :: r, h, c, hc => by
    have e : joinL S (x :: y :: r) = x ++ (S ++ joinL S (y :: r)) := by simp [joinL]
    rw [e] at hc
    rcases List.mem_append.mp hc with z | z
    · exact h x (List.mem_cons_self ..) c z
    · rcases List.mem_append.mp z with z | z
      · exact hS c z
      · exact joinL_mem S p hS (y :: r) (fun u hu => h u (List.mem_cons_of_mem _ hu)) c z
theorem join_asc {y : Str} {ps : List Str} (hy : Asc y) (h : ∀ p ∈ ps, Asc p) : Asc (Txt.join y ps) := by
  refine asc_tl ?_
  rw [join_eq, tl_join]
  refine joinL_mem (tl y) (· < 128) hy _ fun x hx => ?_
  obtain ⟨p, hp, rfl⟩ := List.mem_map.mp hx
  exact h p hp
theorem cut_asc {z : Str} (h : Asc z) (lo hi : Option Int) : Asc (L2.cutS z lo hi) := fun c hc => by
  have hc' : c ∈ ((z.cps.toList.drop (HT.sIx z.length 0 lo)).take (HT.sIx z.length z.length hi - HT.sIx z.length 0 lo)).toArray.toList := hc
  rw [List.toList_toArray] at hc'
  exact h c (List.mem_of_mem_drop (List.mem_of_mem_take hc'))
theorem cut_len (z : Str) (lo hi : Option Int) : (L2.cutS z lo hi).length ≤ z.length := by
  have e : (L2.cutS z lo hi).length = ((z.cps.toList.drop (HT.sIx z.length 0 lo)).take (HT.sIx z.length z.length hi - HT.sIx z.length 0 lo)).length := by
    show (((z.cps.toList.drop (HT.sIx z.length 0 lo)).take (HT.sIx z.length z.length hi - HT.sIx z.length 0 lo)).toArray).size = _
    simp
  have l : z.length = z.cps.toList.length := len_tl z
  rw [e, List.length_take, List.length_drop, l]
  omega
end K94
/-! An own error class over an own class over ValueError, whose __init__ says super().__init__(text) and then stores its fields. -/
namespace KxM
open PySem PySem.W PySem.Calls PyProof.Rows PySem.HandSPX

/-- what the written part says of such a class at C, its __init__ at fI -/
structure ExCls (K : Frag) (mg : Str → Option Value) (mainFile : Str) (C fI : Addr) (qual : Str) (params : Arguments) (body : List Stmt) (scope : Scope) : Prop where
  cls : ∃ nm q N bs bm sn sub ab col dd k0 k1 k2 k3 k5, K.lookup C = some (excClassObj nm q C N bs bm true sn sub ab col dd k0 k1 k2 k3 k5 "ValueError.__new__") ∧ refsVE bm = true ∧
    alongIn K "__init__" bm = some (some (.builtin "ValueError.__init__"))
  sa : findIn K (.ref C) "__setattr__" = some (some (.builtin "object.__setattr__"))
  iC : findIn K (.ref C) "__init__" = some (some (.ref fI))
  tI : typeIn K (.ref fI) = some (.type "function")
  kC : keepIn K (.ref C) = true
  exC : subIn K (.ref C) (.type "BaseException") = some true
  veC : subIn K (.ref C) (.type "ValueError") = some true
  slf : mroIn K C (.ref C) = some true
  tyC : typeIn K (.ref C) = some (.type "type")
  opq : nsIn K cStatics "thirdparty.any" = some none
  fn : ∃ (oc : Value) (od : Option Addr) (kV doc pm : Value) (an : Option Addr) (cda : Addr) (ct : Value) (cc : Addr) (osl : Array (Option Value)) (vs : Array Value) (tf : Tok) (ccl : Value) (cdd : Option Addr) (ccs : Array (Option Value)) (cl : Value) (cld : Option Addr) (csl : Array (Option Value)),
    K.lookup fI = some ⟨oc, od, .func (ksFn "__init__" qual params body scope .none kV doc pm an (.ref cda) ct cc), osl⟩ ∧ codeIn K (.ref cda) qual = true ∧
      K.lookup cda = some ⟨ccl, cdd, .fields vs, ccs⟩ ∧ vs[2]? = some (.str mainFile tf) ∧ K.lookup cc = some ⟨cl, cld, .cell (some (.ref C)), csl⟩

section
variable {prog : Program} {w : World} {A : Around} {E : Value → Shared → Prop} {s : Shared} {K : Frag} {mg mb : Str → Option Value}

/-- the method-wrapper of ValueError.__init__ called: the args are laid anew -/
theorem call_vei {h : Heap} {g : Array GenState} {d : Drawn} {t : Nat} {os : OsState} {u e t0 C N : Addr} {nm q : Str} {bs bm : List Value} {sn : List Str} {sub : List Value} {ab : Bool} {col : Option Bool} {dd : Option Addr} {k0 k1 k2 k3 k5 : Option Value}
    {rest : List Value} {Q : Value → Shared → Prop}
    (hC : h.get? C = some (excClassObj nm q C N bs bm true sn sub ab col dd k0 k1 k2 k3 k5 "ValueError.__new__")) (he : h.get? e = some (excO C t0)) (hu : h.get? u = some (kxs_mw "ValueError.__init__" e)) (hr : rest.length ≤ sizeLine)
    (hq : ∀ h' t1, (∀ b o, b ≠ e → h.get? b = some o → h'.get? b = some o) → h'.get? e = some (excO C t1) → Q .none ⟨h', g, d, t, os⟩) :
    wpAny (model prog w) A (call (.ref u) rest) Q E ⟨h, g, d, t, os⟩ := by
  have wrapper : (Value.type "method-wrapper" == Value.type "method" || Value.type "method-wrapper" == Value.type "builtin_function_or_method" || Value.type "method-wrapper" == Value.type "method-wrapper") = true := by decide
  refine wpAny_call (codeAny_of_tree (show wpAny _ A.in1 (callAny (.ref u) ⟨rest, []⟩) _ _ _ from ?_))
  simp only [callAny]
  refine wpAny_bind (wpAny_load hu (by
    simp only [kxs_mw, wrapper, if_true]
    exact KFB.if_so (by decide) (wpAny_bind (check_bound_init F.excBase_ValueError.toExcCallFacts hC he rfl (wpAny_bind (wpAny_pure (wpAny_pure ⟨plainId_quiet F.excBase_ValueError.init.plain _, codeAny_builtin F.excBase_ValueError.initEntry (exc_init_tree (cls := .ref C) (t0 := t0) (dv := none) (c2 := .none) (c3 := .none) (b4 := .bool false) he hr fun h' k e' _ => hq h' _ k e')⟩)))))))

/-- super().__init__(text) as a statement of such an __init__ -/
theorem super_st {mf : Str} {C fI L x t0 : Addr} {qual : Str} {params : Arguments} {body : List Stmt} {scope : Scope} {oc : Value} {od : Option Addr} {dV kV doc pm : Value} {an : Option Addr} {cda : Addr} {ct : Value} {cc : Addr} {osl : Array (Option Value)} {vs : Array Value} {tf : Tok} {ccl : Value} {cdd : Option Addr} {ccs : Array (Option Value)} {cl : Value} {cld : Option Addr} {csl : Array (Option Value)}
    {msg : Str} {j : Nat} {p0 p1 p2 p3 p4 p5 : Pos} {ar : Arg} {m : Str → Option Value} {Q : Flow → Shared → Prop} {body' : List Stmt}
    (T : ExCls K mg mf C fI qual params body scope) (X : K.In s.heap) (G : s.heap.Ns mainGlobals mg) (B : s.heap.Ns builtinsNs mb) (hb : ∀ x : Str, x ≠ "__name__" → mb x = bootBuiltins x) (hsup : mg "super" = none)
    (lf : K.lookup fI = some ⟨oc, od, .func (ksFn "__init__" qual params body scope dV kV doc pm an (.ref cda) ct cc), osl⟩)
    (lc : K.lookup cda = some ⟨ccl, cdd, .fields vs, ccs⟩) (hvs : vs[2]? = some (.str mf tf)) (lcell : K.lookup cc = some ⟨cl, cld, .cell (some (.ref C)), csl⟩)
    (hfile : ((prog.main.file : Str) == mf) = true) (htop : (prog.main.scope.names.lookup ("super" : Str)).isSome = false)
    (hp : (params.posonlyargs ++ params.args).head? = some ar) (hks : scope.names.lookup ("super" : Str) = some .globalImplicit) (hkc : scope.names.lookup ("__class__" : Str) = some .free) (hka : scope.names.lookup ar.arg = some .local) (hk : scope.kind = .function)
    (hns : s.heap.Ns L m) (hm : m ar.arg = some (.ref x)) (hx : s.heap.get? x = some (excO C t0)) {pl : Sem Bool}
    (he : eval (.Call (.Attribute (.Call (.Name "super" p0) [] [] p1) "__init__" p2) [.Constant (.str msg) j p3] [] p4) (ksEnv qual scope L fI (.ref cda) cc) = (do
      let ov ← attributeBase (.Call (.Name "super" p0) [] [] p1) "__init__" (ksEnv qual scope L fI (.ref cda) cc) (eval (.Call (.Name "super" p0) [] [] p1) (ksEnv qual scope L fI (.ref cda) cc))
      standAt p2.atName
      let (f, first) ← holding [ov] (getMethod ov "__init__" pl)
      callWith p4 f first (backTo p4 (starEach [.Constant (.str msg) j p3] (ksEnv qual scope L fI (.ref cda) cc))) []))
    (hsw : swapsWith (.Call (.Attribute (.Call (.Name "super" p0) [] [] p1) "__init__" p2) [.Constant (.str msg) j p3] [] p4) none p5.line (ksEnv qual scope L fI (.ref cda) cc) = pure false)
    (hin : interactive (ksEnv qual scope L fI (.ref cda) cc) = false)
    (hq : ∀ h' t1 tk, (∀ b o, b ≠ x → s.heap.get? b = some o → h'.get? b = some o) → h'.get? x = some (excO C t1) → Q .next { s with heap := h', toks := tk }) :
    _root_.PySem.wpAt (model prog w) A (.func body' (ksEnv qual scope L fI (.ref cda) cc))
      (exec (.Expr (.Call (.Attribute (.Call (.Name "super" p0) [] [] p1) "__init__" p2) [.Constant (.str msg) j p3] [] p4) p5) (ksEnv qual scope L fI (.ref cda) cc)) Q E s := by
  obtain ⟨nm, q, N, bs, bm, sn, sub, ab, col, dd, k0, k1, k2, k3, k5, hC, hbm, hal⟩ := T.cls
  have hcl : clsIn K C = some { name := nm, bases := bs, mro := .ref C :: bm, ns := N, qualname := q, hasDict := true, slotNames := sn, subclasses := sub, abstract := ab, collection := col, hasDel := false } := by unfold clsIn; rw [hC] <;> rfl
  obtain ⟨hp0, g, d, t, os⟩ := s
  have hCo := X _ _ hC
  have I : InstAt hp0 x (excO C t0) C none := ⟨hx, rfl, rfl, trivial⟩
  have hxC : x ≠ C := ks_ne X I hcl
  refine ks_wpAt_Expr_any (ks_wpAt_MethodCall ?_ he) hin hsw
  refine ks_wpAt_super_base (env := ksEnv qual scope L fI (.ref cda) cc) hks hkc (by decide) rfl (X _ _ lf) rfl hp rfl (X _ _ lc) rfl hvs hfile htop ?_
  refine ks_loadName_global hk hks (loadGlobal_builtin (env := ksEnv qual scope L fI (.ref cda) cc) G hsup B ((hb _ (by decide +kernel)).trans PyProof.Rows.Boot.«super») ⟨rfl, ?_⟩)
  refine wpAny_loadName_free hk hkc rfl ⟨_, X _ _ lcell, rfl⟩ ?_
  refine wpAny_loadName_local hk hka hns hm ?_
  refine ks_wpAny_isType_cls hCo rfl ⟨rfl, ?_⟩
  refine ks_wpAny_call_super hCo rfl I.at_ I.cls (fun c e => by cases e) (looks_mroIn X T.slf) (fun h1 e1 k1' => ?_)
  have X1 : K.In h1 := X.keeps k1'
  have I1 : InstAt h1 x (excO C t0) C none := ⟨k1' _ _ hx, rfl, rfl, trivial⟩
  have hdrop : ((Value.ref C :: bm).dropWhile (· != .ref C)).drop 1 = bm := by simp [List.dropWhile_cons]
  refine kxs_getMethod kxs_ValueError e1 (looks_opaque X1 T.opq) (l₀ := .ref C :: bm) ?_ hdrop X1 hal (I1.type.andThen (looks_subIn X1 T.veC)) hxC (by decide) ?_
  · exact fun A Q E s k q => wpAny_bind ((looks_clsIn X1 hcl) A _ E s k (wpAny_pure q))
  show wpAny _ _ (callWith p4 (.ref h1.objs.size) [] (backTo p4 (starEach [.Constant (.str msg) j p3] (ksEnv qual scope L fI (.ref cda) cc))) []) _ _ _
  have hu2 : (h1.push (kxs_mw "ValueError.__init__" x)).get? h1.objs.size = some (kxs_mw "ValueError.__init__" x) := Heap.get?_push_size _ rfl
  have k2' : ∀ b o, h1.get? b = some o → (h1.push (kxs_mw "ValueError.__init__" x)).get? b = some o := fun b o e => Heap.get?_push_of_some _ e
  refine kxs_callWith (i := "ValueError.__init__") (x := x) (by rfl) ?_
  refine evalArgs_plain (spliced_cons ?_)
  show wpAny _ _ (eval (.Constant (.str msg) j p3) (ksEnv qual scope L fI (.ref cda) cc)) _ _ _
  refine Calls.Constant_str ?_
  refine spliced_nil ⟨hu2, ?_⟩
  refine call_vei (k2' _ _ (k1' _ _ hCo)) (k2' _ _ (k1' _ _ hx)) hu2 (by rw [sizeLine_eq]; exact (by decide : 1 ≤ 16777216)) fun h' t1 k3' e3 => ?_
  exact hq h' t1 _ (fun b o hb e => k3' b o hb (k2' _ _ (k1' _ _ e))) e3

/-! ### the fields -/
/-- x has its dict at dx, which holds m0 -/
structure HasD (h : Heap) (x C dx : Addr) (m0 : Str → Option Value) : Prop where
  obj : ∃ t1 : Addr, h.get? x = some { cls := .ref C, dict := some dx, data := .fields #[.ref t1, .none, .none, .none, .bool false, .none] }
  ns : h.Ns1 dx m0
theorem store_first {mf : Str} {C fI L x t0 : Addr} {qual : Str} {params : Arguments} {body : List Stmt} {scope : Scope} {env : Env} {f : Str} {q1 q2 q3 q4 : Pos} {m : Str → Option Value} {v : Value} {Q : Flow → Shared → Prop}
    (T : ExCls K mg mf C fI qual params body scope) (X : K.In s.heap) (hk : env.scope.kind = .function) (hL : env.locals = L) (hl1 : env.kindOf "self" = some .local) (hl2 : env.kindOf f = some .local) (hd : (f == ("__debug__" : Str)) = false)
    (hno : findIn K (.ref C) f = some none) (hns : s.heap.Ns L m) (h1 : m "self" = some (.ref x)) (h2 : m f = some v) (hx : s.heap.get? x = some (excO C t0))
    (hs : swapsWith (.Name f q3) (some (.Attribute (.Name "self" q1) f q2)) q4.line env = pure false)
    (hq : ∀ h' tk dx, (∀ b o, b ≠ x → s.heap.get? b = some o → h'.get? b = some o) → s.heap.objs.size ≤ dx → dx ≠ x → HasD h' x C dx (fun y => if y = f then some v else none) → Q .next { s with heap := h', toks := tk }) :
    wpAny (model prog w) A (exec (.Assign [.Attribute (.Name "self" q1) f q2] (.Name f q3) q4) env) Q E s := by
  obtain ⟨nm, q, N, bs, bm, sn, sub, ab, col, dd, k0, k1, k2, k3, k5, hC, hbm, hal⟩ := T.cls
  have hcl : clsIn K C = some { name := nm, bases := bs, mro := .ref C :: bm, ns := N, qualname := q, hasDict := true, slotNames := sn, subclasses := sub, abstract := ab, collection := col, hasDel := false } := by unfold clsIn; rw [hC] <;> rfl
  refine plainObj_wpAny_Assign_Attribute ?_ hs
  refine wpAny_Name (wpAny_loadName_local hk hl2 (by rw [hL]; exact hns) h2 ?_) hd
  refine wpAny_Name (wpAny_loadName_local hk hl1 (by rw [hL]; exact hns) h1 ?_) (by decide)
  refine set_plain X (ox := excO C t0) (od := none) ⟨hx, rfl, rfl, trivial⟩ T.sa ?_
  exact exc_osa X hx hcl (show refsVE (.ref C :: bm) = true from hbm) rfl hno fun h' tk dx k dn dne hx' hn' => hq h' tk dx k dn dne ⟨⟨_, hx'⟩, hn'⟩
theorem store_next {mf : Str} {C fI L x dx : Addr} {qual : Str} {params : Arguments} {body : List Stmt} {scope : Scope} {env : Env} {f : Str} {q1 q2 q3 q4 : Pos} {m m0 : Str → Option Value} {nl : List Str} {v : Value} {Q : Flow → Shared → Prop}
    (T : ExCls K mg mf C fI qual params body scope) (X : K.In s.heap) (hk : env.scope.kind = .function) (hL : env.locals = L) (hl1 : env.kindOf "self" = some .local) (hl2 : env.kindOf f = some .local) (hd : (f == ("__debug__" : Str)) = false)
    (hno : findIn K (.ref C) f = some none) (hns : s.heap.Ns L m) (h1 : m "self" = some (.ref x)) (h2 : m f = some v) (D : HasD s.heap x C dx m0) (hw : Within m0 nl) (hz : nl.length ≤ 1000)
    (hs : swapsWith (.Name f q3) (some (.Attribute (.Name "self" q1) f q2)) q4.line env = pure false)
    (hq : ∀ h' tk, (∀ b o, b ≠ dx → s.heap.get? b = some o → h'.get? b = some o) → h'.Ns1 dx (fun y => if y = f then some v else m0 y) → Q .next { s with heap := h', toks := tk }) :
    wpAny (model prog w) A (exec (.Assign [.Attribute (.Name "self" q1) f q2] (.Name f q3) q4) env) Q E s := by
  obtain ⟨nm, q, N, bs, bm, sn, sub, ab, col, dd, k0, k1, k2, k3, k5, hC, hbm, hal⟩ := T.cls
  have hcl : clsIn K C = some { name := nm, bases := bs, mro := .ref C :: bm, ns := N, qualname := q, hasDict := true, slotNames := sn, subclasses := sub, abstract := ab, collection := col, hasDel := false } := by unfold clsIn; rw [hC] <;> rfl
  obtain ⟨⟨t1, hx⟩, hnd⟩ := D
  obtain ⟨oD, _, _, hoD, _, _⟩ := hnd.count hw
  refine plainObj_wpAny_Assign_Attribute ?_ hs
  refine wpAny_Name (wpAny_loadName_local hk hl2 (by rw [hL]; exact hns) h2 ?_) hd
  refine wpAny_Name (wpAny_loadName_local hk hl1 (by rw [hL]; exact hns) h1 ?_) (by decide)
  refine set_plain X (ox := { cls := .ref C, dict := some dx, data := .fields #[.ref t1, .none, .none, .none, .bool false, .none] }) (od := some oD) ⟨hx, rfl, rfl, hoD⟩ T.sa ?_
  exact OEX.osa_old X hx hnd hw hz hcl (show refsVE (.ref C :: bm) = true from hbm) rfl hno fun h' tk k hn' => hq h' tk k hn'
end
end KxM
/-! A comprehension that leaves what is tracked as it is; what it makes told by the turn's number. -/
namespace K94
open PySem PySem.Spec PyProof.Rows L2
theorem sTup {K : PySem.W.Frag} {H H' : Hp} {a : Addr} {xs : List V} (e : Same H H') (h : SqT K H a xs) : SqT K H' a xs := by
  rcases h with (h | ⟨o, h⟩) | h
  · exact .inl (.inl (e _ _ h))
  · exact .inl (.inr ⟨o, e _ _ h⟩)
  · exact .inr h
theorem sNew {H : Hp} {p : Addr} {o : HO} (n : H p = none) : Same H (upd H p o) := fun b u e => by
  rw [upd_ne (ne_of_none e n)]
  exact e
theorem sPut {H H' : Hp} {p : Addr} {o : HO} (e : Same H H') (n : H p = none) : Same H (upd H' p o) := fun b u z => by
  rw [upd_ne (ne_of_none z n)]
  exact e b u z
def made (p : Nat → Bool) (f : Nat → V) (n : Nat) : List V := ((List.range n).filter p).map f
theorem made_yes {p : Nat → Bool} {f : Nat → V} {n : Nat} (h : p n = true) : made p f (n + 1) = made p f n ++ [f n] := by
  unfold made
  rw [List.range_succ, List.filter_append, List.map_append]
  simp [h]
theorem made_no {p : Nat → Bool} {f : Nat → V} {n : Nat} (h : p n = false) : made p f (n + 1) = made p f n := by
  unfold made
  rw [List.range_succ, List.filter_append, List.map_append]
  simp [h]
theorem made_len (p : Nat → Bool) (f : Nat → V) (n : Nat) : (made p f n).length ≤ n := by
  unfold made
  rw [List.length_map]
  exact Nat.le_trans (List.length_filter_le _ _) (by simp)
section
variable {J : It} {n : Nat} {G : Hp → Prop} {Y : Nat → Hp → V → Hp → Prop}
theorem lc_fm (w : Walk J n G Y) {g : TG} {tt : TT} {te : TE} {vs : List Nat} {σ : L2.St} {H1 : Hp} {D : Addr} {Qd : Hp → Prop} (p : Nat → Bool) (f : Nat → V) (nD : H1 D = none) (hn : n ≤ sizeLine) (hG : ∀ H, Same H1 H → G H)
    (hs : ∀ (i : Nat) (x : V) (H H' : Hp) (Nx : Hp → Prop), i < n → Same H1 H → (∃ acc, H D = some (.lst acc)) → Y i H x H' →
      (p i = true → ∀ H4, Same H H4 → ∃ acc, H4 D = some (.lst acc) ∧ acc.length < sizeLine ∧ Nx (upd H4 D (.lst (acc ++ [f i])))) → (p i = false → ∀ H4, Same H H4 → Nx H4) →
      g x (wipe σ vs) H' fun σ2 H2 => wipe σ2 vs = wipe σ vs ∧ tt σ2 H2 fun b H3 => if b = true then te σ2 H3 fun y H4 => ∃ acc, H4 D = some (.lst acc) ∧ acc.length < sizeLine ∧ Nx (upd H4 D (.lst (acc ++ [y]))) else Nx H3)
    (hd : ∀ H, Same H1 H → H D = some (.lst (made p f n)) → Qd H) :
    ∃ W : Nat → Nat → Hp → Prop, (∃ m, W 0 m (upd H1 D (.lst []))) ∧ ∀ i m H, W i m H →
      (J.stop i H ∧ Qd H) ∨ (J.go i H ∧ ∃ Nx : Hp → Prop, (∀ H', Nx H' → ∃ m', m' < m ∧ W (i + 1) m' H') ∧ ∀ x H', J.yld i H x H' → g x (wipe σ vs) H' fun σ2 H2 => wipe σ2 vs = wipe σ vs ∧ tt σ2 H2 fun b H3 =>
        if b = true then te σ2 H3 fun y H4 => ∃ acc, H4 D = some (.lst acc) ∧ acc.length < sizeLine ∧ Nx (upd H4 D (.lst (acc ++ [y]))) else Nx H3) := by
  refine lc_it w (fun i H => Same H1 H ∧ H D = some (.lst (made p f i))) ⟨sNew nD, upd_same⟩ (fun i H _ z => hG H z.1) (fun i x H H' hi hP hY => ?_) (fun H z => hd H z.1 z.2)
  refine hs i x H H' _ hi hP.1 ⟨_, hP.2⟩ hY (fun hp H4 s4 => ?_) (fun hp H4 s4 => ?_)
  · refine ⟨_, s4 _ _ hP.2, Nat.lt_of_le_of_lt (made_len _ _ _) (by omega), ?_, ?_⟩
    · exact sPut (hP.1.trans s4) nD
    · rw [upd_same, made_yes hp]
  · refine ⟨hP.1.trans s4, ?_⟩
    rw [made_no hp]
    exact s4 _ _ hP.2
end
theorem yesI {σ : L2.St} {H : Hp} {A B : Hp → Prop} (h : A H) : tYes σ H (fun b H3 => if b = true then A H3 else B H3) := iteT (B := B H) h
/-- .. without a test -/
theorem lc_mp {J : It} {n : Nat} {G : Hp → Prop} {Y : Nat → Hp → V → Hp → Prop} (w : Walk J n G Y) {g : TG} {te : TE} {vs : List Nat} {σ : L2.St} {H1 : Hp} {D : Addr} {Qd : Hp → Prop} (f : Nat → V) (nD : H1 D = none) (hn : n ≤ sizeLine) (hG : ∀ H, Same H1 H → G H)
    (hs : ∀ (i : Nat) (x : V) (H H' : Hp) (Nx : Hp → Prop), i < n → Same H1 H → (∃ acc, H D = some (.lst acc)) → Y i H x H' →
      (∀ H4, Same H H4 → ∃ acc, H4 D = some (.lst acc) ∧ acc.length < sizeLine ∧ Nx (upd H4 D (.lst (acc ++ [f i])))) →
      g x (wipe σ vs) H' fun σ2 H2 => wipe σ2 vs = wipe σ vs ∧ te σ2 H2 fun y H4 => ∃ acc, H4 D = some (.lst acc) ∧ acc.length < sizeLine ∧ Nx (upd H4 D (.lst (acc ++ [y]))))
    (hg : ∀ (x : V) (σ1 : L2.St) (H : Hp) (Q Q' : L2.St → Hp → Prop), (∀ s h, Q s h → Q' s h) → g x σ1 H Q → g x σ1 H Q')
    (hd : ∀ H, Same H1 H → H D = some (.lst (made (fun _ => true) f n)) → Qd H) :
    ∃ W : Nat → Nat → Hp → Prop, (∃ m, W 0 m (upd H1 D (.lst []))) ∧ ∀ i m H, W i m H →
      (J.stop i H ∧ Qd H) ∨ (J.go i H ∧ ∃ Nx : Hp → Prop, (∀ H', Nx H' → ∃ m', m' < m ∧ W (i + 1) m' H') ∧ ∀ x H', J.yld i H x H' → g x (wipe σ vs) H' fun σ2 H2 => wipe σ2 vs = wipe σ vs ∧ tYes σ2 H2 fun b H3 =>
        if b = true then te σ2 H3 fun y H4 => ∃ acc, H4 D = some (.lst acc) ∧ acc.length < sizeLine ∧ Nx (upd H4 D (.lst (acc ++ [y]))) else Nx H3) :=
  lc_fm w (fun _ => true) f nD hn hG (fun i x H H' Nx hi s1 ha y hT _ => hg _ _ _ _ _ (fun s h q => ⟨q.1, iteT (B := Nx h) q.2⟩) (hs i x H H' Nx hi s1 ha y (hT rfl))) hd
theorem gName_mono {i : Nat} (x : V) (σ1 : L2.St) (H : Hp) (Q Q' : L2.St → Hp → Prop) (h : ∀ s h, Q s h → Q' s h) (q : gName i x σ1 H Q) : gName i x σ1 H Q' := h _ _ q
theorem gPair_mono {K : PySem.W.Frag} {i j : Nat} (x : V) (σ1 : L2.St) (H : Hp) (Q Q' : L2.St → Hp → Prop) (h : ∀ s h, Q s h → Q' s h) (q : gTup K 2 (gCons (gName i) (gCons (gName j) gNil)) x σ1 H Q) : gTup K 2 (gCons (gName i) (gCons (gName j) gNil)) x σ1 H Q' := by
  obtain ⟨a, xs, e1, h1, h2, v, r, e2, v2, r2, e3, e4, q⟩ := q
  exact ⟨a, xs, e1, h1, h2, v, r, e2, v2, r2, e3, e4, h _ _ q⟩
theorem ifB {b : Bool} {A B : Prop} (h1 : b = true → A) (h2 : b = false → B) : if b = true then A else B := by
  cases b with
  | true => rw [if_pos rfl]; exact h1 rfl
  | false => rw [if_neg Bool.false_ne_true]; exact h2 rfl
theorem ifN {b : Bool} {A B : Prop} (h1 : b = false → A) (h2 : b = true → B) : if (!b) = true then A else B := by
  cases b with
  | false => exact (if_pos rfl).mpr (h1 rfl)
  | true => exact (if_neg (by decide)).mpr (h2 rfl)
theorem made_all (f : Nat → V) (n : Nat) : made (fun _ => true) f n = (List.range n).map f := by
  unfold made
  rw [List.filter_eq_self.mpr (fun _ _ => rfl)]
theorem made_map {α : Type} (g : α → V) (xs : List α) (d : α) : made (fun _ => true) (fun i => g (xs.getD i d)) xs.length = xs.map g := by
  rw [made_all]
  refine List.ext_getElem (by simp) fun i h1 h2 => ?_
  simp only [List.length_map, List.length_range] at h1
  simp [h1]
theorem walk_zipT {K : PySem.W.Frag} {a b : Addr} {xs ys : List V} {n : Nat} (hn : n = min xs.length ys.length) : Walk (RZ.ItzT K a b) n (fun H => SqT K H a xs ∧ SqT K H b ys) (YPair (fun i => xs[i]?) (fun i => ys[i]?)) := by
  have le1 : ∀ i, i < n → i < xs.length ∧ i < ys.length := fun i hi => by omega
  exact {
    goes := fun i _ hi both => ⟨_, _, _, _, both.1, both.2, List.getElem?_eq_getElem (le1 i hi).1, List.getElem?_eq_getElem (le1 i hi).2⟩
    stops := fun _ both => ⟨_, _, both.1, both.2, by omega⟩
    yields := fun _ _ _ _ _ both ⟨T, x, z, ev, nT, eH, h1, h2⟩ => ⟨T, x, z, ev, nT, eH, h1 _ both.1, h2 _ both.2⟩ }
/-- an item of a mapped list -/
theorem map_at {α : Type} {g : α → V} {xs : List α} {i : Nat} {x : V} (h : (xs.map g)[i]? = some x) (d : α) : i < xs.length ∧ x = g (xs.getD i d) := by
  rw [List.getElem?_map] at h
  cases e : xs[i]? with
  | none => rw [e] at h; cases h
  | some a =>
    rw [e] at h
    have hi := (List.getElem?_eq_some_iff.mp e).1
    refine ⟨hi, ?_⟩
    have z : xs.getD i d = a := by rw [List.getD_eq_getElem?_getD, e]; rfl
    rw [z]
    exact (Option.some.inj h).symm
/-! ### the rows of a text: a list of lists of words -/
/-- as: where the rows stand, each a list of its own -/
structure RowsAt (H : Hp) (as : List Addr) (rs : List (List Str)) : Prop where
  len : as.length = rs.length
  at_ : ∀ i, i < rs.length → ∃ a, as[i]? = some a ∧ H a = some (.lst ((rs.getD i []).map V.str))
theorem RowsAt.same {H H' : Hp} {as : List Addr} {rs : List (List Str)} (R : RowsAt H as rs) (s : Same H H') : RowsAt H' as rs :=
  ⟨R.len, fun i hi => let ⟨a, h1, h2⟩ := R.at_ i hi; ⟨a, h1, s _ _ h2⟩⟩
abbrev splitR : V → List V → Hp → VK → Prop := fun x xs H Q => ∃ a b, x = .str a ∧ xs = [.str b] ∧ (b.length == 0) = false ∧ a.length + 2 ≤ sizeLine ∧ rNewStrs (Txt.split a b) H Q
theorem lc_rows {K : PySem.W.Frag} {L D : Addr} {t : Str} {H1 : Hp} {s : Nat} {vs : List Nat} {σ : L2.St} {Qd : Hp → Prop} (ht : t.length ≤ 1000000) (hL : H1 L = some (.lst ((Txt.split t lf).map V.str))) (hD : H1 D = none)
    (hw : ∀ x, wipe ((wipe σ vs).set s (some x)) vs = wipe σ vs) (hv : ∀ x, ((wipe σ vs).set s (some x))[s]? = some (some x))
    (hd : ∀ H as, Same H1 H → H D = some (.lst (as.map V.ref)) → RowsAt H as (rowsOf t) → Qd H) :
    ∃ W : Nat → Nat → Hp → Prop, (∃ m, W 0 m (upd H1 D (.lst []))) ∧ ∀ i m H, W i m H →
      ((Itl K L).stop i H ∧ Qd H) ∨ ((Itl K L).go i H ∧ ∃ Nx : Hp → Prop, (∀ H', Nx H' → ∃ m', m' < m ∧ W (i + 1) m' H') ∧ ∀ x H', (Itl K L).yld i H x H' → gName s x (wipe σ vs) H' fun σ2 H2 => wipe σ2 vs = wipe σ vs ∧ tYes σ2 H2 fun b H3 =>
        if b = true then tM1 splitR (tVar s) (tC (.str blank)) σ2 H3 fun y H4 => ∃ acc, H4 D = some (.lst acc) ∧ acc.length < sizeLine ∧ Nx (upd H4 D (.lst (acc ++ [y]))) else Nx H3) := by
  have ll := lines_len t
  refine lc_it (walk_list (xs := (Txt.split t lf).map V.str) (K := K) (a := L)) (fun i H => Same H1 H ∧ ∃ as : List Addr, H D = some (.lst (as.map V.ref)) ∧ as.length = i ∧ ∀ j, j < i → ∃ a l, as[j]? = some a ∧ a ≠ D ∧ (Txt.split t lf)[j]? = some l ∧ H a = some (.lst ((Txt.split l blank).map V.str)))
    ⟨sNew hD, [], upd_same, rfl, fun j hj => absurd hj (Nat.not_lt_zero _)⟩ (fun i H _ z => SqL.of (z.1 _ _ hL)) (fun i x H H' hi hP hY => ?_) (fun H z => ?_)
  · obtain ⟨rfl, hx⟩ := hY
    rw [List.length_map] at hi
    obtain ⟨s1, as, h1, h2, h3⟩ := hP
    obtain ⟨l, hl, rfl⟩ : ∃ l, (Txt.split t lf)[i]? = some l ∧ x = V.str l := by
      rw [List.getElem?_map, List.getElem?_eq_getElem hi] at hx
      exact ⟨_, List.getElem?_eq_getElem hi, (Option.some.inj hx).symm⟩
    have lle := line_le (List.mem_of_getElem? hl)
    refine ⟨hw _, yesI ⟨_, hv _, ⟨_, rfl⟩, l, blank, rfl, rfl, by decide +kernel, by rw [sizeLine_eq]; omega, fun p np => ?_⟩⟩
    have npD : p ≠ D := fun z => by
      rw [z] at np
      rw [h1] at np
      cases np
    refine ⟨as.map V.ref, by rw [upd_ne npD.symm]; exact h1, by rw [List.length_map, sizeLine_eq]; omega, sPut (s1.trans (sNew np)) hD, as ++ [p], by rw [upd_same, List.map_append] <;> rfl, by simp [h2], fun j hj => ?_⟩
    by_cases hji : j < i
    · obtain ⟨a, l', g1, g2, g3, g4⟩ := h3 j hji
      refine ⟨a, l', by rw [List.getElem?_append_left (by omega)]; exact g1, g2, g3, ?_⟩
      rw [upd_ne g2, upd_ne (ne_of_none g4 np)]
      exact g4
    · have ej : j = i := by omega
      subst ej
      refine ⟨p, l, by rw [List.getElem?_append_right (by omega), h2, Nat.sub_self] <;> rfl, npD, hl, ?_⟩
      rw [upd_ne npD, upd_same]
  · obtain ⟨s1, as, h1, h2, h3⟩ := z
    rw [List.length_map] at h2 h3
    refine hd H as s1 h1 ⟨by rw [rows_len]; exact h2, fun i hi => ?_⟩
    obtain ⟨l, g1, g2, g3⟩ := rows_at hi
    rw [rows_len] at hi
    obtain ⟨a, l', e1, e2, e3, e4⟩ := h3 i hi
    rw [g1] at e3
    cases e3
    rw [g2]
    exact ⟨a, e1, e4⟩
end K94
/-! Several clauses «except X as n», one name n; every exception of the body meets one of them. -/
namespace K94
open PySem PySem.Spec PyProof.Rows L2
abbrev TSx := Addr → Value → Option Addr → TS
/-- the ends of a suite whose name at slot i is let go -/
abbrev lets (i : Nat) (D : Ends) : Ends := { nx := fun σ' H' => D.nx (σ'.set i none) H', rt := D.rt, bk := fun σ' H' => D.bk (σ'.set i none) H', ct := fun σ' H' => D.ct (σ'.set i none) H' }
def wClauses (K : PySem.W.Frag) (i : Nat) (D : Ends) : List (Value × TSx) → WX
  | [] => fun _ _ _ _ => False
  | (c, ts) :: r => fun cls d σ H => ∃ b, PySem.W.exmOne K cls c = some b ∧ (b = true → ∀ a, H a = none → ts a cls d (lets i D) (σ.set i (some (.ref a))) H) ∧ (b = false → wClauses K i D r cls d σ H)
inductive Clauses (X : Cx) (n : Str) : List ExceptHandler → List (Value × TSx) → Prop
  | nil : Clauses X n [] []
  | cons {x : Str} {c : Value} {ts : TSx} {b0 : Stmt} {suite : List Stmt} {np pos' : Pos} {hds : List ExceptHandler} {l : List (Value × TSx)} (hc : Names X x c)
      (hsu : ∀ (a : Addr) (oe : Obj) (cls : Value) (d : Option Addr) (pn : List (Addr × Obj)), Zc cls d oe → (∃ vs, oe.data = .fields vs) → PSs (X.suite a ((a, oe) :: pn)) (b0 :: suite) (ts a cls d)) (r : Clauses X n hds l) :
      Clauses X n (.ExceptHandler (some (.Name x np)) (some n) (b0 :: suite) pos' :: hds) ((c, ts) :: l)
/-- this frame has caught the exception at a, of the class cls with the dict d; hp: the heap then -/
structure Caught (X : Cx) (pins : List (Addr × Obj)) (σ : L2.St) (H : Hp) (st : Shared) (B : Heap) (a : Addr) (cls : Value) (d : Option Addr) (hp : Heap) : Prop where
  fly : HandSPX.FlyingZ B (X.env :: X.outer) a (Zc cls d) hp
  new : H a = none
  own : X.env.frame = some X.env.locals
  inv : ∀ h2, B.StaysIn h2 → hp.UpToSlots h2 → Inv X pins σ H { st with heap := h2 }
section
variable {X : Cx} {n : Str} {i : Nat} {pins : List (Addr × Obj)} {σ : L2.St} {H : Hp} {st : Shared} {B hp : Heap} {a : Addr} {cls : Value} {d : Option Addr} {D : Ends}
/-- the exception's own object, and the suite's context -/
theorem Caught.here (C : Caught X pins σ H st B a cls d hp) : ∃ oe vs, hp.get? a = some oe ∧ Zc cls d oe ∧ oe.data = .fields vs ∧ Inv (X.suite a ((a, oe) :: (X.pn ++ pins))) [] σ H { st with heap := hp } := by
  obtain ⟨oe, vs, ha, hz, hd⟩ := C.fly.there
  have out : a ∉ frs (X.env :: X.outer) := fun hm => by
    obtain ⟨_, o2, h2, no⟩ := C.fly.2.2.1.mem hm
    cases ha.symm.trans h2
    exact no vs hd
  refine ⟨oe, vs, ha, hz, hd, (C.inv hp C.fly.1 (Heap.UpToSlots.refl hp)).suite ha hd C.new (fun z => out ?_) fun hm => out ?_⟩
  · exact List.mem_filterMap.mpr ⟨X.env, List.mem_cons_self, z ▸ C.own⟩
  · obtain ⟨en, h1, h2⟩ := List.mem_filterMap.mp hm
    exact List.mem_filterMap.mpr ⟨en, List.mem_cons_of_mem _ h1, h2⟩
/-- a clause's class, asked for by its name within the handling -/
theorem named {x : Str} {c : Value} {q : Addr × Obj} {pos : Pos} {Q E : Value → Shared → Prop} {s : Shared} (N : Names X x c) (I : Inv (X.suite a (q :: (X.pn ++ pins))) [] σ H s) (k : Q c s) :
    wpAny (model X.prog X.w) (X.A.mark (some (.ref a))) (eval (.Name x pos) X.env) Q E s := by
  rcases N with ⟨g, dbg, m | ⟨m, v, nn⟩⟩
  · have r := ld_glob (E := E) (pos := pos) I g m k dbg
    exact r
  · have r := ld_blt (E := E) (pos := pos) I g m v k nn dbg
    exact r
/-- behind a suite its name goes -/
theorem suite_gone {q : Addr × Obj} {s : Shared} {f : Flow} {pos : Pos} {A : Around} {E : Value → Shared → Prop} (ok : X.Ok) (hN : X.N.Nodup) (hi : X.N[i]? = some n) (hl : X.env.kindOf n = some .local) (h : SP (X.suite a (q :: (X.pn ++ pins))) [] (lets i D) f s) :
    wpAny (model X.prog X.w) A (do bindName X.env n .none; unbindBehindTheSuite X.env n pos) (fun _ s2 => SP X pins D f s2) E s := by
  match f, h with
  | .next, ⟨_, _, S, k⟩ | .brk, ⟨_, _, S, k⟩ | .cont, ⟨_, _, S, k⟩ => exact gone_ok (S.unsuite ok) hN hi hl fun _ J => ⟨_, _, J, k⟩
  | .ret _, ⟨_, _, _, S, r, k⟩ => exact gone_ok (S.unsuite ok) hN hi hl fun _ J => ⟨_, _, _, J, r, k⟩
/-- the clauses, asked one after the other -/
theorem Clauses.run (ok : X.Ok) (hN : X.N.Nodup) (hi : X.N[i]? = some n) (hl : X.env.kindOf n = some .local) {hds : List ExceptHandler} {l : List (Value × TSx)} (hk : Clauses X n hds l) (C : Caught X pins σ H st B a cls d hp) (w : wClauses X.K i D l cls d σ H) :
    wpAny (model X.prog X.w) X.A (handleBy (.ref a) X.env hds) (SP X pins D) X.xe { st with heap := hp } := by
  induction hk with
  | nil => exact w.elim
  | cons hc hsu _ ih =>
    obtain ⟨b, meets, yes, no⟩ := w
    obtain ⟨oe, vs, ha, hz, hd, S⟩ := C.here
    refine wpAny_handleBy_cons (codeAny_handlers_test (named hc S ?_)) (fun z => by cases z)
    have cl : PySem.W.Looks (model X.prog X.w) hp (typeOf (.ref a)) cls := fun _ _ _ s2 keep q => wpAny_typeOf_ref (keep _ _ ha) (hz.1 ▸ q)
    refine (PySem.W.exm_one (C.inv hp C.fly.1 (Heap.UpToSlots.refl hp)).kIn cl meets).here ?_
    cases b
    · exact ih (no rfl)
    · refine codeAny_handlers_suite_as (HandSPX.lands_againZ C.fly fun h2 fly2 up2 => ?_)
      have C2 : Caught X pins σ H st B a cls d h2 := ⟨fly2, C.new, C.own, fun h3 s3 up3 => C.inv h3 s3 (up2.trans up3)⟩
      obtain ⟨oe2, vs2, _, hz2, hd2, S2⟩ := C2.here
      refine store_ok (X := X.suite a ((a, oe2) :: _)) (v := .ref a) S2 hN hi (.inl hl) rfl (fun s5 S5 => ?_) (.inr hl)
      exact wpAny_mono ((hsu a oe2 cls d (X.pn ++ pins) hz2 ⟨vs2, hd2⟩).run [] s5 _ H _ S5 (yes rfl a C.new)) (fun f s6 h6 => suite_gone ok hN hi hl h6) fun _ _ z => z.elim
end
section
variable {X : Cx} {n : Str} {i : Nat} {body : List Stmt} {h0 : ExceptHandler} {hds : List ExceptHandler} {l : List (Value × TSx)} {pos : Pos} {tb : WX → TS}
theorem ps_try_clauses (hs : X.stack = X.env :: X.outer) (hf : X.env.frame = some X.env.locals) (hN : X.N.Nodup) (hi : X.N[i]? = some n) (hln : X.env.kindOf n = some .local)
    (hb : ∀ (W : WX) (pn : List (Addr × Obj)) (xe : Value → Shared → Prop), Takes (X.tr pn xe) W → PassesOwn (model X.prog X.w) X.A X.env xe → PSs (X.tr pn xe) body (tb W)) (hh : Clauses X n (h0 :: hds) l) :
    PS X (.Try body (h0 :: hds) [] [] pos) fun D σ H => tb (wClauses X.K i D l) D σ H where
  run pins s σ H D I h := by
    have ok := I.ok
    refine wpAny_Try_except (wpAny_mono ((hb (wClauses X.K i D l) (X.pn ++ pins) _ (fun u s1 thrown => ?_) PassesOwn.looking).run [] s σ H D (I.toTry _) h) (fun f s1 done => ?_) fun _ _ z => z)
    · obtain ⟨a, B, sI, _, σ1, H1, cls, d, rfl, J, nb, up, sky, na, os, ag, w⟩ := thrown
      refine Sky.land Zc.steady (by rw [ok.frames, hs]) hf (show Sky B (X.env :: X.outer) a (Zc cls d) X.env.locals s1.heap from hs ▸ sky) fun h3 fly3 up3 => ?_
      exact hh.run ok hN hi hln ⟨fly3, na, hf, fun h4 st4 up4 => (J.ofTry ok).landed nb st4 ((up.trans up3).trans up4) os ag⟩ w
    · match f, done with
      | .next, ⟨_, _, J, k⟩ => exact wpAny_execs_nil ⟨_, _, J.ofTry ok, k⟩
      | .brk, ⟨_, _, J, k⟩ | .cont, ⟨_, _, J, k⟩ => exact ⟨_, _, J.ofTry ok, k⟩
      | .ret _, ⟨_, _, _, J, r, k⟩ => exact ⟨_, _, _, J.ofTry ok, r, k⟩
end
end K94
/-! repr of data: a list or a tuple of any depth. -/
namespace K94
open PySem PySem.Spec PyProof.Rows L2
def rRepr (K : PySem.W.Frag) : List V → Hp → VK → Prop := fun xs H Q => ∃ (a : Addr) (d : PyData), xs = [.ref a] ∧ Dp K H (.ref a) d ∧ d.showable = true ∧ d.hasDict = false ∧ d.depth ≤ 30 ∧ d.shown.length ≤ sizeLine ∧ Q (.str d.shown) H
theorem call_repr_data {X : Cx} (hg : X.A.guards = some []) (hu : X.A.units + 64 < cLine) : CallR X (.builtin "repr") (rRepr X.K) := by
  intro pins s σ H vs us Q I r h
  obtain ⟨a, d, ev, hd, hs, hn, hp, hz, q⟩ := h
  subst ev
  cases r with
  | cons r rr =>
    cases rr
    obtain rfl := (show _ = Value.ref a from r)
    obtain ⟨as, hr⟩ := Dp.reads I d (.ref a) (.ref a) hd rfl
    exact repr_of_reads' hr hs (fun z => by rw [hn] at z; cases z) hg (by omega) (fun _ _ e => e) (fun h' u tk k => ⟨.str d.shown, H, I.kept (t' := tk) k, ⟨u, rfl⟩, q⟩) hz
end K94
/-! enumerate of a tuple in the layer: its call with one argument, its walk; what next of it gives is the library's, over Draws. -/
namespace K94
open PySem
/-- a new enumerate over the iterator at j -/
abbrev enumO (j : Addr) : Obj := { cls := .type "enumerate", data := .fields #[.none, .bool false, .ref j, rawInt 0, .none, .none] }
theorem enum_one {v : Value} {ob : Obj} {G : Heap → Prop} (B : Begins v ob G) : Meets (Builtin.«enumerate.__new__» ⟨[.type "enumerate", v], []⟩) fun _ R st =>
    G st.heap ∧ R (.ok (.ret (.ref (st.heap.push ob).objs.size))) { st with heap := (st.heap.push ob).push (enumO st.heap.objs.size) } := .of_wp fun pr wd Ar Re st hh => by
  obtain ⟨hp, gn, dr, tk, os⟩ := st
  obtain ⟨g0, hr⟩ := hh
  have hs := sub_enumerate
  have begun : ∀ {A1 : Around} {E1 : Value → Shared → Prop} {Q1 : Value → Shared → Prop}, Q1 (.ref hp.objs.size) ⟨hp.push ob, gn, dr, tk, os⟩ → wpAny (model pr wd) A1 (pyIter v) Q1 E1 ⟨hp, gn, dr, tk, os⟩ := fun q => B.iter pr wd _ _ ⟨hp, gn, dr, tk, os⟩ _ g0 q
  wp_walk using begun
  refine wpAny_stack_any fun _ => wpAny_pure ?_
  split
  next c _ _ _ _ _ =>
    cases (c == Value.type "enumerate") <;> (wp_walk using begun; exact ⟨_, rfl, hr⟩)
  next =>
    wp_walk using begun
    exact ⟨_, rfl, hr⟩
theorem enum_called {pr : Program} {wd : World} {Ar : Around} {Er : Value → Shared → Prop} {st : Shared} {v : Value} {ob : Obj} {G : Heap → Prop} {Q : Value → Shared → Prop} (B : Begins v ob G) (g0 : G st.heap)
    (k : ∀ hp, IsEnum hp (st.heap.objs.size + 1) st.heap.objs.size 0 .none → hp.get? st.heap.objs.size = some ob → (∀ b o, st.heap.get? b = some o → hp.get? b = some o) → Q (.ref (st.heap.objs.size + 1)) { st with heap := hp }) :
    wpAny (model pr wd) Ar (call (.type "enumerate") [v]) Q Er st := by
  have sz : (st.heap.push ob).objs.size = st.heap.objs.size + 1 := Heap.size_push ..
  have at1 : ((st.heap.push ob).push (enumO st.heap.objs.size)).get? (st.heap.objs.size + 1) = some (enumO st.heap.objs.size) := sz ▸ Heap.get?_push_size (st.heap.push ob) rfl
  have at0 := Heap.get?_push_of_some (enumO st.heap.objs.size) (Heap.get?_push_size st.heap B.free)
  refine callType_new F.called_enumerate (by decide) (F.typeCall_enumerate_1 v) (F.newCall_enumerate_1 v) (fun ob2 => F.args_object_init_2 ob2 v) F.entry_enumerate_new (enum_one B) ⟨g0, ?_⟩
  rw [sz]
  exact ⟨⟨_, at1, rfl⟩, k _ at1 at0 fun b o q => Heap.get?_push_of_some _ (Heap.get?_push_of_some _ q)⟩
end K94
namespace K94
open PySem PySem.Spec PyProof.Rows L2
/-- each item of the tuple at a with its number, in a pair of its own -/
def ItET (K : PySem.W.Frag) (a : Addr) : It where
  go i H := ∃ xs x, SqT K H a xs ∧ xs[i]? = some x
  yld i H v H' := ∃ T x, v = .ref T ∧ H T = none ∧ H' = upd H T (.tup [.int (i : Nat), x]) ∧ ∀ xs, SqT K H a xs → xs[i]? = some x
  stop i H := ∃ xs, SqT K H a xs ∧ xs.length = i
/-- at turn i: the enumerate at e over the tuple's iterator at j -/
structure EnumAt (a e j : Addr) (i : Nat) (hp : Heap) : Prop where
  en : ∃ old, IsEnum hp e j i old
  it : hp.IsTupleIter j a i
  ne : e ≠ j
theorem EnumAt.lt {a e j : Addr} {i : Nat} {hp : Heap} (X : EnumAt a e j i hp) : e < hp.objs.size ∧ j < hp.objs.size := by
  obtain ⟨⟨_, h1⟩, ⟨_, h2, _⟩, _⟩ := X
  exact ⟨Heap.lt_size h1, Heap.lt_size h2⟩
/-- the tuple is neither of both -/
theorem EnumAt.apart {a e j : Addr} {i : Nat} {hp : Heap} {us : Array Value} (X : EnumAt a e j i hp) (t : hp.IsTuple a us) : a ≠ j ∧ e ∉ [j, a] := by
  obtain ⟨⟨_, h1⟩, ⟨oj, h2, _, h3⟩, ne⟩ := X
  obtain ⟨oa, k1, _, _, k2⟩ := t
  refine ⟨fun z => ?_, fun z => ?_⟩
  · rw [z, h2] at k1
    cases k1
    rw [h3] at k2
    cases k2
  · rcases List.mem_cons.mp z with z | z
    · exact ne z
    · rw [← List.mem_singleton.mp z, h1] at k1
      cases k1
      cases k2
theorem turn_enumT {P : Program} {w : World} {K : PySem.W.Frag} {ts : List Expr} {n0 : Nat} {p0 : Pos} (a e j : Addr) : Turn P w K (.Tuple ts n0 p0) (ItET K a) [e, j] e (EnumAt a e j) where
  mem := List.mem_cons_self ..
  obj i hp X b hb := by
    obtain ⟨⟨_, h1⟩, ⟨oj, h2, _, h3⟩, _⟩ := X
    simp only [List.mem_cons, List.not_mem_nil, or_false] at hb
    rcases hb with rfl | rfl
    · exact ⟨_, h1, fun _ z => by cases z⟩
    · exact ⟨oj, h2, fun _ z => by rw [h3] at z; cases z⟩
  keep i hp hp2 X k := by
    obtain ⟨⟨old, h1⟩, h2, ne⟩ := X
    exact ⟨⟨old, k e (by simp) _ h1⟩, h2.at fun o q => k j (by simp) o q, ne⟩
  item X eP ew eK calm i pins st σ H Er I free at_ go := by
    subst eP ew eK
    obtain ⟨xs, x, hq, hx⟩ := go
    obtain ⟨us, rv, tu, _⟩ := I.tuple hq
    have tu : st.heap.IsTuple a us.toArray := tu
    obtain ⟨u, hu, ru⟩ := rv.get hx
    obtain ⟨ap1, ap2⟩ := at_.apart tu
    obtain ⟨le, lj⟩ := at_.lt
    obtain ⟨old, en⟩ := at_.en
    have hi : i < us.toArray.size := by
      rw [List.size_toArray]
      exact (List.getElem?_eq_some_iff.mp hu).1
    refine wpAny_pyNext_enum_itemD (Draws.tuple (A := X.A.in1) (show X.A.in1.handled = none from I.ok.hd calm) j a ap1 us.toArray) en ⟨at_.it, tu⟩ hi at_.ne ap2 fun y hp tk hy out nxt pair _ same => ⟨_, rfl, ?_⟩
    have ey : y = u := by
      rw [List.getElem?_toArray, hu] at hy
      exact (Option.some.inj hy).symm
    subst ey
    refine wpAny_letOwnedTupleGo_enum (s := { st with heap := hp, toks := tk + 1 }) out fun hp2 en2 only => ?_
    have away : ∀ b o, b ∉ [e, j] → st.heap.get? b = some o → hp2.get? b = some o := fun b o nb q => by
      simp only [List.mem_cons, List.not_mem_nil, or_false, not_or] at nb
      exact (only.2 b nb.1).trans (same b o nb.1 nb.2 q)
    have pair2 := (only.2 _ (Nat.ne_of_gt le)).trans pair
    have J := I.turnedNew (t' := tk + 1) (ch := [e, j]) (ob := .tup [.int (i : Nat), x]) away free (Nat.le_refl _) ⟨by show 2 ≤ sizeLine; decide, [.int i tk, y], .cons ⟨_, rfl⟩ (.cons ru .nil), _, pair2, rfl, _, rfl⟩
    refine ⟨.ref st.heap.objs.size, _, J, rfl, ⟨_, x, rfl, I.hok.fresh (Nat.le_refl _), rfl, fun ys h => I.tuple_inj h hq ▸ hx⟩, ⟨⟨y, ?_⟩, nxt.1.at fun o q => (only.2 j at_.ne.symm).trans q, at_.ne⟩, fun b hb => ?_⟩
    · exact Int.natCast_succ i ▸ en2
    · have lb : b < st.heap.objs.size := by
        simp only [List.mem_cons, List.not_mem_nil, or_false] at hb
        rcases hb with rfl | rfl
        · exact le
        · exact lj
      exact (upd_ne (Nat.ne_of_lt lb)).trans (free b hb).1
  done X eP ew eK calm i pins st σ H Er I free at_ stop := by
    subst eP ew eK
    obtain ⟨xs, hq, hx⟩ := stop
    obtain ⟨us, rv, tu, _⟩ := I.tuple hq
    have tu : st.heap.IsTuple a us.toArray := tu
    obtain ⟨ap1, ap2⟩ := at_.apart tu
    obtain ⟨old, en⟩ := at_.en
    have ei : i = us.toArray.size := by rw [List.size_toArray, ← rv.length, hx]
    obtain ⟨f0, f1, f2, f3, f4, f5⟩ := free j (by simp)
    exact wpAny_pyNext_enum_endD (Draws.tuple (A := X.A.in1) (show X.A.in1.handled = none from I.ok.hd calm) j a ap1 us.toArray) en ⟨ei ▸ at_.it, tu⟩ fun hp only => ⟨rfl, I.turned (t' := st.toks) (fun b o nb q => only b o nb q) f0 f1 f3 f4 f5⟩
  self Ar i st Q Er at_ h := by
    obtain ⟨old, en⟩ := at_.en
    exact wpAny_pyIter_enum en h
/-- enumerate(e), e a tuple -/
def iEnumT (K : PySem.W.Frag) (ta : TA) : TI := fun σ H R => ta σ H fun vs H1 => ∃ a xs, vs = [.ref a] ∧ SqT K H1 a xs ∧ R (ItET K a) H1
theorem pi_enumT {X : Cx} {e0 : Expr} {ta : TA} {p1 p2 p0 : Pos} {ts : List Expr} {n0 : Nat} (hg : Gl X "enumerate") (hm : X.mg "enumerate" = none) (ha : PA X [e0] ta) (one : starEach [e0] X.env = [(false, eval e0 X.env)] := by rfl) :
    PI X (.Tuple ts n0 p0) (.Call (.Name "enumerate" p1) [e0] [] p2) (iEnumT X.K ta) where
  run pins st σ H R I h := by
    refine Call_ (ld_blt I hg hm boot_enumerate (PyProof.Rows.callWith_type1 (thn (ha.run p2 pins st σ H _ I h) fun us s1 got => ?_) one rfl))
    obtain ⟨vs, H1, J, rel, a, xs, rfl, hq, k⟩ := got
    match us, rel with
    | [_], .cons r0 .nil =>
      cases r0
      obtain ⟨items, _, tu, _⟩ := J.tuple hq
      refine enum_called (begins_tuple a items.toArray) (show s1.heap.IsTuple a items.toArray from tu) fun hp en it0 keep => wpAny_pyIter_enum en ?_
      have fresh : ∀ b, s1.heap.objs.size ≤ b → FpOk X pins H1 b := fun b lb => J.fpOk lb (J.hok.fresh lb)
      refine ⟨_, [s1.heap.objs.size + 1, s1.heap.objs.size], _, _, H1, rfl, J.kept (t' := s1.toks) keep, turn_enumT a _ s1.heap.objs.size, ⟨⟨.none, en⟩, ⟨_, it0, rfl, rfl⟩, Nat.succ_ne_self _⟩, fun b hb => fresh b ?_, k⟩
      simp only [List.mem_cons, List.not_mem_nil, or_false] at hb
      rcases hb with rfl | rfl
      · exact Nat.le_succ _
      · exact Nat.le_refl _
theorem walk_enumT {K : PySem.W.Frag} {a : Addr} {xs : List V} : Walk (ItET K a) xs.length (fun H => SqT K H a xs) (YPair (fun i => some (.int (i : Nat))) fun i => xs[i]?) where
  goes i H hi q := ⟨xs, xs[i], q, List.getElem?_eq_getElem hi⟩
  stops H q := ⟨xs, q, rfl⟩
  yields i H v H' hi q y := by
    obtain ⟨T, x, h1, h2, h3, h4⟩ := y
    exact ⟨T, _, x, h1, h2, h3, rfl, h4 xs q⟩
/-- a turn over numbered pairs, each new -/
abbrev PairTurn (xs : List V) (g : TG) (tb : TS) (D : Ends) (Pv : Nat → L2.St → Hp → Prop) : Prop := ∀ (i : Nat) (x : V) (T : Addr) (σ : L2.St) (H : Hp), xs[i]? = some x → Pv i σ H → H T = none →
  g (.ref T) σ (upd H T (.tup [.int (i : Nat), x])) fun σ2 H2 => tb { D with nx := Pv (i + 1), ct := Pv (i + 1), bk := D.nx } σ2 H2
abbrev Walked (J : It) (g : TG) (tb : TS) (D : Ends) (σ : L2.St) (H : Hp) : Prop := ∃ W : Nat → Nat → L2.St → Hp → Prop, (∃ m, W 0 m σ H) ∧ ∀ i m σ H, W i m σ H → (J.stop i H ∧ D.nx σ H) ∨
  (J.go i H ∧ ∃ N : L2.St → Hp → Prop, (∀ σ' H', N σ' H' → ∃ m', m' < m ∧ W (i + 1) m' σ' H') ∧ ∀ v H', J.yld i H v H' → g v σ H' fun σ2 H2 => tb { D with nx := N, ct := N, bk := D.nx } σ2 H2)
section
variable {K : PySem.W.Frag} {a : Addr} {xs : List V} {g : TG} {tb : TS} {D : Ends} {σ : L2.St} {H : Hp}
theorem pair_turn {Pv : Nat → L2.St → Hp → Prop} {i : Nat} {v : V} {σ : L2.St} {H H' : Hp} (hs : PairTurn xs g tb D Pv) (p : Pv i σ H) (y : YPair (fun i => some (.int (i : Nat))) (fun i => xs[i]?) i H v H') :
    g v σ H' fun σ2 H2 => tb { D with nx := Pv (i + 1), ct := Pv (i + 1), bk := D.nx } σ2 H2 := by
  obtain ⟨T, n, x, rfl, nT, rfl, en, hx⟩ := y
  cases en
  exact hs i x T σ H hx p nT
theorem for_enumT (Pv : Nat → L2.St → Hp → Prop) (h0 : Pv 0 σ H) (hq : ∀ i σ H, Pv i σ H → SqT K H a xs) (hs : PairTurn xs g tb D Pv) (hd : ∀ σ H, Pv xs.length σ H → D.nx σ H) : Walked (ItET K a) g tb D σ H :=
  for_it walk_enumT Pv h0 (fun i σ H _ p => hq i σ H p) (fun i v σ H H' _ p y => pair_turn hs p y) hd
theorem for_enumL (Pv : Nat → L2.St → Hp → Prop) (h0 : Pv 0 σ H) (hq : ∀ i σ H, Pv i σ H → SqL K H a xs) (hs : PairTurn xs g tb D Pv) (hd : ∀ σ H, Pv xs.length σ H → D.nx σ H) : Walked (Ite K a) g tb D σ H :=
  for_it walk_enum Pv h0 (fun i σ H _ p => hq i σ H p) (fun i v σ H H' _ p y => pair_turn hs p y) hd
end
end K94
/-! BadHall and BadText, made and raised. -/
namespace K94
open PySem L2
abbrev P0 : Program := PySem.Challenge.pw_booklimits_k94_whole_texts_of_halls
def top (i : Nat) : Stmt := P0.main.body.getD i (.Pass ⟨0, 0, 0, 0⟩)
abbrev sIH : Stmt := inClass (top 2) 0
abbrev sIT : Stmt := inClass (top 10) 0
abbrev mf : Str := "/claim/cut.py"
end K94
namespace K94
open PySem PySem.W PySem.Calls PyProof.Rows PySem.HandSPX KxM
open L2 (defArgs defBody defScope inClass)
section
variable {w : World} {A : Around} {E : Value → Shared → Prop} {R : Result → Shared → Prop} {s : Shared} {K : Frag} {mg mb : Str → Option Value} {C fI : Addr}
/-- what the making of an own error asks beside its class -/
structure Gr (mg mb : Str → Option Value) (h : Heap) : Prop where
  g : h.Ns mainGlobals mg
  b : h.Ns builtinsNs mb
  bb : ∀ x : Str, x ≠ "__name__" → mb x = bootBuiltins x
  sup : mg "super" = none
  lim : h.NoLimit
theorem Ns_keep {h h' : Heap} {L : Addr} {m : Str → Option Value} (hn : h.Ns L m) {x : Addr} {ox : Obj} (hx : h.get? x = some ox) (hf : ∃ vs, ox.data = .fields vs) (k : ∀ b o, b ≠ x → h.get? b = some o → h'.get? b = some o) : h'.Ns L m := by
  obtain ⟨o, es, ep, e, d, r⟩ := hn
  refine ⟨o, es, ep, k _ o (fun z => ?_) e, d, r⟩
  rw [z, hx] at e
  cases e
  obtain ⟨vs, hf⟩ := hf
  rw [hf] at d
  cases d
theorem Gr.keep {h h' : Heap} (G : Gr mg mb h) (k : ∀ b o, h.get? b = some o → h'.get? b = some o) : Gr mg mb h' where
  g := by obtain ⟨o, es, ep, e, r⟩ := G.g; exact ⟨o, es, ep, k _ o e, r⟩
  b := by obtain ⟨o, es, ep, e, r⟩ := G.b; exact ⟨o, es, ep, k _ o e, r⟩
  bb := G.bb
  sup := G.sup
  lim := G.lim.keeps k
theorem K_keep {h h' : Heap} (X : K.In h) {x : Addr} (hnx : K.lookup x = none) (k : ∀ b o, b ≠ x → h.get? b = some o → h'.get? b = some o) : K.In h' := fun a o e =>
  k a o (fun z => by rw [z, hnx] at e; cases e) (X a o e)
theorem hall_init (T : ExCls K mg mf C fI "BadHall.__init__" (defArgs sIH) (defBody sIH) (defScope sIH)) (hno : findIn K (.ref C) "part" = some none) {x t0 : Addr} {v : Value} (X : K.In s.heap) (G : Gr mg mb s.heap) (hx : s.heap.get? x = some (excO C t0)) (hnx : K.lookup x = none) (hroom : A.depth < recursionLimit)
    (hq : ∀ h' tk dx, (∀ b o, b ≠ x → s.heap.get? b = some o → h'.get? b = some o) → s.heap.objs.size ≤ dx → dx ≠ x → HasD h' x C dx (fun y => if y = "part" then some v else none) → R (.ok (.ret .none)) { s with heap := h', toks := tk }) :
    codeAny (model P0 w) A (.call (.ref fI) ⟨[.ref x, v], []⟩) R s := by
  obtain ⟨oc, od, kV, doc, pm, an, cda, ct, cc, osl, vs, tf, ccl, cdd, ccs, cl, cld, csl, lf, lcd, lc, hvs, lcell⟩ := T.fn
  refine ks_codeAny_call_defAt (binds := [("self", .ref x), ("part", v)]) hroom (X _ _ lf) rfl G.lim (codeRec_of X lcd) rfl (BindsTo.of_eq (by first | rfl | with_unfolding_all rfl)) (by show ∀ x ∈ (defScope sIH).names, x.2 ≠ .cell; decide +kernel) (fun y hy => by
    rcases List.mem_cons.mp hy with rfl | hy
    · rfl
    · rcases List.mem_cons.mp hy with rfl | hy
      · rfl
      · cases hy) (fun h₀ hns kp => ?_) rfl rfl rfl
  have hself : (fun y => ([("self", Value.ref x), ("part", v)] : List (Str × Value)).reverse.lookup y) "self" = some (.ref x) := by first | rfl | with_unfolding_all rfl | kernel_rfl
  have hpart : (fun y => ([("self", Value.ref x), ("part", v)] : List (Str × Value)).reverse.lookup y) "part" = some v := by first | rfl | with_unfolding_all rfl | kernel_rfl
  have X0 : K.In h₀ := X.keeps kp
  have G0 := G.keep kp
  refine ks_wpAt_execs_cons (super_st (s := { s with heap := h₀, toks := s.toks + 2 }) T X0 G0.g G0.b G0.bb G0.sup lf lc hvs lcell (by decide +kernel) (by decide +kernel) rfl (by rfl) (by rfl) (by rfl) rfl hns hself (kp _ _ hx) (by rfl) (by rfl) (by rfl) fun h1 t1 tk1 k1 hx1 => ?_)
  refine wpAt_of_wpAny (wpAny_execs_cons ?_)
  refine store_first (s := { s with heap := h1, toks := tk1 }) T (K_keep X0 hnx k1) rfl rfl (by rfl) (by rfl) (by decide) hno (Ns_keep hns (kp _ _ hx) ⟨_, rfl⟩ k1) hself hpart hx1 (by rfl) fun h2 tk2 dx k2 dn dne D => ?_
  have z := (Ns_keep hns (kp _ _ hx) ⟨_, rfl⟩ k1).lt
  exact wpAny_execs_nil (hq h2 tk2 dx (fun b o hb e => k2 b o hb (k1 b o hb (kp b o e))) (Nat.le_of_lt (Nat.lt_of_lt_of_le z dn)) dne D)
theorem text_init (T : ExCls K mg mf C fI "BadText.__init__" (defArgs sIT) (defBody sIT) (defScope sIT)) (hno : findIn K (.ref C) "line" = some none) (hno2 : findIn K (.ref C) "word" = some none) {x t0 : Addr} {v u : Value} (X : K.In s.heap) (G : Gr mg mb s.heap) (hx : s.heap.get? x = some (excO C t0)) (hnx : K.lookup x = none) (hroom : A.depth < recursionLimit)
    (hq : ∀ h' tk dx, (∀ b o, b ≠ x → s.heap.get? b = some o → h'.get? b = some o) → s.heap.objs.size ≤ dx → dx ≠ x → HasD h' x C dx (fun y => if y = "word" then some u else if y = "line" then some v else none) → R (.ok (.ret .none)) { s with heap := h', toks := tk }) :
    codeAny (model P0 w) A (.call (.ref fI) ⟨[.ref x, v, u], []⟩) R s := by
  obtain ⟨oc, od, kV, doc, pm, an, cda, ct, cc, osl, vs, tf, ccl, cdd, ccs, cl, cld, csl, lf, lcd, lc, hvs, lcell⟩ := T.fn
  refine ks_codeAny_call_defAt (binds := [("self", .ref x), ("line", v), ("word", u)]) hroom (X _ _ lf) rfl G.lim (codeRec_of X lcd) rfl (BindsTo.of_eq (by first | rfl | with_unfolding_all rfl)) (by show ∀ x ∈ (defScope sIT).names, x.2 ≠ .cell; decide +kernel) (fun y hy => by
    rcases List.mem_cons.mp hy with rfl | hy
    · rfl
    · rcases List.mem_cons.mp hy with rfl | hy
      · rfl
      · rcases List.mem_cons.mp hy with rfl | hy
        · rfl
        · cases hy) (fun h₀ hns kp => ?_) rfl rfl rfl
  have hself : (fun y => ([("self", Value.ref x), ("line", v), ("word", u)] : List (Str × Value)).reverse.lookup y) "self" = some (.ref x) := by first | rfl | with_unfolding_all rfl | kernel_rfl
  have hline : (fun y => ([("self", Value.ref x), ("line", v), ("word", u)] : List (Str × Value)).reverse.lookup y) "line" = some v := by first | rfl | with_unfolding_all rfl | kernel_rfl
  have hword : (fun y => ([("self", Value.ref x), ("line", v), ("word", u)] : List (Str × Value)).reverse.lookup y) "word" = some u := by first | rfl | with_unfolding_all rfl | kernel_rfl
  have X0 : K.In h₀ := X.keeps kp
  have G0 := G.keep kp
  refine ks_wpAt_execs_cons (super_st (s := { s with heap := h₀, toks := s.toks + 3 }) T X0 G0.g G0.b G0.bb G0.sup lf lc hvs lcell (by decide +kernel) (by decide +kernel) rfl (by rfl) (by rfl) (by rfl) rfl hns hself (kp _ _ hx) (by rfl) (by rfl) (by rfl) fun h1 t1 tk1 k1 hx1 => ?_)
  refine wpAt_of_wpAny (wpAny_execs_cons ?_)
  have X1 := K_keep X0 hnx k1
  have n1 := Ns_keep hns (kp _ _ hx) ⟨_, rfl⟩ k1
  have z := n1.lt
  refine store_first (s := { s with heap := h1, toks := tk1 }) T X1 rfl rfl (by rfl) (by rfl) (by decide) hno n1 hself hline hx1 (by rfl) fun h2 tk2 dx k2 dn dne D => ?_
  refine wpAny_execs_cons ?_
  have X2 := K_keep X1 hnx k2
  have n2 := Ns_keep n1 hx1 ⟨_, rfl⟩ k2
  refine store_next (s := { s with heap := h2, toks := tk2 }) (nl := ["line"]) T X2 rfl rfl (by rfl) (by rfl) (by decide) hno2 n2 hself hword D (fun y hy => ?_) (by decide) (by rfl) fun h3 tk3 k3 hn3 => ?_
  · by_cases e : y = "line"
    · rw [e]
      exact List.mem_cons_self
    · exact absurd (if_neg e) hy
  obtain ⟨t2, hx2⟩ := D.obj
  refine wpAny_execs_nil (hq h3 tk3 dx (fun b o hb e => ?_) (Nat.le_of_lt (Nat.lt_of_lt_of_le z dn)) dne ⟨⟨t2, k3 _ _ (Ne.symm dne) hx2⟩, hn3⟩)
  have e1 := k1 b o hb (kp b o e)
  refine k3 b o (fun q => ?_) (k2 b o hb e1)
  have l := Heap.lt_size e1
  rw [q] at l
  exact absurd (Nat.lt_of_lt_of_le l dn) (Nat.lt_irrefl _)
/-! ### made: C(..) -/
/-- a made error: its object at e, its dict at d -/
structure OwnMade (h h' : Heap) (e C d : Addr) (mv : Str → Option Value) : Prop where
  keep : ∀ b o, h.get? b = some o → h'.get? b = some o
  new : h.objs.size ≤ e
  obj : ∃ oe vs, h'.get? e = some oe ∧ oe.cls = .ref C ∧ oe.dict = some d ∧ oe.data = .fields vs ∧ vs[1]? = some .none
  dbig : h.objs.size ≤ d
  dne : d ≠ e
  ns : h'.Ns1 d mv
theorem own_made {qual : Str} {params : Arguments} {body : List Stmt} {scope : Scope} (T : ExCls K mg mf C fI qual params body scope) {us : List Value} {mv : Str → Option Value} (hlen : us.length ≤ 1000) (X : K.In s.heap) (G : Gr mg mb s.heap) (hroom : A.depth + 1 < recursionLimit)
    (hin : ∀ (A : Around) (R : Result → Shared → Prop) (s : Shared) (x t0 : Addr), K.In s.heap → Gr mg mb s.heap → s.heap.get? x = some (excO C t0) → K.lookup x = none → A.depth < recursionLimit →
      (∀ h' tk dx, (∀ b o, b ≠ x → s.heap.get? b = some o → h'.get? b = some o) → s.heap.objs.size ≤ dx → dx ≠ x → HasD h' x C dx mv → R (.ok (.ret .none)) { s with heap := h', toks := tk }) →
      codeAny (model P0 w) A (.call (.ref fI) ⟨.ref x :: us, []⟩) R s)
    (hq : ∀ h' tk e d, OwnMade s.heap h' e C d mv → R (.ok (.ret (.ref e))) { s with heap := h', toks := tk }) :
    codeAny (model P0 w) A (.call (.ref C) ⟨us, []⟩) R s := by
  obtain ⟨nm, q, N, bs, bm, sn, sub, ab, col, dd, k0, k1, k2, k3, k5, hC, hbm, _⟩ := T.cls
  obtain ⟨hp, g, dr, tk, os⟩ := s
  have k : ∀ b o, hp.get? b = some o → ((hp.push (kdv_tup us)).push (excO C hp.objs.size)).get? b = some o := fun b o e => Heap.get?_push_of_some _ (Heap.get?_push_of_some _ e)
  have hget : ((hp.push (kdv_tup us)).push (excO C hp.objs.size)).get? (hp.objs.size + 1) = some (excO C hp.objs.size) := by heap_get
  have hnx : K.lookup (hp.objs.size + 1) = none := by
    cases e : K.lookup (hp.objs.size + 1) with
    | none => rfl
    | some o =>
      have z : hp.get? (hp.objs.size + 1) = some o := X _ _ e
      exact absurd (Nat.lt_of_succ_lt (Heap.lt_size z)) (Nat.lt_irrefl _)
  refine call_own F.excBase_ValueError (fun X => refsVE_contains X bm hbm) (X _ _ hC) (looks_findIn X T.iC) (fun self => bind_fn X self T.tI) (by rw [sizeLine_eq]; omega) ?_
  refine hin _ _ ⟨(hp.push (kdv_tup us)).push (excO C hp.objs.size), g, dr, tk, os⟩ _ _ (X.keeps k) (G.keep k) hget hnx ?_ fun h' tk' dx k' dn dne D => ?_
  · have e : ((A.under (.builtin "type.__call__" ⟨.ref C :: us, []⟩)).depth) = A.depth + 1 := L2.make_depth
    show (A.under (.builtin "type.__call__" ⟨.ref C :: us, []⟩)).depth < recursionLimit
    rw [e]
    exact hroom
  · have old : ∀ b o, hp.get? b = some o → h'.get? b = some o := fun b o e => k' b o (Nat.ne_of_lt (Nat.lt_succ_of_lt (Heap.lt_size e))) (k b o e)
    have z : hp.objs.size + 1 + 1 ≤ dx := by
      have q : ((hp.push (kdv_tup us)).push (excO C hp.objs.size)).objs.size ≤ dx := dn
      rw [Heap.size_push, Heap.size_push] at q
      exact q
    obtain ⟨⟨t1, hx⟩, hns⟩ := D
    exact ⟨rfl, hq h' tk' (hp.objs.size + 1) dx ⟨old, Nat.le_succ _, ⟨_, _, hx, rfl, rfl, rfl, rfl⟩, Nat.le_trans (Nat.le_trans (Nat.le_succ _) (Nat.le_succ _)) z, dne, hns⟩⟩
end
end K94
namespace K94
open PySem PySem.Spec PyProof.Rows L2
section
variable {X : Cx} {C fI : Addr}
theorem mk_own {pins : List (Addr × Obj)} {σ : L2.St} {H1 : Hp} {Q : XK} {hp h' : Heap} {g : Array GenState} {dr : Drawn} {tk tk' : Nat} {os : OsState} {e d : Addr} {mv : Str → Option Value} {fs : List (Str × V)}
    (I1 : Inv X pins σ H1 ⟨hp, g, dr, tk, os⟩) (M : OwnMade hp h' e C d mv) (rel : ∀ f, RelO (fs.lookup f) (mv f)) (r : Raises X (.ref C)) (q1 : ∀ d, H1 d = none → Q (.ref C) (some d) (upd H1 d (.xd fs))) :
    MkP X pins σ Q (.ref e) ⟨h', g, dr, tk', os⟩ := by
  obtain ⟨oe, fv, hoe, hc, hd, hdat, h1⟩ := M.obj
  have hns := M.ns
  obtain ⟨G', g1, g2⟩ := restrict h' fun b => decide (b ≠ e)
  have gk : ∀ b, b ≠ e → G'.get? b = h'.get? b := fun b hb => g1 b (decide_eq_true hb)
  have ge : G'.get? e = none := g2 e (by simp)
  have old : ∀ b o, hp.get? b = some o → G'.get? b = some o := fun b o q => (gk b (Nat.ne_of_lt (Nat.lt_of_lt_of_le (Heap.lt_size q) M.new))).trans (M.keep b o q)
  have ob : ObjOk X.prog X.w (upd H1 d (.xd fs)) G' d (.xd fs) := ⟨_, hns.at (fun o q => (gk d M.dne).trans q), rel⟩
  have J : Inv X pins σ (upd H1 d (.xd fs)) ⟨G', g, dr, tk', os⟩ := I1.laid (t' := tk') old M.dbig ob
  refine ⟨e, oe, fv, ⟨G', g, dr, tk', os⟩, _, .ref C, some d, rfl, J, fun b o q => ?_, ge, hoe, ⟨hc, hd⟩, hdat, h1, ?_, rfl, I1.bare, r, q1 d (I1.hok.fresh M.dbig)⟩
  · by_cases hb : b = e
    · have q' : G'.get? b = some o := q
      rw [hb, ge] at q'; cases q'
    · exact (gk b hb).symm.trans q
  · rw [upd_ne (Ne.symm M.dne)]
    exact I1.hok.fresh M.new
theorem gr_of {pins : List (Addr × Obj)} {σ : L2.St} {H : Hp} {s : Shared} (I : Inv X pins σ H s) (hs : X.mg "super" = none) : ∃ mb, Gr X.mg mb s.heap := by
  obtain ⟨mb, h1, h2⟩ := I.mod.blt
  exact ⟨mb, I.mod.glob.keeps I.bk, h1.keeps I.bk, h2, hs, I.nolimit⟩
/-- the two errors as the walk wants them -/
structure ErrT (K : PySem.W.Frag) (mg : Str → Option Value) (CH fH CT fT : Addr) : Prop where
  H : KxM.ExCls K mg mf CH fH "BadHall.__init__" (defArgs sIH) (defBody sIH) (defScope sIH)
  T : KxM.ExCls K mg mf CT fT "BadText.__init__" (defArgs sIT) (defBody sIT) (defScope sIT)
  gH : mg "BadHall" = some (.ref CH)
  gT : mg "BadText" = some (.ref CT)
  nP : PySem.W.findIn K (.ref CH) "part" = some none
  nL : PySem.W.findIn K (.ref CT) "line" = some none
  nW : PySem.W.findIn K (.ref CT) "word" = some none
  sup : mg "super" = none
  nHT : CH ≠ CT
/-- BadHall(e) -/
def tMkH (C : Addr) (ta : TA) : L2.St → Hp → XK → Prop := fun σ H Q => ta σ H fun vs H1 => ∃ v, vs = [v] ∧ ∀ d, H1 d = none → Q (.ref C) (some d) (upd H1 d (.xd [(("part" : Str), v)]))
/-- BadText(e, e') -/
def tMkT (C : Addr) (ta : TA) : L2.St → Hp → XK → Prop := fun σ H Q => ta σ H fun vs H1 => ∃ v u, vs = [v, u] ∧ ∀ d, H1 d = none → Q (.ref C) (some d) (upd H1 d (.xd [(("word" : Str), u), (("line" : Str), v)]))
variable {CH fH CT fT : Addr}
theorem pmk_hall {a : Expr} {ta : TA} {p pos : Pos} {k : Nat} (hP : X.prog = P0) (T : ErrT X.K X.mg CH fH CT fT) (hr : Room k X.A) (ha : PA X [a] ta) (hg : Gl X "BadHall" := by rfl)
    (he : starEach (a :: []) X.env = (false, eval a X.env) :: starEach [] X.env := by rfl) (hpl : (backTo pos (starEach [] X.env)).any (·.1) = false := by rfl) :
    PMk X (.Call (.Name "BadHall" p) [a] [] pos) (tMkH CH ta) := by
  intro pins s σ H Q I h
  refine wpAny_Call_Name_kw (ld_glob I hg T.gH ?_)
  refine PySem.W.callWith_K (h₀ := X.base) I.ok.mod.kin T.H.kC (thn (ha.run pos pins s σ H _ I h) fun us s1 hh => ?_) he hpl
  obtain ⟨vs, H1, I1, r1, v, ev, q1⟩ := hh
  subst ev
  refine ⟨I1.kIn, ?_⟩
  cases r1 with
  | cons rv rn =>
    rename_i v' us'
    cases rn
    obtain ⟨mb, G⟩ := gr_of I1 T.sup
    show wpAny _ _ (call (.ref CH) [v']) _ _ _
    rw [hP]
    obtain ⟨hp, g, dr, tk, os⟩ := s1
    refine wpAny_call (own_made T.H (us := [v']) (mv := fun y => if y = "part" then some v' else none) (by show 1 ≤ 1000; decide) I1.kIn G (by have := hr.dp; omega) (fun A R s x t0 X G hx hnx hd hq => hall_init T.H T.nP X G hx hnx hd hq) fun h' tk' e d M => ?_)
    exact mk_own I1 M (relO_put (fs := []) rv fun g => True.intro) (raises_own T.H.exC T.H.tyC) q1
theorem pmk_text {a b : Expr} {ta : TA} {p pos : Pos} {k : Nat} (hP : X.prog = P0) (T : ErrT X.K X.mg CH fH CT fT) (hr : Room k X.A) (ha : PA X [a, b] ta) (hg : Gl X "BadText" := by rfl)
    (he : starEach (a :: [b]) X.env = (false, eval a X.env) :: starEach [b] X.env := by rfl) (hpl : (backTo pos (starEach [b] X.env)).any (·.1) = false := by rfl) :
    PMk X (.Call (.Name "BadText" p) [a, b] [] pos) (tMkT CT ta) := by
  intro pins s σ H Q I h
  refine wpAny_Call_Name_kw (ld_glob I hg T.gT ?_)
  refine PySem.W.callWith_K (h₀ := X.base) I.ok.mod.kin T.T.kC (thn (ha.run pos pins s σ H _ I h) fun us s1 hh => ?_) he hpl
  obtain ⟨vs, H1, I1, r1, v, u, ev, q1⟩ := hh
  subst ev
  refine ⟨I1.kIn, ?_⟩
  cases r1 with
  | @cons _ v' _ us1 rv rn =>
    cases rn with
    | @cons _ u' _ us2 ru rn =>
      cases rn
      obtain ⟨mb, G⟩ := gr_of I1 T.sup
      rw [hP]
      obtain ⟨hp, g, dr, tk, os⟩ := s1
      refine wpAny_call (own_made T.T (us := [v', u']) (mv := fun y => if y = "word" then some u' else if y = "line" then some v' else none) (by show 2 ≤ 1000; decide) I1.kIn G (by have := hr.dp; omega) (fun A R s x t0 X G hx hnx hd hq => text_init T.T T.nL T.nW X G hx hnx hd hq) fun h' tk' e d M => ?_)
      exact mk_own I1 M (relO_put ru (relO_put (fs := []) rv fun g => True.intro)) (raises_own T.T.exC T.T.tyC) q1
end
end K94
/-! _law_said: what it makes of the lambda that it gets. -/
namespace K94
open PySem PySem.Spec PyProof.Rows L2
abbrev sSaid : Stmt := top 38
theorem scSaid : FnScope ["_law_call", "_law_told_so", "e"] ["_law_call"] (defScope sSaid) := ⟨rfl, rfl, rfl, by decide +kernel, rfl, by decide +kernel, by decide +kernel⟩
/-- the classes that the clauses name, and what of them an error of the two classes is -/
structure SaidT (K : PySem.W.Frag) (mg : Str → Option Value) (CH CT : Addr) : Prop where
  gH : mg "BadHall" = some (.ref CH)
  gT : mg "BadText" = some (.ref CT)
  gs : ∀ x ∈ (["BadRule", "BadCall", "BadNumber", "BadPlan", "BadShare", "BadLog", "BadPaper"] : List Str), ∃ C, mg x = some (.ref C) ∧ PySem.W.exmOne K (.ref CT) (.ref C) = some false
  gG : ∃ C, mg "TooGreat" = some (.ref C)
  hh : PySem.W.exmOne K (.ref CH) (.ref CH) = some true
  th : PySem.W.exmOne K (.ref CT) (.ref CH) = some false
  tt : PySem.W.exmOne K (.ref CT) (.ref CT) = some true
  xH : XfC K CH
  xT : XfC K CT
  nP : PySem.W.findIn K (.ref CH) "part" = some none
  nL : PySem.W.findIn K (.ref CT) "line" = some none
  nW : PySem.W.findIn K (.ref CT) "word" = some none
/-- told in a list, or by what it is refused -/
def TSaid (CH CT : Addr) : (XK → Hp → VK → Prop) → Hp → VK → Prop := fun tl H Q => ∀ p, H p = none →
  tl (fun cls d H' =>
    (cls = .ref CH ∧ ∃ dd v, d = some dd ∧ H' dd = some (.xd [(("part" : Str), v)]) ∧ ∀ q, H' q = none → Q (.ref q) (upd H' q (.tup [.str "hall", v]))) ∨
    (cls = .ref CT ∧ ∃ dd l w, d = some dd ∧ H' dd = some (.xd [(("word" : Str), w), (("line" : Str), l)]) ∧ ∀ q, H' q = none → Q (.ref q) (upd H' q (.tup [.str "text", l, w]))))
    (upd H p (.lst [])) (fun v H' => ∀ q, H' q = none → Q (.ref q) (upd H' q (.lst [v])))
/-- a wish may lean on the number of the slots -/
theorem takes_len {X : Cx} {W : WX} (tk : Takes X W) : Takes X (fun cls d σ H => σ.length = X.N.length → W cls d σ H) := fun u s' ⟨a, B, sI, pins, σ, H, cls, d, e, I, nb, up, sky, na, os, ag, w⟩ =>
  tk u s' ⟨a, B, sI, pins, σ, H, cls, d, e, I, nb, up, sky, na, os, ag, w I.len⟩
/-- told = ("hall", e.part) and the like -/
theorem lk_part (v : V) : ([(("part" : Str), v)] : List (Str × V)).lookup ("part" : Str) = some v := by simp [List.lookup]
theorem lk_word (l w : V) : ([(("word" : Str), w), (("line" : Str), l)] : List (Str × V)).lookup ("word" : Str) = some w := by simp [List.lookup]
theorem lk_line (l w : V) : ([(("word" : Str), w), (("line" : Str), l)] : List (Str × V)).lookup ("line" : Str) = some l := by
  have e : (("line" : Str) == ("word" : Str)) = false := by decide +kernel
  simp [List.lookup, e]
/-- a reading by less than what is wanted -/
def tWk (t : TE) : TE := fun σ H Q => ∃ Q' : VK, (∀ v H, Q' v H → Q v H) ∧ t σ H Q'
theorem pe_wk {X : Cx} {e : Expr} {t : TE} (h : PE X e t) : PE X e (tWk t) := ⟨fun pins s σ H Q I ⟨Q', hq, ht⟩ =>
  thn (h.run pins s σ H Q' I ht) fun u s' ⟨v, H', I', r, q⟩ => ⟨v, H', I', r, hq v H' q⟩⟩
theorem said_gives {X : Cx} {CH CT g : Addr} {cdg : Value} {q : Str} (T : SaidT X.K X.mg CH CT) :
    LamX.GivesTo X ["_law_call", "_law_told_so", "e"] "_law_said" (defScope sSaid) g cdg (defBody sSaid) "_law_call" q (TSaid CH CT) := by
  intro f c' s H Q tl act hc h
  obtain ⟨C1, g1, t1⟩ := T.gs "BadRule" (by simp)
  obtain ⟨C2, g2, t2⟩ := T.gs "BadCall" (by simp)
  obtain ⟨C3, g3, t3⟩ := T.gs "BadNumber" (by simp)
  obtain ⟨C4, g4, t4⟩ := T.gs "BadPlan" (by simp)
  obtain ⟨C5, g5, t5⟩ := T.gs "BadShare" (by simp)
  obtain ⟨C6, g6, t6⟩ := T.gs "BadLog" (by simp)
  obtain ⟨C7, g7, t7⟩ := T.gs "BadPaper" (by simp)
  obtain ⟨C8, g8⟩ := T.gG
  refine ⟨_, pss_cons (ps_set (i := 1) scSaid.nd rfl (Or.inl rfl) (pe_lst pa_nil))
    (pss_cons (ps_try_clauses (i := 2) (n := "e")
      (tb := fun W D σ H => ∃ (Ech : XK) (Q' : VK), (∀ cls d σ' H', σ'.length = 3 → Ech cls d H' → W cls d σ' H') ∧ (∀ v H', Q' v H' → ∀ q, H' q = none → D.nx (σ.set 1 (some (.ref q))) (upd H' q (.lst [v]))) ∧ σ[0]? = some (some (.ref f)) ∧ H c' = some (LamX.CodeO c' q) ∧ tl Ech H Q')
      rfl rfl scSaid.nd rfl rfl (fun W pn xe tk _ => ⟨fun pins s' σ H' D I h' => ?_⟩)
      (.cons ⟨rfl, by decide, .inl T.gH⟩ (fun a oe cls d pn hz hf => pss_one (ps_set (i := 1) scSaid.nd rfl (Or.inl rfl) (pe_tup (pa_cons pe_str (pa_cons (pe_xf T.xH T.nP hz hf (pv 2)) pa_nil)))))
      (.cons ⟨rfl, by decide, .inl g1⟩ (fun a oe cls d pn hz hf => pss_never)
      (.cons ⟨rfl, by decide, .inl g2⟩ (fun a oe cls d pn hz hf => pss_never)
      (.cons ⟨rfl, by decide, .inl g3⟩ (fun a oe cls d pn hz hf => pss_never)
      (.cons ⟨rfl, by decide, .inl g4⟩ (fun a oe cls d pn hz hf => pss_never)
      (.cons ⟨rfl, by decide, .inl g5⟩ (fun a oe cls d pn hz hf => pss_never)
      (.cons ⟨rfl, by decide, .inl g6⟩ (fun a oe cls d pn hz hf => pss_never)
      (.cons ⟨rfl, by decide, .inl g7⟩ (fun a oe cls d pn hz hf => pss_never)
      (.cons ⟨rfl, by decide, .inl T.gT⟩ (fun a oe cls d pn hz hf => pss_one (ps_set (i := 1) scSaid.nd rfl (Or.inl rfl) (pe_tup (pa_cons pe_str (pa_cons (pe_xf T.xT T.nL hz hf (pv 2)) (pa_cons (pe_xf T.xT T.nW hz hf (pv 2)) pa_nil))))))
      (.cons ⟨rfl, by decide, .inl g8⟩ (fun a oe cls d pn hz hf => pss_never) .nil)))))))))))
    (pss_one (ps_ret (pv 1)))), ?_⟩
  · obtain ⟨Ech, Q', hW, hQ, h1, h2, h3⟩ := h'
    have hp := fun p1 p2 => pe_wk (act (fun cls d σ H => σ.length = 3 → W cls d σ H) pn xe Ech p1 p2 (takes_len tk) (fun cls d σ' H' e n => hW cls d σ' H' n e))
    exact (pss_one (ps_set (i := 1) scSaid.nd rfl (Or.inl rfl) (pe_lst (pa_cons (hp _ _) pa_nil)))).run pins s' σ H' D I ⟨Q', fun v H1 z => ⟨by show 1 ≤ sizeLine; decide, fun p np => hQ v H1 z p np⟩, h1, h2, h3⟩
  · refine ⟨by show 0 ≤ sizeLine; decide, fun p np => ?_⟩
    have hpc : c' ≠ p := ne_of_none hc np
    refine ⟨_, _, ?_, ?_, rfl, by rw [upd_ne hpc]; exact hc, h p np⟩
    · intro cls d σ' H' hl hE
      match σ', hl with
      | [a0, a1, a2], _ =>
        rcases hE with ⟨rfl, dd, v, rfl, hd, hq⟩ | ⟨rfl, dd, l, w, rfl, hd, hq⟩
        · refine ⟨true, T.hh, fun _ a na => ?_, fun z => nomatch z⟩
          refine ⟨_, rfl, rfl, rfl, dd, _, v, rfl, hd, lk_part v, by show 2 ≤ sizeLine; decide, fun q nq => ?_⟩
          exact ⟨_, rfl, hq q nq⟩
        · refine ⟨false, T.th, (fun z => nomatch z), fun _ => ⟨false, t1, (fun z => nomatch z), fun _ => ⟨false, t2, (fun z => nomatch z), fun _ => ⟨false, t3, (fun z => nomatch z), fun _ => ⟨false, t4, (fun z => nomatch z), fun _ => ⟨false, t5, (fun z => nomatch z), fun _ => ⟨false, t6, (fun z => nomatch z), fun _ => ⟨false, t7, (fun z => nomatch z), fun _ => ⟨true, T.tt, fun _ a na => ?_, fun z => nomatch z⟩⟩⟩⟩⟩⟩⟩⟩⟩
          refine ⟨_, rfl, rfl, rfl, dd, _, l, rfl, hd, lk_line l w, _, rfl, rfl, rfl, dd, _, w, rfl, hd, lk_word l w, by show 3 ≤ sizeLine; decide, fun q nq => ?_⟩
          exact ⟨_, rfl, hq q nq⟩
    · intro v H' z q nq
      exact ⟨_, rfl, z q nq⟩
end K94
/-! is_whole, need_hall. -/
namespace K94
open PySem PySem.Spec PyProof.Rows L2
/-- what the module's names hold -/
structure Bn (mg : Str → Option Value) : Prop where
  isinstance : mg "isinstance" = none
  int : mg "int" = none
  bool : mg "bool" = none
  tuple : mg "tuple" = none
  str : mg "str" = none
  len : mg "len" = none
  all : mg "all" = none
  zip : mg "zip" = none
  range : mg "range" = none
  enumerate : mg "enumerate" = none
  min : mg "min" = none
  repr : mg "repr" = none
  seats : ∃ t, mg "MOST_SEATS" = some (.int 6 t)
  fares : ∃ t, mg "MOST_FARES" = some (.int 4 t)
  fare : ∃ t, mg "MOST_FARE" = some (.int 99 t)
  figs : ∃ t, mg "FIGURES" = some (.str figs t)
  figures : ∃ t, mg "MOST_FIGURES" = some (.int 7 t)
  SEATS : ∃ t, mg "SEATS" = some (.str "seats" t)
  FARES : ∃ t, mg "FARES" = some (.str "fares" t)
abbrev sWhole : Stmt := top 16
abbrev sNeed : Stmt := top 17
theorem scWhole : FnScope ["value", "least", "most"] ["value", "least", "most"] (defScope sWhole) := ⟨rfl, rfl, rfl, by decide +kernel, rfl, by decide +kernel, by decide +kernel⟩
theorem scNeed : FnScope ["hall", "fare", "one", "other"] ["hall"] (defScope sNeed) := ⟨rfl, rfl, rfl, by decide +kernel, rfl, by decide +kernel, by decide +kernel⟩
def spWhole : Sp := fun vs H Q _ => ∃ lo hi i : Int, vs = [.int i, .int lo, .int hi] ∧ Q (.bl (inB lo hi i)) H
section
variable {P : Program} {w : World} {K : PySem.W.Frag} {mg : Str → Option Value} {base : Heap}
theorem ok_whole {f : Addr} {fd : FuncData} (F : Fun K "is_whole" "is_whole" sWhole f fd) (B : Bn mg) : FnOk P w K mg base CX0 1 f fd ["value", "least", "most"] spWhole := by
  refine F.ok scWhole (fun vs H Q E h => ?_) (fun cdv A outer s H vs Q E hr h => ?_)
  · obtain ⟨_, _, _, rfl, _⟩ := h
    rfl
  · obtain ⟨lo, hi, i, rfl, q⟩ := h
    refine ⟨_, pss_one (ps_ret (pe_and (pe_callB call_isi (by rfl) B.isinstance (by decide +kernel) (pa_cons (pv 0) (pa_cons (pe_bltn (v := .ty "int") (by rfl) B.int (u := .type "int") (by decide +kernel) rfl) pa_nil)))
      (pe_and (pe_not (pe_callB call_isi (by rfl) B.isinstance (by decide +kernel) (pa_cons (pv 0) (pa_cons (pe_bltn (v := .ty "bool") (by rfl) B.bool (u := .type "bool") (by decide +kernel) rfl) pa_nil))))
      (pe_one (pe_chain op_le op_le (pv 1) (pv 0) (pv 2)))))), ?_⟩
    refine ⟨_, rfl, _, _, _, _, true, rfl, .ty "int", .base (.int i), kit_ty (by decide +kernel), _, rfl, iteT ?_⟩
    refine ⟨_, rfl, _, _, _, _, false, rfl, .ty "bool", .base (.int i), kit_ty (by decide +kernel), _, rfl, _, rfl, iteT ?_⟩
    refine ⟨_, rfl, _, rfl, _, _, rfl, rfl, _, rfl, ?_⟩
    by_cases h1 : lo ≤ i
    · rw [decide_eq_true h1]
      refine iteT ⟨_, rfl, _, _, rfl, rfl, ?_⟩
      have e : inB lo hi i = decide (i ≤ hi) := by unfold inB; rw [decide_eq_true h1, Bool.true_and]
      rw [e] at q
      exact q
    · rw [decide_eq_false h1]
      refine iteF ?_
      have e : inB lo hi i = false := by unfold inB; rw [decide_eq_false h1, Bool.false_and]
      rw [e] at q
      exact q
end
end K94
/-! need_hall. -/
namespace K94
open PySem PySem.Spec PyProof.Rows L2
/-- what a BadHall of the part m leaves -/
def erH (CH : Addr) (m : Str) (H : Hp) (E : XK) : Prop := ∀ d H', Same H H' → H' d = none → E (.ref CH) (some d) (upd H' d (.xd [(("part" : Str), .str m)]))
def erT (CT : Addr) (l w : V) (H : Hp) (E : XK) : Prop := ∀ d H', Same H H' → H' d = none → E (.ref CT) (some d) (upd H' d (.xd [(("word" : Str), w), (("line" : Str), l)]))
/-- what comes of a pair of an int and a tuple of ints, told as a hall -/
def Out.after (o : Out) (CH CT : Addr) (H : Hp) (Qh : Int → List Int → Prop) (E : XK) : Prop := match o with
  | .hall s fs => Qh s fs
  | .bad m => erH CH m H E
  | .text l w => erT CT (.int (l : Nat)) (.int (w : Nat)) H E
def spNeed (CH : Addr) : Sp := fun vs H Q E =>
  (∃ v t, vs = [v] ∧ (∀ K, TyX K H v (.type t)) ∧ kitB t "tuple" = some false ∧ erH CH "form" H E) ∨
  (∃ p, vs = [.ref p] ∧ H p = some (.tup []) ∧ erH CH "form" H E) ∨
  (∃ (p q : Addr) (s : Int) (fs : List Int), vs = [.ref p] ∧ H p = some (.tup [.int s, .ref q]) ∧ H q = some (.tup (fs.map V.int)) ∧ fs.length ≤ 1000 ∧
    (hallOut s fs).after CH CH H (fun _ _ => ∀ H', Same H H' → Q (.ref p) H') E)
theorem hallOut_seats {s : Int} {fs : List Int} (h : inB 1 6 s = false) : hallOut s fs = .bad "seats" := by
  unfold hallOut
  rw [h] <;> rfl
theorem hallOut_len {s : Int} {fs : List Int} (h : inB 1 6 s = true) (h2 : inB 1 4 (fs.length : Int) = false) : hallOut s fs = .bad "fares" := by
  unfold hallOut
  rw [h, h2] <;> rfl
theorem hallOut_all {s : Int} {fs : List Int} (h : inB 1 6 s = true) (h2 : inB 1 4 (fs.length : Int) = true) (h3 : fs.all (inB 1 99) = false) : hallOut s fs = .bad "fares" := by
  unfold hallOut
  rw [h, h2, h3] <;> rfl
theorem hallOut_asc {s : Int} {fs : List Int} (h : inB 1 6 s = true) (h2 : inB 1 4 (fs.length : Int) = true) (h3 : fs.all (inB 1 99) = true) (h4 : ascB fs = false) : hallOut s fs = .bad "fares" := by
  unfold hallOut
  rw [h, h2, h3, h4] <;> rfl
theorem hallOut_yes {s : Int} {fs : List Int} (h : inB 1 6 s = true) (h2 : inB 1 4 (fs.length : Int) = true) (h3 : fs.all (inB 1 99) = true) (h4 : ascB fs = true) : hallOut s fs = .hall s fs := by
  unfold hallOut
  rw [h, h2, h3, h4] <;> rfl
section
variable {w : World} {K : PySem.W.Frag} {mg : Str → Option Value} {base : Heap}
theorem ok_need {f fW CH fH CT fT : Addr} {fd fdW : FuncData} (F : Fun K "need_hall" "need_hall" sNeed f fd) (B : Bn mg) (T : ErrT K mg CH fH CT fT) (FW : Fun K "is_whole" "is_whole" sWhole fW fdW) (gW : mg "is_whole" = some (.ref fW)) :
    FnOk P0 w K mg base (L2.CX P0 w) 3 f fd ["hall"] (spNeed CH) := by
  have GW : FnOk P0 w K mg base CX0 1 fW fdW ["value", "least", "most"] spWhole := ok_whole FW B
  have bW := FW.binds (ps := ["value", "least", "most"]) fun _ _ _ _ _ _ us hl => match us, hl with | [_, _, _], _ => rfl
  obtain ⟨_, hSe⟩ := B.seats
  obtain ⟨_, hFs⟩ := B.fares
  obtain ⟨_, hFa⟩ := B.fare
  refine F.okX scNeed (fun vs H Q E h => ?_) (fun cdv A outer s H vs Q E hr h => ?_)
  · rcases h with ⟨_, _, rfl, _⟩ | ⟨_, rfl, _⟩ | ⟨_, _, _, _, rfl, _⟩ <;> rfl
  · have hr1 : Room 1 _ := hr.mono (by decide)
    refine ⟨_, pss_cons (ps_if (PW.pt (pw_or (pt_not (pt_val (pe_callB call_isi (by rfl) B.isinstance (by decide +kernel) (pa_cons (pv 0) (pa_cons (pe_bltn (v := .ty "tuple") (by rfl) B.tuple (u := .type "tuple") (by decide +kernel) rfl) pa_nil)))))
        (pw_or1 (pt_cmpR op_ne (pe_callB call_len_seq (by rfl) B.len (by decide +kernel) (pa_cons (pv 0) pa_nil)) pe_int (nomark _)))))
        (pss_one (ps_raise rfl (takes_of rfl rfl rfl rfl) (pmk_hall rfl T hr1 (pa_cons pe_str pa_nil)))) pss_nil)
      (pss_cons (ps_if (pt_not (pt_val (pe_call GW hr1 rfl gW FW.kp bW .nil pass0 (pa_cons (pe_ix ix_tup (pv 0) pe_int (fun _ _ => rfl)) (pa_cons pe_int (pa_cons (pe_glob (v := .int 6) rfl hSe ⟨_, rfl⟩) pa_nil))))))
        (pss_one (ps_raise rfl (takes_of rfl rfl rfl rfl) (pmk_hall rfl T hr1 (pa_cons pe_str pa_nil)))) pss_nil)
      (pss_cons (ps_if (PW.pt (pw_or (pt_not (pt_val (pe_callB call_isi (by rfl) B.isinstance (by decide +kernel) (pa_cons (pe_ix ix_tup (pv 0) pe_int (fun _ _ => rfl)) (pa_cons (pe_bltn (v := .ty "tuple") (by rfl) B.tuple (u := .type "tuple") (by decide +kernel) rfl) pa_nil)))))
        (pw_or1 (pt_not (pt_chain op_le op_le pe_int (pe_callB call_len_seq (by rfl) B.len (by decide +kernel) (pa_cons (pe_ix ix_tup (pv 0) pe_int (fun _ _ => rfl)) pa_nil)) (pe_glob (v := .int 4) rfl hFs ⟨_, rfl⟩))))))
        (pss_one (ps_raise rfl (takes_of rfl rfl rfl rfl) (pmk_hall rfl T hr1 (pa_cons pe_str pa_nil)))) pss_nil)
      (pss_cons (ps_if (pt_not (pt_val (pe_callB (cr_all rfl) (by rfl) B.all (by decide +kernel) (pa_cons
          (pe_lc (own := [("fare", 1)]) (g := gName 1) (tt := tYes) rfl scNeed.nd (pi_tup (pe_ix ix_tup (pv 0) pe_int (fun _ _ => rfl))) (blkOk_by (own := [("fare", 1)]) (N := ["hall", "fare", "one", "other"]) (sc := defScope sNeed) (by decide +kernel)) (fun _ _ _ _ _ => pg_name (i := 1) scNeed.nd rfl (Or.inl rfl)) (fun _ _ _ _ _ => pts_nil)
            (fun _ _ _ _ _ => pe_call GW hr1 rfl gW FW.kp bW .nil pass0 (pa_cons (pv 1) (pa_cons pe_int (pa_cons (pe_glob (v := .int 99) rfl hFa ⟨_, rfl⟩) pa_nil))))) pa_nil))))
        (pss_one (ps_raise rfl (takes_of rfl rfl rfl rfl) (pmk_hall rfl T hr1 (pa_cons pe_str pa_nil)))) pss_nil)
      (pss_cons (ps_if (pt_not (pt_val (pe_callB (cr_all rfl) (by rfl) B.all (by decide +kernel) (pa_cons
          (pe_lc (own := [("one", 2), ("other", 3)]) (g := gTup K 2 (gCons (gName 2) (gCons (gName 3) gNil))) (tt := tYes) rfl scNeed.nd (RZ.pi_zipA (by rfl) B.zip (pa_cons (pe_ix ix_tup (pv 0) pe_int (fun _ _ => rfl)) (pa_cons (pe_slice sl_tupA (pe_ix ix_tup (pv 0) pe_int (fun _ _ => rfl)) (po_some pe_int) po_none) pa_nil))) (blkOk_by (own := [("one", 2), ("other", 3)]) (N := ["hall", "fare", "one", "other"]) (sc := defScope sNeed) (by decide +kernel))
            (fun _ _ _ _ _ => pg_tup rfl (pgs_cons (pg_name (i := 2) scNeed.nd rfl (Or.inl rfl)) (pgs_cons (pg_name (i := 3) scNeed.nd rfl (Or.inl rfl)) pgs_nil))) (fun _ _ _ _ _ => pts_nil)
            (fun _ _ _ _ _ => pe_cmpR op_lt (pv 2) (pv 3) (nomark _))) pa_nil))))
        (pss_one (ps_raise rfl (takes_of rfl rfl rfl rfl) (pmk_hall rfl T hr1 (pa_cons pe_str pa_nil)))) pss_nil)
      (pss_one (ps_ret (pv 0))))))), ?_⟩
    rcases h with ⟨v, t, rfl, ty, kb, e⟩ | ⟨p, rfl, hp, e⟩ | ⟨p, q, sv, fs, rfl, hp, hq, hl, k⟩
    · refine ⟨_, rfl, _, _, _, _, false, rfl, .ty "tuple", ty K, kit_ty kb, _, rfl, iteT (iteT ?_)⟩
      exact ⟨_, rfl, fun d hd => e d H (Same.refl H) hd⟩
    · refine ⟨_, rfl, _, _, _, _, true, rfl, .ty "tuple", .base (.tup hp), kit_ty (by decide +kernel), _, rfl, iteF ?_⟩
      refine ⟨_, rfl, _, _, rfl, .inr (SqT.of hp), rfl, _, rfl, iteT ?_⟩
      exact ⟨_, rfl, fun d hd => e d H (Same.refl H) hd⟩
    · -- form
      refine ⟨_, rfl, _, _, _, _, true, rfl, .ty "tuple", .base (.tup hp), kit_ty (by decide +kernel), _, rfl, iteF ?_⟩
      refine ⟨_, rfl, _, _, rfl, .inr (SqT.of hp), rfl, _, rfl, iteF ?_⟩
      -- seats
      refine ⟨_, rfl, p, _, _, _, rfl, rfl, SqT.of hp, atI_nat (j := 0) rfl, 1, 6, sv, rfl, _, rfl, ?_⟩
      cases hs : inB 1 6 sv with
      | false =>
        rw [hallOut_seats hs] at k
        exact iteT ⟨_, rfl, fun d hd => k d H (Same.refl H) hd⟩
      | true =>
        refine iteF ?_
        -- fares: a tuple, so many
        refine ⟨_, rfl, p, _, _, _, rfl, rfl, SqT.of hp, atI_nat (j := 1) rfl, _, _, _, _, true, rfl, .ty "tuple", .base (.tup hq), kit_ty (by decide +kernel), _, rfl, iteF ?_⟩
        refine ⟨_, rfl, p, _, _, _, rfl, rfl, SqT.of hp, atI_nat (j := 1) rfl, _, _, rfl, .inr (SqT.of hq), _, _, rfl, rfl, _, rfl, ?_⟩
        have ez : ((fs.map V.int).length : Int) = (fs.length : Int) := by rw [List.length_map]
        refine ifB (fun e1 => ?_) (fun e1 => ?_)
        case refine_2 =>
          have e : inB 1 4 (fs.length : Int) = false := by unfold inB; rw [← ez, e1, Bool.false_and]
          rw [hallOut_len hs e] at k
          exact ⟨_, rfl, iteT ⟨_, rfl, fun d hd => k d H (Same.refl H) hd⟩⟩
        refine ⟨_, _, rfl, rfl, _, rfl, ifN (fun e2 => ?_) (fun e2 => ?_)⟩
        · have e : inB 1 4 (fs.length : Int) = false := by unfold inB; rw [← ez, e2, Bool.and_false]
          rw [hallOut_len hs e] at k
          exact ⟨_, rfl, fun d hd => k d H (Same.refl H) hd⟩
        have hlen : inB 1 4 (fs.length : Int) = true := by unfold inB; rw [← ez, e1, e2]; rfl
        -- each fare
        refine ⟨_, rfl, p, _, _, _, rfl, rfl, SqT.of hp, atI_nat (j := 1) rfl, q, rfl, ⟨_, SqT.of hq⟩, fun D hD => ?_⟩
        refine lc_mp (walk_tup (xs := fs.map V.int) (K := K) (a := q)) (fun i => .bl (inB 1 99 (fs.getD i 0))) hD (by rw [List.length_map, sizeLine_eq]; omega) (fun H' s' => sTup s' (SqT.of hq)) (fun i x H1 H2 Nx hi s1 hacc y hT => ?_) gName_mono (fun H1 s1 hD1 => ?_)
        · obtain ⟨rfl, hx⟩ := y
          obtain ⟨hi2, rfl⟩ := map_at hx 0
          exact ⟨rfl, _, rfl, 1, 99, _, rfl, hT _ (Same.refl _)⟩
        have em : made (fun _ => true) (fun i => V.bl (inB 1 99 (fs.getD i 0))) (fs.map V.int).length = (fs.map (inB 1 99)).map V.bl := by
          rw [List.length_map, made_map (fun x => V.bl (inB 1 99 x)) fs 0, List.map_map] <;> rfl
        rw [em] at hD1
        refine ⟨_, _, rfl, SqL.of hD1, _, rfl, ?_⟩
        have ea : (fs.map (inB 1 99)).all id = fs.all (inB 1 99) := by rw [List.all_map] <;> rfl
        rw [ea]
        refine ifN (fun e3 => ?_) (fun e3 => ?_)
        · rw [hallOut_all hs hlen e3] at k
          exact ⟨_, rfl, fun d hd => k d H1 s1 hd⟩
        have hp1 := s1 _ _ hp
        have hq1 := s1 _ _ hq
        have l1 : 1 ≤ fs.length := by
          have z := of_decide_eq_true e1
          rw [ez] at z
          omega
        -- each pair
        refine ⟨_, rfl, p, _, _, _, rfl, rfl, SqT.of hp1, atI_nat (j := 1) rfl, _, rfl, p, _, _, _, rfl, rfl, SqT.of hp1, atI_nat (j := 1) rfl, 1, rfl, q, _, rfl, SqT.of hq1, fun z => ?_, fun _ pS nS => ?_⟩
        · exfalso
          have z1 := z.1
          have e : HT.sIx (fs.map V.int).length 0 (some 1) = min 1 (fs.map V.int).length := HT.sIx_nat _ _ 1
          rw [e, List.length_map] at z1
          omega
        have eS : cutV (fs.map V.int) (some 1) none = (fs.drop 1).map V.int := by
          unfold cutV
          have e : HT.sIx (fs.map V.int).length 0 (some 1) = min 1 (fs.map V.int).length := HT.sIx_nat _ _ 1
          rw [e, HT.sIx_none, List.length_map, Nat.min_eq_left l1, List.take_of_length_le (by simp), List.map_drop]
        rw [eS]
        have s2 : Same H1 (upd H1 pS (.tup ((fs.drop 1).map V.int))) := sNew nS
        have hS : SqT K (upd H1 pS (.tup ((fs.drop 1).map V.int))) pS ((fs.drop 1).map V.int) := SqT.of upd_same
        have hq2 : SqT K (upd H1 pS (.tup ((fs.drop 1).map V.int))) q (fs.map V.int) := SqT.of (s2 _ _ hq1)
        refine ⟨q, pS, _, _, rfl, .inr ⟨hq2, hS, fun D hD => ?_⟩⟩
        have en : fs.length - 1 = min (fs.map V.int).length ((fs.drop 1).map V.int).length := by
          rw [List.length_map, List.length_map, List.length_drop]
          omega
        refine lc_mp (walk_zipT en) (fun i => .bl (decide (fs.getD i 0 < fs.getD (i + 1) 0))) hD (by rw [sizeLine_eq]; omega) (fun H' s' => ⟨sTup s' hq2, sTup s' hS⟩) (fun i x H3 H4 Nx hi s3 hacc y hT => ?_) gPair_mono (fun H3 s3 hD3 => ?_)
        · obtain ⟨Tp, x1, y1, rfl, nT, rfl, hx, hy⟩ := y
          obtain ⟨hi2, rfl⟩ := map_at hx 0
          obtain ⟨hi3, rfl⟩ := map_at hy 0
          have ed : (fs.drop 1).getD i 0 = fs.getD (i + 1) 0 := by
            rw [List.getD_eq_getElem?_getD, List.getD_eq_getElem?_getD, List.getElem?_drop, Nat.add_comm]
          rw [ed]
          exact ⟨Tp, _, rfl, SqT.of upd_same, rfl, _, _, rfl, _, _, rfl, rfl, rfl, _, rfl, _, rfl, _, _, rfl, rfl, hT _ (sNew nT)⟩
        rw [made_all] at hD3
        have em2 : ((List.range (fs.length - 1)).map fun i => V.bl (decide (fs.getD i 0 < fs.getD (i + 1) 0))) = ((List.range (fs.length - 1)).map fun i => decide (fs.getD i 0 < fs.getD (i + 1) 0)).map V.bl := by rw [List.map_map] <;> rfl
        rw [em2] at hD3
        refine ⟨_, _, rfl, SqL.of hD3, _, rfl, ?_⟩
        have ea2 : ((List.range (fs.length - 1)).map fun i => decide (fs.getD i 0 < fs.getD (i + 1) 0)).all id = ascB fs := by rw [List.all_map] <;> rfl
        rw [ea2]
        have s4 : Same H H3 := s1.trans (s2.trans s3)
        refine ifN (fun e4 => ?_) (fun e4 => ?_)
        · rw [hallOut_asc hs hlen e3 e4] at k
          exact ⟨_, rfl, fun d hd => k d H3 s4 hd⟩
        rw [hallOut_yes hs hlen e3 e4] at k
        exact ⟨_, rfl, k H3 s4⟩
end
end K94
/-! joined, hall_text. -/
namespace K94
open PySem PySem.Spec PyProof.Rows L2
/-- a number as a text -/
def nS (i : Int) : Str := (toString i : String)
theorem nS_tl (n : Nat) : TL.tl (nS (n : Int)) = TL.numL n := TL.tl_num n
theorem nS_len {i : Int} {k : Nat} (h0 : 0 ≤ i) (hk : 0 < k) (h1 : i < ((10 ^ k : Nat) : Int)) : (nS i).length ≤ k := by
  obtain ⟨n, rfl⟩ := Int.eq_ofNat_of_zero_le h0
  rw [TL.len_tl, nS_tl]
  exact TL.numL_len hk (by omega)
/-- a word or a number as a text -/
def strV : V → Str
  | .str y => y
  | .int i => nS i
  | _ => Str.empty
def okV (x : V) : Prop := (∃ y, x = .str y) ∨ ∃ i, x = .int i ∧ i.natAbs.log2 < 1920
def hallText (s : Int) (fs : List Int) : Str := Txt.join blank ["seats", nS s] ++ lf ++ Txt.join blank ("fares" :: fs.map nS)
abbrev sJoin : Stmt := top 23
abbrev sText : Stmt := top 24
theorem scJoin : FnScope ["row", "one"] ["row"] (defScope sJoin) := ⟨rfl, rfl, rfl, by decide +kernel, rfl, by decide +kernel, by decide +kernel⟩
theorem scText : FnScope ["hall"] ["hall"] (defScope sText) := ⟨rfl, rfl, rfl, by decide +kernel, rfl, by decide +kernel, by decide +kernel⟩
def spJoin : Sp := fun vs H Q _ => ∃ (p : Addr) (xs : List V), vs = [.ref p] ∧ H p = some (.tup xs) ∧ (∀ x ∈ xs, okV x) ∧ xs.length ≤ 1000 ∧ ((xs.map strV).map (·.length)).sum ≤ 16000000 ∧ ∀ H', Same H H' → Q (.str (Txt.join blank (xs.map strV))) H'
def spText (CH : Addr) : Sp := fun vs H Q E =>
  (∃ v t, vs = [v] ∧ (∀ K, TyX K H v (.type t)) ∧ kitB t "tuple" = some false ∧ erH CH "form" H E) ∨
  (∃ p, vs = [.ref p] ∧ H p = some (.tup []) ∧ erH CH "form" H E) ∨
  (∃ (p q : Addr) (s : Int) (fs : List Int), vs = [.ref p] ∧ H p = some (.tup [.int s, .ref q]) ∧ H q = some (.tup (fs.map V.int)) ∧ hallOut s fs = .hall s fs ∧ ∀ H', Same H H' → Q (.str (hallText s fs)) H')
theorem hall_facts {s : Int} {fs : List Int} {o : Int} {p : List Int} (h : hallOut s fs = .hall o p) : (1 ≤ s ∧ s ≤ 6) ∧ (1 ≤ fs.length ∧ fs.length ≤ 4) ∧ (∀ x ∈ fs, 1 ≤ x ∧ x ≤ 99) ∧ ascB fs = true ∧ o = s ∧ p = fs := by
  cases h1 : inB 1 6 s with
  | false => rw [hallOut_seats h1] at h; cases h
  | true =>
    cases h2 : inB 1 4 (fs.length : Int) with
    | false => rw [hallOut_len h1 h2] at h; cases h
    | true =>
      cases h3 : fs.all (inB 1 99) with
      | false => rw [hallOut_all h1 h2 h3] at h; cases h
      | true =>
        cases h4 : ascB fs with
        | false => rw [hallOut_asc h1 h2 h3 h4] at h; cases h
        | true =>
          rw [hallOut_yes h1 h2 h3 h4] at h
          injection h with e1 e2
          have g : ∀ {lo hi x : Int}, inB lo hi x = true → lo ≤ x ∧ x ≤ hi := fun {lo hi x} z => by
            unfold inB at z
            simp only [Bool.and_eq_true, decide_eq_true_eq] at z
            exact z
          have b2 := g h2
          exact ⟨g h1, by omega, fun x hx => g (List.all_eq_true.mp h3 x hx), rfl, e1.symm, e2.symm⟩
theorem log2_small {i : Int} (h0 : 0 ≤ i) (h1 : i ≤ 100000000) : i.natAbs.log2 < 1920 := by
  have h : i.natAbs ≤ 100000000 := by omega
  by_cases e : i.natAbs = 0
  · rw [e]
    decide
  · refine (Nat.log2_lt e).mpr ?_
    exact Nat.lt_of_le_of_lt h (by
      have z : (2 : Nat) ^ 27 ≤ 2 ^ 1920 := Nat.pow_le_pow_right (by omega) (by omega)
      exact Nat.lt_of_lt_of_le (by decide) z)
theorem sum_le (l : List Nat) (b : Nat) (h : ∀ x ∈ l, x ≤ b) : l.sum ≤ l.length * b := by
  induction l with
  | nil => simp
  | cons a r ih =>
    rw [List.sum_cons, List.length_cons, Nat.succ_mul]
    have h1 := h a List.mem_cons_self
    have h2 := ih fun x hx => h x (List.mem_cons_of_mem _ hx)
    omega
section
variable {w : World} {K : PySem.W.Frag} {mg : Str → Option Value} {base : Heap}
theorem ok_join {P : Program} {f : Addr} {fd : FuncData} (F : Fun K "joined" "joined" sJoin f fd) (B : Bn mg) : FnOk P w K mg base CX0 1 f fd ["row"] spJoin := by
  refine F.ok scJoin (fun vs H Q E h => ?_) (fun cdv A outer s H vs Q E hr h => ?_)
  · obtain ⟨_, _, rfl, _⟩ := h
    rfl
  · obtain ⟨p, xs, rfl, hp, ho, hl, hz, k⟩ := h
    refine ⟨_, pss_one (ps_ret (pe_join pe_str (pe_lc (own := [("one", 1)]) (g := gName 1) (tt := tYes) rfl scJoin.nd (pi_tup (pv 0)) (blkOk_by (own := [("one", 1)]) (N := ["row", "one"]) (sc := defScope sJoin) (by decide +kernel)) (fun _ _ _ _ _ => pg_name (i := 1) scJoin.nd rfl (Or.inl rfl)) (fun _ _ _ _ _ => pts_nil)
      (fun _ _ _ _ _ => pe_callTy (CallR.or call_str_int SkE.call_str_str) (by rfl) B.str (by decide +kernel) (pa_cons (pv 1) pa_nil))))), ?_⟩
    refine ⟨⟨_, rfl⟩, _, rfl, p, rfl, ⟨_, SqT.of hp⟩, fun D hD => ?_⟩
    refine lc_mp (walk_tup (xs := xs) (K := K) (a := p)) (fun i => .str (strV (xs.getD i .non))) hD (by rw [sizeLine_eq]; omega) (fun H' s' => sTup s' (SqT.of hp)) (fun i x H1 H2 Nx hi s1 hacc y hT => ?_) gName_mono (fun H1 s1 hD1 => ?_)
    · obtain ⟨rfl, hx⟩ := y
      have ex : xs.getD i .non = x := by rw [List.getD_eq_getElem?_getD, hx]; rfl
      rw [ex] at hT
      refine ⟨rfl, _, rfl, ?_⟩
      rcases ho x (List.mem_of_getElem? hx) with ⟨z, rfl⟩ | ⟨z, rfl, hz2⟩
      · exact .inr ⟨z, rfl, hT _ (Same.refl _)⟩
      · exact .inl ⟨z, rfl, hz2, hT _ (Same.refl _)⟩
    have em : made (fun _ => true) (fun i => V.str (strV (xs.getD i .non))) xs.length = (xs.map strV).map V.str := by
      rw [made_map (fun x => V.str (strV x)) xs .non, List.map_map] <;> rfl
    rw [em] at hD1
    refine ⟨_, D, _, rfl, rfl, .inl (SqL.of hD1), ?_, k H1 s1⟩
    rw [List.length_map]
    have e1 : (blank : Str).length = 1 := by decide +kernel
    rw [e1]
    omega
theorem ok_text {f fJ fN fW CH fH CT fT : Addr} {fd fdJ fdN fdW : FuncData} (F : Fun K "hall_text" "hall_text" sText f fd) (B : Bn mg) (T : ErrT K mg CH fH CT fT) (FW : Fun K "is_whole" "is_whole" sWhole fW fdW) (gW : mg "is_whole" = some (.ref fW))
    (FN : Fun K "need_hall" "need_hall" sNeed fN fdN) (gN : mg "need_hall" = some (.ref fN)) (FJ : Fun K "joined" "joined" sJoin fJ fdJ) (gJ : mg "joined" = some (.ref fJ)) :
    FnOk P0 w K mg base (L2.CX P0 w) 4 f fd ["hall"] (spText CH) := by
  have GN : FnOk P0 w K mg base (L2.CX P0 w) 3 fN fdN ["hall"] (spNeed CH) := ok_need FN B T FW gW
  have bN := FN.binds (ps := ["hall"]) fun _ _ _ _ _ _ us hl => match us, hl with | [_], _ => rfl
  have GJ : FnOk P0 w K mg base CX0 1 fJ fdJ ["row"] spJoin := ok_join FJ B
  have bJ := FJ.binds (ps := ["row"]) fun _ _ _ _ _ _ us hl => match us, hl with | [_], _ => rfl
  obtain ⟨_, hS⟩ := B.SEATS
  obtain ⟨_, hF⟩ := B.FARES
  refine F.okX scText (fun vs H Q E h => ?_) (fun cdv A outer s H vs Q E hr h => ?_)
  · rcases h with ⟨_, _, rfl, _⟩ | ⟨_, rfl, _⟩ | ⟨_, _, _, _, rfl, _⟩ <;> rfl
  · have hr1 : Room 1 _ := hr.mono (by decide)
    refine ⟨_, pss_cons (ps_expr (pe_call GN hr rfl gN FN.kp bN .nil (passes_call (takes_of rfl rfl rfl rfl) (E := E) (fun _ _ _ _ h => h)) (pa_cons (pv 0) pa_nil)))
      (pss_one (ps_ret (pe_op op_add_str (pe_op op_add_str (pe_call GJ hr1 rfl gJ FJ.kp bJ .nil pass0 (pa_cons (pe_tup (pa_cons (pe_glob (v := .str "seats") rfl hS ⟨_, rfl⟩) (pa_cons (pe_ix ix_tup (pv 0) pe_int (fun _ _ => rfl)) pa_nil))) pa_nil)) pe_str)
        (pe_call GJ hr1 rfl gJ FJ.kp bJ .nil pass0 (pa_cons (pe_tup (pa_cons (pe_glob (v := .str "fares") rfl hF ⟨_, rfl⟩) (StX.pa_star (pe_ix ix_tup (pv 0) pe_int (fun _ _ => rfl)) pa_nil))) pa_nil))))), ?_⟩
    rcases h with ⟨v, t, rfl, ty, kb, e⟩ | ⟨p, rfl, hp, e⟩ | ⟨p, q, sv, fs, rfl, hp, hq, ho, k⟩
    · exact ⟨_, rfl, .inl ⟨v, t, rfl, ty, kb, e⟩⟩
    · exact ⟨_, rfl, .inr (.inl ⟨p, rfl, hp, e⟩)⟩
    · obtain ⟨fS, fL, fA, _, _⟩ := hall_facts ho
      refine ⟨_, rfl, .inr (.inr ⟨p, q, sv, fs, rfl, hp, hq, by omega, ?_⟩)⟩
      rw [ho]
      intro H1 s1
      have hp1 := s1 _ _ hp
      have hq1 := s1 _ _ hq
      refine ⟨_, rfl, p, _, _, _, rfl, rfl, SqT.of hp1, atI_nat (j := 0) rfl, by show 2 ≤ sizeLine; decide, fun a na => ?_⟩
      have n1 : (nS sv).length ≤ 1 := nS_len (by omega) (by decide) (by omega)
      have l5 : ("seats" : Str).length = 5 := by decide +kernel
      have l6 : ("fares" : Str).length = 5 := by decide +kernel
      have len : ∀ x ∈ (fs.map nS), x.length ≤ 2 := fun x hx => by
        obtain ⟨z, hz, rfl⟩ := List.mem_map.mp hx
        have b := fA z hz
        exact nS_len (by omega) (by decide) (by omega)
      refine ⟨a, _, rfl, upd_same, fun x hx => ?_, by show 2 ≤ 1000; decide, ?_, fun H2 s2 => ?_⟩
      · rcases List.mem_cons.mp hx with rfl | hx
        · exact .inl ⟨_, rfl⟩
        · rw [List.mem_singleton.mp hx]
          exact .inr ⟨sv, rfl, log2_small (by omega) (by omega)⟩
      · show (("seats" : Str).length + ((nS sv).length + 0)) ≤ 16000000
        omega
      have s12 : Same H1 H2 := (sNew na).trans s2
      have hp2 := s12 _ _ hp1
      have hq2 := s12 _ _ hq1
      have j1 : (Txt.join blank ([V.str "seats", V.int sv].map strV)).length ≤ 10 := by
        have z := join_len blank ([V.str "seats", V.int sv].map strV)
        have e : ((([V.str "seats", V.int sv].map strV).map (·.length)).sum + ([V.str "seats", V.int sv].map strV).length * (blank : Str).length) = (("seats" : Str).length + ((nS sv).length + 0)) + 2 * 1 := rfl
        rw [e] at z
        omega
      have l1 : ("\n" : Str).length = 1 := by decide +kernel
      refine ⟨_, _, rfl, rfl, by rw [sizeLine_eq]; omega, _, rfl, p, _, _, _, rfl, rfl, SqT.of hp2, atI_nat (j := 1) rfl, q, _, rfl, .inl (SqT.of hq2), ?_⟩
      have eA : V.str "fares" :: (fs.map V.int ++ []) = V.str "fares" :: fs.map V.int := by rw [List.append_nil]
      have eM : (V.str "fares" :: fs.map V.int).map strV = ("fares" : Str) :: fs.map nS := by
        rw [List.map_cons, List.map_map] <;> rfl
      have sm := sum_le ((fs.map nS).map (·.length)) 2 (fun x hx => by
        obtain ⟨z, hz, rfl⟩ := List.mem_map.mp hx
        exact len z hz)
      rw [List.length_map, List.length_map] at sm
      refine ⟨by show (V.str "fares" :: (fs.map V.int ++ [])).length ≤ sizeLine; rw [eA, List.length_cons, List.length_map, sizeLine_eq]; omega, fun b nb => ?_⟩
      refine ⟨b, V.str "fares" :: fs.map V.int, rfl, by rw [← eA]; exact upd_same, fun x hx => ?_, by rw [List.length_cons, List.length_map]; omega, ?_, fun H3 s3 => ?_⟩
      · rcases List.mem_cons.mp hx with rfl | hx
        · exact .inl ⟨_, rfl⟩
        · obtain ⟨z, hz, rfl⟩ := List.mem_map.mp hx
          have bz := fA z hz
          exact .inr ⟨z, rfl, log2_small (by omega) (by omega)⟩
      · rw [eM, List.map_cons, List.sum_cons]
        omega
      rw [eM]
      have j2 := join_len blank (("fares" : Str) :: fs.map nS)
      rw [List.map_cons, List.sum_cons, List.length_cons, List.length_map, show (blank : Str).length = 1 from by decide +kernel] at j2
      refine ⟨_, _, rfl, rfl, ?_, k H3 (s1.trans (s12.trans ((sNew nb).trans s3)))⟩
      rw [TL.len_tl, TL.tl_append, List.length_append, ← TL.len_tl, ← TL.len_tl, sizeLine_eq]
      omega
end
end K94
/-! is_number, lines_of, needed_numbers, needed_end. -/
namespace K94
open PySem PySem.Spec PyProof.Rows L2
theorem dec_str {a b : Str} : decide (V.str a = V.str b) = decide (a = b) := by
  by_cases h : a = b
  · rw [h, decide_eq_true rfl, decide_eq_true rfl]
  · rw [decide_eq_false h, decide_eq_false (fun z => h (V.str.inj z))]
abbrev sNum : Stmt := top 25
abbrev sLines : Stmt := top 26
abbrev sNN : Stmt := top 27
abbrev sNE : Stmt := top 28
theorem scNum : FnScope ["word", "sign"] ["word"] (defScope sNum) := ⟨rfl, rfl, rfl, by decide +kernel, rfl, by decide +kernel, by decide +kernel⟩
theorem scLines : FnScope ["text", "line"] ["text"] (defScope sLines) := ⟨rfl, rfl, rfl, by decide +kernel, rfl, by decide +kernel, by decide +kernel⟩
theorem scNN : FnScope ["line", "words", "begin", "least", "most", "place"] ["line", "words", "begin", "least", "most"] (defScope sNN) := ⟨rfl, rfl, rfl, by decide +kernel, rfl, by decide +kernel, by decide +kernel⟩
theorem scNE : FnScope ["rows", "many"] ["rows", "many"] (defScope sNE) := ⟨rfl, rfl, rfl, by decide +kernel, rfl, by decide +kernel, by decide +kernel⟩
def spNum : Sp := fun vs H Q _ => ∃ z : Str, vs = [.str z] ∧ z.length ≤ 1000000 ∧ ∀ H', Same H H' → Q (.bl (isNum z)) H'
section
variable {w : World} {K : PySem.W.Frag} {mg : Str → Option Value} {base : Heap}
theorem ok_num {P : Program} {f : Addr} {fd : FuncData} (F : Fun K "is_number" "is_number" sNum f fd) (B : Bn mg) : FnOk P w K mg base CX0 1 f fd ["word"] spNum := by
  obtain ⟨_, hG⟩ := B.figs
  obtain ⟨_, hM⟩ := B.figures
  refine F.ok scNum (fun vs H Q E h => ?_) (fun cdv A outer s H vs Q E hr h => ?_)
  · obtain ⟨_, rfl, _⟩ := h
    rfl
  · obtain ⟨z, rfl, hz, k⟩ := h
    refine ⟨_, pss_cons (ps_if (PW.pt (pw_or (pt_not (pt_chain op_le op_le pe_int (pe_callB call_len_str (by rfl) B.len (by decide +kernel) (pa_cons (pv 0) pa_nil)) (pe_glob (v := .int 7) rfl hM ⟨_, rfl⟩)))
        (pw_or1 (pt_not (pt_val (pe_callB (cr_all rfl) (by rfl) B.all (by decide +kernel) (pa_cons (pe_lc (own := [("sign", 1)]) (g := gName 1) (tt := tYes) rfl scNum.nd (pi_str (pv 0)) (blkOk_by (own := [("sign", 1)]) (N := ["word", "sign"]) (sc := defScope sNum) (by decide +kernel)) (fun _ _ _ _ _ => pg_name (i := 1) scNum.nd rfl (Or.inl rfl)) (fun _ _ _ _ _ => pts_nil)
          (fun _ _ _ _ _ => pe_cmpR op_in_sign (pv 1) (pe_glob (v := .str figs) rfl hG ⟨_, rfl⟩) rfl)) pa_nil))))))) (pss_one (ps_ret pe_bl)) pss_nil)
      (pss_one (ps_ret (pe_or (pe_cmpR op_ne (pe_ix ix_str (pv 0) pe_int (fun _ _ => rfl)) pe_str (nomark _)) (pe_one (pe_cmpR op_eq (pv 0) pe_str (nomark _)))))), ?_⟩
    have no : isNum z = false → (decide ((1 : Int) ≤ (z.length : Int)) = false ∨ decide ((z.length : Int) ≤ 7) = false ∨ z.cps.toList.all sigB = false) → Q (.bl false) H := fun e _ => by
      rw [← e]
      exact k H (Same.refl H)
    refine ⟨_, rfl, _, rfl, by rw [sizeLine_eq]; omega, _, _, rfl, rfl, _, rfl, ifB (fun e1 => ?_) (fun e1 => ?_)⟩
    case refine_2 =>
      have e : isNum z = false := by unfold isNum; rw [e1]; rfl
      refine ⟨_, rfl, iteT ?_⟩
      have q := k H (Same.refl H)
      rw [e] at q
      exact q
    refine ⟨_, _, rfl, rfl, _, rfl, ifN (fun e2 => ?_) (fun e2 => ?_)⟩
    · have e : isNum z = false := by unfold isNum; rw [e2, Bool.and_false]; rfl
      have q := k H (Same.refl H)
      rw [e] at q
      exact q
    refine ⟨_, rfl, _, rfl, fun D hD => ?_⟩
    have lz : z.cps.size = z.cps.toList.length := by simp
    have hl : z.cps.size ≤ 1000000 := hz
    refine lc_mp walk_str (fun i => .bl (sigB (z.cps.toList.getD i 0))) hD (by rw [sizeLine_eq]; omega) (fun H' s' => trivial) (fun i x H1 H2 Nx hi s1 hacc y hT => ?_) gName_mono (fun H1 s1 hD1 => ?_)
    · obtain ⟨rfl, c, hc, rfl⟩ := y
      have ec : z.cps.toList.getD i 0 = c := by
        rw [List.getD_eq_getElem?_getD, Array.getElem?_toList, hc] <;> rfl
      rw [ec] at hT
      exact ⟨rfl, _, rfl, c, figs, rfl, rfl, hT _ (Same.refl _)⟩
    have em : made (fun _ => true) (fun i => V.bl (sigB (z.cps.toList.getD i 0))) z.cps.size = (z.cps.toList.map sigB).map V.bl := by
      rw [lz, made_map (fun x => V.bl (sigB x)) z.cps.toList 0, List.map_map] <;> rfl
    rw [em] at hD1
    refine ⟨_, _, rfl, SqL.of hD1, _, rfl, ?_⟩
    have ea : (z.cps.toList.map sigB).all id = z.cps.toList.all sigB := by rw [List.all_map] <;> rfl
    rw [ea]
    refine ifN (fun e3 => ?_) (fun e3 => ?_)
    · have e : isNum z = false := by unfold isNum; rw [e3, Bool.and_false]; rfl
      have q := k H1 s1
      rw [e] at q
      exact q
    have l1 : 1 ≤ z.length := by
      have q := of_decide_eq_true e1
      omega
    have h0 : z.cps.toList[0]? = some (z.cps.getD 0 0) := by
      have q : 0 < z.cps.size := l1
      rw [Array.getElem?_toList]
      simp [q]
    have en : isNum z = (!decide (sign0 z = "0") || decide (z = "0")) := by unfold isNum; rw [e1, e2, e3]; rfl
    have q := k H1 s1
    rw [en] at q
    refine ⟨_, rfl, z, _, _, rfl, rfl, by rw [sizeLine_eq]; omega, atI_nat (j := 0) h0, rfl, _, rfl, ?_⟩
    have ed : decide (V.str ⟨#[z.cps.getD 0 0]⟩ = V.str "0") = decide (sign0 z = "0") := dec_str
    rw [ed]
    cases e4 : decide (sign0 z = "0") with
    | false =>
      rw [e4] at q
      exact iteT q
    | true =>
      rw [e4] at q
      refine iteF ⟨_, rfl, rfl, ?_⟩
      have ed2 : decide (V.str z = V.str "0") = decide (z = "0") := dec_str
      rw [ed2]
      exact q
end
end K94
/-! lines_of, needed_numbers, needed_end. -/
namespace K94
open PySem PySem.Spec PyProof.Rows L2
/-- what is no text -/
def NoStr (H : Hp) (v : V) : Prop := ∃ t, (∀ K, TyX K H v (.type t)) ∧ kitB t "str" = some false
def spLines (CT : Addr) : Sp := fun vs H Q E =>
  (∃ v, vs = [v] ∧ NoStr H v ∧ erT CT .non .non H E) ∨
  (∃ z : Str, vs = [.str z] ∧ z.length ≤ 1000000 ∧ ∀ (p : Addr) (as : List Addr) H', Same H H' → H p = none → H' p = some (.lst (as.map V.ref)) → RowsAt H' as (rowsOf z) → Q (.ref p) H')
def spNN (CT : Addr) : Sp := fun vs H Q E => ∃ (ln : Int) (a : Addr) (ws : List Str) (most : Nat), vs = [.int ln, .ref a, .int 1, .int 1, .int most] ∧ H a = some (.lst (ws.map V.str)) ∧ ws.length ≤ 1000000 ∧ most ≤ 1000 ∧ (∀ k, (ws.getD k Str.empty).length ≤ 1000000) ∧ 1 ≤ ws.length ∧
  match tailWrong ws most with
  | none => ∀ H', Same H H' → Q .non H'
  | some k => erT CT (.int ln) (.int (k : Nat)) H E
def spNE (CT : Addr) : Sp := fun vs H Q E => ∃ (a : Addr) (as : List Addr), vs = [.ref a, .int 2] ∧ H a = some (.lst (as.map V.ref)) ∧ as.length ≤ 2000000 ∧
  if as.length < 2 then erT CT (.int (as.length : Nat)) (.int 0) H E else if 2 < as.length then erT CT (.int 2) (.int 0) H E else ∀ H', Same H H' → Q .non H'
section
variable {w : World} {K : PySem.W.Frag} {mg : Str → Option Value} {base : Heap}
theorem ok_lines {f CH fH CT fT : Addr} {fd : FuncData} (F : Fun K "lines_of" "lines_of" sLines f fd) (B : Bn mg) (T : ErrT K mg CH fH CT fT) : FnOk P0 w K mg base (L2.CX P0 w) 1 f fd ["text"] (spLines CT) := by
  refine F.okX scLines (fun vs H Q E h => ?_) (fun cdv A outer s H vs Q E hr h => ?_)
  · rcases h with ⟨_, rfl, _⟩ | ⟨_, rfl, _⟩ <;> rfl
  · refine ⟨_, pss_cons (ps_if (pt_not (pt_val (pe_callB call_isi (by rfl) B.isinstance (by decide +kernel) (pa_cons (pv 0) (pa_cons (pe_bltn (v := .ty "str") (by rfl) B.str (u := .type "str") (by decide +kernel) rfl) pa_nil)))))
        (pss_one (ps_raise rfl (takes_of rfl rfl rfl rfl) (pmk_text rfl T hr (pa_cons pe_non (pa_cons pe_non pa_nil))))) pss_nil)
      (pss_one (ps_ret (pe_lc (own := [("line", 1)]) (g := gName 1) (tt := tYes) rfl scLines.nd (pi_list (pe_split (pv 0) pe_str)) (blkOk_by (own := [("line", 1)]) (N := ["text", "line"]) (sc := defScope sLines) (by decide +kernel)) (fun _ _ _ _ _ => pg_name (i := 1) scLines.nd rfl (Or.inl rfl)) (fun _ _ _ _ _ => pts_nil)
        (fun _ _ _ _ _ => pe_split (pv 1) pe_str)))), ?_⟩
    rcases h with ⟨v, rfl, ⟨t, ty, kb⟩, e⟩ | ⟨z, rfl, hz, k⟩
    · refine ⟨_, rfl, _, _, _, _, false, rfl, .ty "str", ty K, kit_ty kb, _, rfl, iteT ?_⟩
      exact ⟨_, _, rfl, fun d hd => e d H (Same.refl H) hd⟩
    · refine ⟨_, rfl, _, _, _, _, true, rfl, .ty "str", .base (.str z), kit_ty (by decide +kernel), _, rfl, iteF ?_⟩
      refine ⟨_, rfl, ⟨_, rfl⟩, z, lf, rfl, rfl, by decide +kernel, by rw [sizeLine_eq]; omega, fun L hL => ?_⟩
      refine ⟨L, rfl, ⟨_, SqL.of upd_same⟩, fun D hD => ?_⟩
      refine lc_rows (K := K) (t := z) hz upd_same hD (fun _ => rfl) (fun _ => rfl) (fun H2 as s2 h2 R => ?_)
      have nD : H D = none := (sNew hL).free hD
      exact k D as H2 ((sNew hL).trans s2) nD h2 R
theorem ok_nn {f fM CH fH CT fT : Addr} {fd fdM : FuncData} (F : Fun K "needed_numbers" "needed_numbers" sNN f fd) (B : Bn mg) (T : ErrT K mg CH fH CT fT) (FM : Fun K "is_number" "is_number" sNum fM fdM) (gM : mg "is_number" = some (.ref fM)) :
    FnOk P0 w K mg base (L2.CX P0 w) 2 f fd ["line", "words", "begin", "least", "most"] (spNN CT) := by
  have GM : FnOk P0 w K mg base CX0 1 fM fdM ["word"] spNum := ok_num FM B
  have bM := FM.binds (ps := ["word"]) fun _ _ _ _ _ _ us hl => match us, hl with | [_], _ => rfl
  refine F.okX scNN (fun vs H Q E h => ?_) (fun cdv A outer s H vs Q E hr h => ?_)
  · obtain ⟨_, _, _, _, rfl, _⟩ := h
    rfl
  · obtain ⟨ln, a, ws, most, rfl, ha, hl, hm, hw, h1, k⟩ := h
    refine ⟨_, pss_cons (ps_for (passes_of rfl) rfl (pi_range2 (by rfl) B.range (pa_cons (pv 2) (pa_cons (pe_callB call_len_seq (by rfl) B.len (by decide +kernel) (pa_cons (pv 1) pa_nil)) pa_nil))) (pg_name (i := 5) scNN.nd rfl (Or.inl rfl))
        (pss_one (ps_if (PW.pt (pw_or (pt_cmpR op_ge (pv 5) (pe_op op_add (pv 2) (pv 4)) (nomark _)) (pw_or1 (pt_not (pt_val (pe_call GM hr rfl gM FM.kp bM .nil pass0 (pa_cons (pe_ix ix_list (pv 1) (pv 5) (fun _ _ => rfl)) pa_nil)))))))
          (pss_one (ps_raise rfl (takes_of rfl rfl rfl rfl) (pmk_text rfl T hr (pa_cons (pv 0) (pa_cons (pv 5) pa_nil))))) pss_nil)))
      (pss_one (ps_if (pt_cmpR op_lt (pe_callB call_len_seq (by rfl) B.len (by decide +kernel) (pa_cons (pv 1) pa_nil)) (pe_op op_add (pv 2) (pv 3)) (nomark _))
        (pss_one (ps_raise rfl (takes_of rfl rfl rfl rfl) (pmk_text rfl T hr (pa_cons (pv 0) (pa_cons (pe_callB call_len_seq (by rfl) B.len (by decide +kernel) (pa_cons (pv 1) pa_nil)) pa_nil))))) pss_nil)), ?_⟩
    have el : ((ws.map V.str).length : Int) = (ws.length : Int) := by rw [List.length_map]
    refine ⟨_, rfl, _, rfl, a, _, rfl, .inl (SqL.of ha), 1, _, rfl, ⟨by decide, by decide, by omega, by rw [el]; omega⟩, ?_⟩
    refine for_range (lo := 1) (n := ((ws.map V.str).length - 1 : Int).toNat) (fun i σ H2 => Same H H2 ∧ (∃ v, σ = [some (.int ln), some (.ref a), some (.int 1), some (.int 1), some (.int most), v]) ∧ ∀ j, 1 ≤ j → j < i + 1 → badAt ws most j = false)
      ⟨Same.refl H, ⟨none, rfl⟩, fun j h1 h2 => by omega⟩ (fun i σ H2 hi hP => ?_) (fun σ H2 hP => ?_)
    · obtain ⟨s2, ⟨v, rfl⟩, hb⟩ := hP
      have hi2 : i + 1 < ws.length := by
        rw [List.length_map] at hi
        omega
      have e1 : (1 : Int) + (i : Int) = ((i + 1 : Nat) : Int) := by omega
      have a2 := s2 _ _ ha
      have hx : (ws.map V.str)[i + 1]? = some (V.str (ws.getD (i + 1) Str.empty)) := by
        rw [List.getElem?_map, List.getD_eq_getElem?_getD, List.getElem?_eq_getElem hi2] <;> rfl
      have bad : badAt ws most (i + 1) = true → ∀ H3, Same H H3 → ∀ d, H3 d = none → E (.ref CT) (some d) (upd H3 d (.xd [(("word" : Str), .int (1 + (i : Int))), (("line" : Str), .int ln)])) := fun hbad H3 s3 d hd => by
        have f1 := find_step (p := badAt ws most) (n := ws.length - 1) (i := i + 1) (by omega) (by omega) hb hbad
        have et : tailWrong ws most = some (i + 1) := by unfold tailWrong; rw [f1]
        rw [et] at k
        rw [e1]
        exact k d H3 s3 hd
      refine ⟨_, rfl, _, rfl, _, rfl, _, _, rfl, rfl, _, _, rfl, rfl, _, rfl, ifB (fun e => ?_) (fun e => ?_)⟩
      · refine iteT ⟨_, rfl, _, rfl, _, _, rfl, fun d hd => ?_⟩
        refine bad ?_ H2 s2 d hd
        have q := of_decide_eq_true e
        unfold badAt
        rw [decide_eq_true (show most < i + 1 by omega)]
        rfl
      · have q := of_decide_eq_false e
        refine ⟨_, rfl, _, rfl, a, _, _, _, rfl, rfl, SqL.of a2, by rw [e1]; exact atI_nat hx, _, rfl, hw _, fun H3 s3 => ⟨_, rfl, ifN (fun e2 => ?_) (fun e2 => ?_)⟩⟩
        · refine ⟨_, rfl, _, rfl, _, _, rfl, fun d hd => ?_⟩
          refine bad ?_ H3 (s2.trans s3) d hd
          unfold badAt
          rw [e2, Bool.not_false, Bool.or_true]
        · refine ⟨s2.trans s3, ⟨_, rfl⟩, fun j h1 h2 => ?_⟩
          by_cases hj : j < i + 1
          · exact hb j h1 hj
          · have ej : j = i + 1 := by omega
            subst ej
            unfold badAt
            rw [e2, decide_eq_false (show ¬ most < i + 1 by omega)]
            rfl
    · obtain ⟨s2, ⟨v, rfl⟩, hb⟩ := hP
      have a2 := s2 _ _ ha
      have f1 : (List.range' 1 (ws.length - 1)).find? (badAt ws most) = none := find_end fun j h1 h2 => hb j h1 (by rw [List.length_map]; omega)
      refine ⟨_, rfl, a, _, rfl, .inl (SqL.of a2), _, rfl, _, rfl, _, _, rfl, rfl, _, _, rfl, rfl, _, rfl, ifB (fun e => ?_) (fun e => ?_)⟩
      · have q := of_decide_eq_true e
        rw [el] at q
        have et : tailWrong ws most = some ws.length := by
          unfold tailWrong
          rw [f1]
          exact if_pos (by omega)
        rw [et] at k
        refine ⟨_, rfl, _, rfl, a, _, rfl, .inl (SqL.of a2), _, _, rfl, fun d hd => ?_⟩
        rw [el]
        exact k d H2 s2 hd
      · have q := of_decide_eq_false e
        rw [el] at q
        have et : tailWrong ws most = none := by
          unfold tailWrong
          rw [f1]
          exact if_neg (by omega)
        rw [et] at k
        exact k H2 s2
end
end K94
/-! needed_end, read_hall. -/
namespace K94
open PySem PySem.Spec PyProof.Rows L2
abbrev sRead : Stmt := top 29
theorem scRead : FnScope ["text", "rows", "line", "word", "most"] ["text"] (defScope sRead) := ⟨rfl, rfl, rfl, by decide +kernel, rfl, by decide +kernel, by decide +kernel⟩
def spRead (CH CT : Addr) : Sp := fun vs H Q E =>
  (∃ v, vs = [v] ∧ NoStr H v ∧ erT CT .non .non H E) ∨
  (∃ z : Str, vs = [.str z] ∧ z.length ≤ 900000 ∧ (outOf (rowsOf z)).after CH CT H (fun s fs => ∀ (p q : Addr) H', Same H H' → H p = none → H' p = some (.tup [.int s, .ref q]) → H' q = some (.tup (fs.map V.int)) → Q (.ref p) H') E)
def hdOf (i : Nat) : Str := if i = 0 then "seats" else "fares"
def moOf (i : Nat) : Nat := if i = 0 then 1 else 4
theorem out_at {rs : List (List Str)} {i k : Nat} (hi : i < 2) (h : ∀ j, j < i → rowWrong rs j (hdOf j) (moOf j) = none) (hw : rowWrong rs i (hdOf i) (moOf i) = some k) : outOf rs = .text i k := by
  unfold outOf
  have e : i = 0 ∨ i = 1 := by omega
  rcases e with rfl | rfl
  · have hw' : rowWrong rs 0 "seats" 1 = some k := hw
    rw [hw']
  · have h0 : rowWrong rs 0 "seats" 1 = none := h 0 (by omega)
    have hw' : rowWrong rs 1 "fares" 4 = some k := hw
    rw [h0]
    simp only [hw']
theorem out_end {rs : List (List Str)} (h : ∀ j, j < 2 → rowWrong rs j (hdOf j) (moOf j) = none) : outOf rs = if rs.length < 2 then .text rs.length 0 else if 2 < rs.length then .text 2 0 else
      hallOut (numOf ((rs.getD 0 []).getD 1 Str.empty)) (((rs.getD 1 []).drop 1).map numOf) := by
  unfold outOf
  have h0 : rowWrong rs 0 "seats" 1 = none := h 0 (by omega)
  have h1 : rowWrong rs 1 "fares" 4 = none := h 1 (by omega)
  rw [h0]
  simp only [h1]
theorem row_good {rs : List (List Str)} {i : Nat} (hi : i < rs.length) (h : rowWrong rs i (hdOf i) (moOf i) = none) : tailWrong (rs.getD i []) (moOf i) = none := by
  unfold rowWrong at h
  rw [if_pos hi] at h
  exact (lineWrong_none h).2
section
variable {w : World} {K : PySem.W.Frag} {mg : Str → Option Value} {base : Heap}
theorem ok_ne {f CH fH CT fT : Addr} {fd : FuncData} (F : Fun K "needed_end" "needed_end" sNE f fd) (B : Bn mg) (T : ErrT K mg CH fH CT fT) : FnOk P0 w K mg base (L2.CX P0 w) 1 f fd ["rows", "many"] (spNE CT) := by
  refine F.okX scNE (fun vs H Q E h => ?_) (fun cdv A outer s H vs Q E hr h => ?_)
  · obtain ⟨_, _, rfl, _⟩ := h
    rfl
  · obtain ⟨a, as, rfl, ha, hl, k⟩ := h
    have el : ((as.map V.ref).length : Int) = (as.length : Int) := by rw [List.length_map]
    refine ⟨_, pss_cons (ps_if (pt_cmpR op_lt (pe_callB call_len_seq (by rfl) B.len (by decide +kernel) (pa_cons (pv 0) pa_nil)) (pv 1) (nomark _))
        (pss_one (ps_raise rfl (takes_of rfl rfl rfl rfl) (pmk_text rfl T hr (pa_cons (pe_callB call_len_seq (by rfl) B.len (by decide +kernel) (pa_cons (pv 0) pa_nil)) (pa_cons pe_int pa_nil))))) pss_nil)
      (pss_one (ps_if (pt_cmpR op_gt (pe_callB call_len_seq (by rfl) B.len (by decide +kernel) (pa_cons (pv 0) pa_nil)) (pv 1) (nomark _))
        (pss_one (ps_raise rfl (takes_of rfl rfl rfl rfl) (pmk_text rfl T hr (pa_cons (pv 1) (pa_cons pe_int pa_nil))))) pss_nil)), ?_⟩
    refine ⟨_, rfl, a, _, rfl, .inl (SqL.of ha), _, rfl, _, _, rfl, rfl, _, rfl, ifB (fun e => ?_) (fun e => ?_)⟩
    · have q := of_decide_eq_true e
      rw [if_pos (by omega)] at k
      refine ⟨_, rfl, a, _, rfl, .inl (SqL.of ha), _, _, rfl, fun d hd => ?_⟩
      rw [el]
      exact k d H (Same.refl H) hd
    · have q := of_decide_eq_false e
      rw [if_neg (by omega)] at k
      refine ⟨_, rfl, a, _, rfl, .inl (SqL.of ha), _, rfl, _, _, rfl, rfl, _, rfl, ifB (fun e => ?_) (fun e => ?_)⟩
      · have q2 := of_decide_eq_true e
        rw [if_pos (by omega)] at k
        exact ⟨_, rfl, _, _, rfl, fun d hd => k d H (Same.refl H) hd⟩
      · have q2 := of_decide_eq_false e
        rw [if_neg (by omega)] at k
        exact k H (Same.refl H)
theorem ok_read {f fL fM fN fE fD fW CH fH CT fT : Addr} {fd fdL fdM fdN fdE fdD fdW : FuncData} (F : Fun K "read_hall" "read_hall" sRead f fd) (B : Bn mg) (T : ErrT K mg CH fH CT fT)
    (FL : Fun K "lines_of" "lines_of" sLines fL fdL) (gL : mg "lines_of" = some (.ref fL)) (FM : Fun K "is_number" "is_number" sNum fM fdM) (gM : mg "is_number" = some (.ref fM))
    (FN : Fun K "needed_numbers" "needed_numbers" sNN fN fdN) (gN : mg "needed_numbers" = some (.ref fN)) (FE : Fun K "needed_end" "needed_end" sNE fE fdE) (gE : mg "needed_end" = some (.ref fE))
    (FW : Fun K "is_whole" "is_whole" sWhole fW fdW) (gW : mg "is_whole" = some (.ref fW)) (FD : Fun K "need_hall" "need_hall" sNeed fD fdD) (gD : mg "need_hall" = some (.ref fD)) :
    FnOk P0 w K mg base (L2.CX P0 w) 4 f fd ["text"] (spRead CH CT) := by
  have GL : FnOk P0 w K mg base (L2.CX P0 w) 1 fL fdL ["text"] (spLines CT) := ok_lines FL B T
  have bL := FL.binds (ps := ["text"]) fun _ _ _ _ _ _ us hl => match us, hl with | [_], _ => rfl
  have GN : FnOk P0 w K mg base (L2.CX P0 w) 2 fN fdN ["line", "words", "begin", "least", "most"] (spNN CT) := ok_nn FN B T FM gM
  have bN := FN.binds (ps := ["line", "words", "begin", "least", "most"]) fun _ _ _ _ _ _ us hl => match us, hl with | [_, _, _, _, _], _ => rfl
  have GE : FnOk P0 w K mg base (L2.CX P0 w) 1 fE fdE ["rows", "many"] (spNE CT) := ok_ne FE B T
  have bE := FE.binds (ps := ["rows", "many"]) fun _ _ _ _ _ _ us hl => match us, hl with | [_, _], _ => rfl
  have GD : FnOk P0 w K mg base (L2.CX P0 w) 3 fD fdD ["hall"] (spNeed CH) := ok_need FD B T FW gW
  have bD := FD.binds (ps := ["hall"]) fun _ _ _ _ _ _ us hl => match us, hl with | [_], _ => rfl
  obtain ⟨_, hS⟩ := B.SEATS
  obtain ⟨_, hF⟩ := B.FARES
  obtain ⟨_, hM⟩ := B.fares
  refine F.okX scRead (fun vs H Q E h => ?_) (fun cdv A outer s H vs Q E hr h => ?_)
  · rcases h with ⟨_, rfl, _⟩ | ⟨_, rfl, _⟩ <;> rfl
  · have hr1 : Room 1 _ := hr.mono (by decide)
    have hr2 : Room 2 _ := hr.mono (by decide)
    refine ⟨_, pss_cons (ps_set (i := 1) scRead.nd rfl (Or.inl rfl) (pe_call GL hr1 rfl gL FL.kp bL .nil (passes_call (takes_of rfl rfl rfl rfl) (E := E) (fun _ _ _ _ h => h)) (pa_cons (pv 0) pa_nil)))
      (pss_cons (ps_for (passes_of rfl) rfl (pi_enumT (by rfl) B.enumerate (pa_cons (pe_tup (pa_cons (pe_tup (pa_cons (pe_glob (v := .str "seats") rfl hS ⟨_, rfl⟩) (pa_cons pe_int pa_nil))) (pa_cons (pe_tup (pa_cons (pe_glob (v := .str "fares") rfl hF ⟨_, rfl⟩) (pa_cons (pe_glob (v := .int 4) rfl hM ⟨_, rfl⟩) pa_nil))) pa_nil))) pa_nil))
          (pg_tup rfl (pgs_cons (pg_name (i := 2) scRead.nd rfl (Or.inl rfl)) (pgs_cons (pg_tup rfl (pgs_cons (pg_name (i := 3) scRead.nd rfl (Or.inl rfl)) (pgs_cons (pg_name (i := 4) scRead.nd rfl (Or.inl rfl)) pgs_nil))) pgs_nil)))
        (pss_one (ps_if (pt_cmpR op_lt (pv 2) (pe_callB call_len_seq (by rfl) B.len (by decide +kernel) (pa_cons (pv 1) pa_nil)) (nomark _))
          (pss_cons (ps_if (pt_cmpR op_ne (pe_ix ix_list (pe_ix ix_list (pv 1) (pv 2) (fun _ _ => rfl)) pe_int (fun _ _ => rfl)) (pv 3) (nomark _))
              (pss_one (ps_raise rfl (takes_of rfl rfl rfl rfl) (pmk_text rfl T hr1 (pa_cons (pv 2) (pa_cons pe_int pa_nil))))) pss_nil)
            (pss_one (ps_expr (pe_call GN hr2 rfl gN FN.kp bN .nil (passes_call (takes_of rfl rfl rfl rfl) (E := E) (fun _ _ _ _ h => h)) (pa_cons (pv 2) (pa_cons (pe_ix ix_list (pv 1) (pv 2) (fun _ _ => rfl)) (pa_cons pe_int (pa_cons pe_int (pa_cons (pv 4) pa_nil)))))))))
          pss_nil)))
      (pss_cons (ps_expr (pe_call GE hr1 rfl gE FE.kp bE .nil (passes_call (takes_of rfl rfl rfl rfl) (E := E) (fun _ _ _ _ h => h)) (pa_cons (pv 1) (pa_cons pe_int pa_nil))))
      (pss_one (ps_ret (pe_call GD hr rfl gD FD.kp bD .nil (passes_call (takes_of rfl rfl rfl rfl) (E := E) (fun _ _ _ _ h => h)) (pa_cons (pe_tup (pa_cons (pe_callTy call_int_str (by rfl) B.int (by decide +kernel) (pa_cons (pe_ix ix_list (pe_ix ix_list (pv 1) pe_int (fun _ _ => rfl)) pe_int (fun _ _ => rfl)) pa_nil))
        (pa_cons (pe_callTy call_tuple_of (by rfl) B.tuple (by decide +kernel) (pa_cons (pe_lc (own := [("word", 3)]) (g := gName 3) (tt := tYes) rfl scRead.nd (pi_list (pe_slice sl_list (pe_ix ix_list (pv 1) pe_int (fun _ _ => rfl)) (po_some pe_int) po_none)) (blkOk_by (own := [("word", 3)]) (N := ["text", "rows", "line", "word", "most"]) (sc := defScope sRead) (by decide +kernel)) (fun _ _ _ _ _ => pg_name (i := 3) scRead.nd rfl (Or.inl rfl)) (fun _ _ _ _ _ => pts_nil)
          (fun _ _ _ _ _ => pe_callTy call_int_str (by rfl) B.int (by decide +kernel) (pa_cons (pv 3) pa_nil))) pa_nil)) pa_nil))) pa_nil)))))), ?_⟩
    rcases h with ⟨v, rfl, hv, e⟩ | ⟨z, rfl, hz, k⟩
    · exact ⟨_, rfl, .inl ⟨v, rfl, hv, e⟩⟩
    refine ⟨_, rfl, .inr ⟨z, rfl, by omega, fun p as H1 s1 np h1 R => ?_⟩⟩
    have rl : (rowsOf z).length ≤ z.length + 1 := by rw [rows_len]; exact (lines_len z).2
    have r1 : 1 ≤ (rowsOf z).length := by rw [rows_len]; exact (lines_len z).1
    have al := R.len
    have el : ((as.map V.ref).length : Int) = ((rowsOf z).length : Int) := by rw [List.length_map, al]
    -- the table of heads
    refine ⟨by show 2 ≤ sizeLine; decide, fun t0 n0 => ⟨by show 2 ≤ sizeLine; decide, fun t1 n1 => ⟨by show 2 ≤ sizeLine; decide, fun tt nt => ?_⟩⟩⟩
    have sA := sNew (o := .tup [.str "seats", .int 1]) n0
    have sB := sNew (o := .tup [.str "fares", .int 4]) n1
    have sC := sNew (o := .tup [.ref t0, .ref t1]) nt
    have hT0 := sC _ _ (sB _ _ (upd_same (H := H1) (a := t0) (o := .tup [.str "seats", .int 1])))
    have hT1 := sC _ _ (upd_same (H := upd H1 t0 (.tup [.str "seats", .int 1])) (a := t1) (o := .tup [.str "fares", .int 4]))
    have hTT := upd_same (H := upd (upd H1 t0 (.tup [.str "seats", .int 1])) t1 (.tup [.str "fares", .int 4])) (a := tt) (o := .tup [.ref t0, .ref t1])
    have s2 := sA.trans (sB.trans sC)
    generalize upd (upd (upd H1 t0 (.tup [.str "seats", .int 1])) t1 (.tup [.str "fares", .int 4])) tt (.tup [.ref t0, .ref t1]) = H2 at hT0 hT1 hTT s2 ⊢
    have hp2 := s2 _ _ h1
    have R2 := R.same s2
    have hti : ∀ i x, ([.ref t0, .ref t1] : List V)[i]? = some x → i < 2 ∧ ∃ ti, x = .ref ti ∧ H2 ti = some (.tup [.str (hdOf i), .int (moOf i)]) := fun i x hx => by
      match i, hx with
      | 0, hx =>
        cases hx
        exact ⟨by omega, t0, rfl, hT0⟩
      | 1, hx =>
        cases hx
        exact ⟨by omega, t1, rfl, hT1⟩
      | n + 2, hx => simp at hx
    refine ⟨tt, _, rfl, SqT.of hTT, ?_⟩
    refine for_enumT (K := K) (a := tt) (xs := [.ref t0, .ref t1]) (fun i σ H3 => Same H2 H3 ∧ (∃ a b c, σ = [some (.str z), some (.ref p), a, b, c]) ∧ ∀ j, j < i → rowWrong (rowsOf z) j (hdOf j) (moOf j) = none)
      ⟨Same.refl _, ⟨none, none, none, rfl⟩, fun j hj => absurd hj (Nat.not_lt_zero _)⟩ (fun i σ H3 hP => SqT.of (hP.1 _ _ hTT)) (fun i x Tp σ H3 hx hP nT => ?_) (fun σ H3 hP => ?_)
    · obtain ⟨s3, ⟨va, vb, vc, rfl⟩, hb⟩ := hP
      obtain ⟨hi, ti, rfl, hti⟩ := hti i x hx
      have s4 := s3.trans (sNew (o := .tup [.int (i : Nat), .ref ti]) nT)
      refine ⟨Tp, _, rfl, SqT.of upd_same, rfl, _, _, rfl, _, _, rfl, ti, _, rfl, SqT.of (s4 _ _ hti), rfl, _, _, rfl, _, _, rfl, rfl, rfl, ?_⟩
      have hpT := s4 _ _ hp2
      generalize upd H3 Tp (.tup [.int (i : Nat), .ref ti]) = H4 at s4 hpT ⊢
      have bad : ∀ w : Nat, rowWrong (rowsOf z) i (hdOf i) (moOf i) = some w → ∀ H5, Same H4 H5 → ∀ d, H5 d = none → E (.ref CT) (some d) (upd H5 d (.xd [(("word" : Str), .int (w : Nat)), (("line" : Str), .int (i : Nat))])) := fun w hw H5 s5 d hd => by
        rw [out_at hi hb hw] at k
        exact k d H5 (s1.trans (s2.trans (s4.trans s5))) hd
      refine ⟨_, rfl, _, rfl, p, _, rfl, .inl (SqL.of hpT), _, _, rfl, rfl, _, rfl, ifB (fun e => ?_) (fun e => ?_)⟩
      · have q := of_decide_eq_true e
        rw [el] at q
        have hil : i < (rowsOf z).length := by omega
        obtain ⟨ai, g1, g2⟩ := R2.at_ i hil
        have g3 := s4 _ _ g2
        obtain ⟨f1, f2, f3⟩ := row_facts hil
        have hx0 : (((rowsOf z).getD i []).map V.str)[0]? = some (V.str (((rowsOf z).getD i []).getD 0 Str.empty)) := by
          rw [List.getElem?_map, List.getD_eq_getElem?_getD (l := (rowsOf z).getD i []), List.getElem?_eq_getElem f1] <;> rfl
        have hxi : (as.map V.ref)[i]? = some (V.ref ai) := by rw [List.getElem?_map, g1] <;> rfl
        refine ⟨_, rfl, _, rfl, p, _, _, _, rfl, rfl, SqL.of hpT, atI_nat hxi, ai, _, _, _, rfl, rfl, SqL.of g3, atI_nat (j := 0) hx0, _, rfl, rfl, _, rfl, ?_⟩
        rw [dec_str]
        refine ifN (fun e2 => ?_) (fun e2 => ?_)
        · have q2 := of_decide_eq_false e2
          refine ⟨_, rfl, _, _, rfl, fun d hd => bad 0 ?_ H4 (Same.refl _) d hd⟩
          unfold rowWrong lineWrong
          rw [if_pos hil, if_neg q2]
        · have q2 := of_decide_eq_true e2
          have hrw : rowWrong (rowsOf z) i (hdOf i) (moOf i) = tailWrong ((rowsOf z).getD i []) (moOf i) := by
            unfold rowWrong lineWrong
            rw [if_pos hil, if_pos q2]
          refine ⟨_, rfl, _, rfl, _, rfl, p, _, _, _, rfl, rfl, SqL.of hpT, atI_nat hxi, _, rfl, (i : Nat), ai, (rowsOf z).getD i [], moOf i, rfl, g3, by omega, by unfold moOf; split <;> omega, fun k => Nat.le_trans (f3 k) (by omega), f1, ?_⟩
          cases et : tailWrong ((rowsOf z).getD i []) (moOf i) with
          | some w => exact fun d H5 s5 hd => bad w (hrw.trans et) H5 s5 d hd
          | none =>
            intro H5 s5
            refine ⟨s4.trans s5, ⟨_, _, _, rfl⟩, fun j hj => ?_⟩
            by_cases hji : j < i
            · exact hb j hji
            · have ej : j = i := by omega
              rw [ej, hrw]
              exact et
      · have q := of_decide_eq_false e
        rw [el] at q
        refine ⟨s4, ⟨_, _, _, rfl⟩, fun j hj => ?_⟩
        by_cases hji : j < i
        · exact hb j hji
        · have ej : j = i := by omega
          rw [ej]
          unfold rowWrong
          exact if_neg (by omega)
    · obtain ⟨s3, ⟨va, vb, vc, rfl⟩, hb⟩ := hP
      have ho := out_end (rs := rowsOf z) hb
      have hp3 := s3 _ _ hp2
      have s03 := s1.trans (s2.trans s3)
      refine ⟨_, rfl, p, as, rfl, hp3, by omega, ?_⟩
      rw [al]
      by_cases hl2 : (rowsOf z).length < 2
      · rw [if_pos hl2] at ho ⊢
        rw [ho] at k
        exact fun d H4 s4 hd => k d H4 (s03.trans s4) hd
      rw [if_neg hl2] at ho ⊢
      by_cases hl3 : 2 < (rowsOf z).length
      · rw [if_pos hl3] at ho ⊢
        rw [ho] at k
        exact fun d H4 s4 hd => k d H4 (s03.trans s4) hd
      rw [if_neg hl3] at ho ⊢
      intro H4 s4
      have R4 := (R2.same s3).same s4
      have hp4 := s4 _ _ hp3
      have t0 := row_good (rs := rowsOf z) (i := 0) (by omega) (hb 0 (show 0 < 2 by decide))
      have t1 := row_good (rs := rowsOf z) (i := 1) (by omega) (hb 1 (show 1 < 2 by decide))
      obtain ⟨a0, g0, f0⟩ := R4.at_ 0 (by omega)
      obtain ⟨a1, g1, f1⟩ := R4.at_ 1 (by omega)
      obtain ⟨u1, u2, u3⟩ := tailWrong_none t0
      obtain ⟨w1, w2, w3⟩ := tailWrong_none t1
      generalize (rowsOf z).getD 0 [] = r0 at *
      generalize (rowsOf z).getD 1 [] = r1 at *
      have hx0 : (as.map V.ref)[0]? = some (V.ref a0) := by rw [List.getElem?_map, g0] <;> rfl
      have hx1 : (as.map V.ref)[1]? = some (V.ref a1) := by rw [List.getElem?_map, g1] <;> rfl
      have hy0 : (r0.map V.str)[1]? = some (V.str (r0.getD 1 Str.empty)) := by
        rw [List.getElem?_map, List.getD_eq_getElem?_getD, List.getElem?_eq_getElem (by omega : 1 < r0.length)] <;> rfl
      obtain ⟨n0, n1⟩ := isNum_int (u3 1 (by omega) (by omega))
      refine ⟨_, rfl, p, _, _, _, rfl, rfl, SqL.of hp4, atI_nat (j := 0) hx0, a0, _, _, _, rfl, rfl, SqL.of f0, atI_nat (j := 1) hy0, _, _, rfl, n0, n1, ?_⟩
      refine ⟨_, rfl, p, _, _, _, rfl, rfl, SqL.of hp4, atI_nat (j := 1) hx1, 1, rfl, a1, _, rfl, SqL.of f1, fun pS nS => ?_⟩
      have eS : cutV (r1.map V.str) (some 1) none = (r1.drop 1).map V.str := by
        unfold cutV
        have e : HT.sIx (r1.map V.str).length 0 (some 1) = min 1 (r1.map V.str).length := HT.sIx_nat _ _ 1
        rw [e, HT.sIx_none, List.length_map, Nat.min_eq_left (by omega), List.take_of_length_le (by simp), List.map_drop]
      rw [eS]
      have s5 : Same H4 (upd H4 pS (.lst ((r1.drop 1).map V.str))) := sNew nS
      have hS : (upd H4 pS (.lst ((r1.drop 1).map V.str))) pS = some (.lst ((r1.drop 1).map V.str)) := upd_same
      generalize upd H4 pS (.lst ((r1.drop 1).map V.str)) = H5 at s5 hS ⊢
      refine ⟨pS, rfl, ⟨_, SqL.of hS⟩, fun D hD => ?_⟩
      refine lc_mp (walk_list (xs := (r1.drop 1).map V.str) (K := K) (a := pS)) (fun i => .int (numOf ((r1.drop 1).getD i Str.empty))) hD (by rw [List.length_map, List.length_drop, sizeLine_eq]; unfold moOf at w2; split at w2 <;> omega) (fun H' s' => SqL.of (s' _ _ hS)) (fun i x H6 H7 Nx hi s6 hacc y hT => ?_) gName_mono (fun H6 s6 hD6 => ?_)
      · obtain ⟨rfl, hx⟩ := y
        obtain ⟨hi2, rfl⟩ := map_at hx Str.empty
        have ed : (r1.drop 1).getD i Str.empty = r1.getD (i + 1) Str.empty := by
          rw [List.getD_eq_getElem?_getD, List.getD_eq_getElem?_getD, List.getElem?_drop, Nat.add_comm]
        rw [ed] at hT ⊢
        rw [List.length_drop] at hi2
        obtain ⟨n2, n3⟩ := isNum_int (w3 (i + 1) (by omega) (by omega))
        exact ⟨rfl, _, rfl, _, _, rfl, n2, n3, hT _ (Same.refl _)⟩
      have em : made (fun _ => true) (fun i => V.int (numOf ((r1.drop 1).getD i Str.empty))) ((r1.drop 1).map V.str).length = ((r1.drop 1).map numOf).map V.int := by
        rw [List.length_map, made_map (fun x => V.int (numOf x)) (r1.drop 1) Str.empty, List.map_map] <;> rfl
      rw [em] at hD6
      refine ⟨D, _, rfl, .inl ⟨SqL.of hD6, fun q nq => ⟨by show 2 ≤ sizeLine; decide, fun P nP => ?_⟩⟩⟩
      have hq := (sNew nP (o := .tup [.int (numOf (r0.getD 1 Str.empty)), .ref q])) _ _ (upd_same (H := H6) (a := q) (o := .tup (((r1.drop 1).map numOf).map V.int)))
      have s8 : Same H6 (upd (upd H6 q (.tup (((r1.drop 1).map numOf).map V.int))) P (.tup [.int (numOf (r0.getD 1 Str.empty)), .ref q])) := (sNew nq).trans (sNew nP)
      have nP1 : H P = none := (s03.trans (s4.trans (s5.trans (s6.trans (sNew nq))))).free nP
      have hP : (upd (upd H6 q (.tup (((r1.drop 1).map numOf).map V.int))) P (.tup [.int (numOf (r0.getD 1 Str.empty)), .ref q])) P = some (.tup [.int (numOf (r0.getD 1 Str.empty)), .ref q]) := upd_same
      generalize (upd (upd H6 q (.tup (((r1.drop 1).map numOf).map V.int))) P (.tup [.int (numOf (r0.getD 1 Str.empty)), .ref q])) = H8 at hq s8 hP ⊢
      have s08 := s03.trans (s4.trans (s5.trans (s6.trans s8)))
      refine .inr (.inr ⟨P, q, numOf (r0.getD 1 Str.empty), (r1.drop 1).map numOf, rfl, hP, hq, by rw [List.length_map, List.length_drop]; unfold moOf at w2; split at w2 <;> omega, ?_⟩)
      rw [ho] at k
      revert k
      unfold hallOut
      repeat' split
      all_goals first
        | exact fun k H9 s9 => k P q H9 (s08.trans s9) nP1 (s9 _ _ hP) (s9 _ _ hq)
        | exact fun k d H9 s9 hd => k d H9 (s08.trans s9) hd
end
end K94
/-! _law_mixed, _law_folded. -/
namespace K94
open PySem PySem.Spec PyProof.Rows L2
abbrev sMixed : Stmt := top 31
abbrev sFolded : Stmt := top 32
theorem scMixed : FnScope ["_law_cell", "_law_n", "_law_blend"] ["_law_cell", "_law_n"] (defScope sMixed) := ⟨rfl, rfl, rfl, by decide +kernel, rfl, by decide +kernel, by decide +kernel⟩
theorem scFolded : FnScope ["_law_script", "_law_n", "_law_found", "_law_cell"] ["_law_script"] (defScope sFolded) := ⟨rfl, rfl, rfl, by decide +kernel, rfl, by decide +kernel, by decide +kernel⟩
def spMixed : Sp := fun vs H Q _ => ∃ c n : Int, vs = [.int c, .int n] ∧ (0 ≤ c ∧ c < 2 ^ 60) ∧ (0 ≤ n ∧ n < 2 ^ 60) ∧ ∀ r : Int, 0 ≤ r → r < 2 ^ 40 → Q (.int r) H
/-- 64 numbers below the prime -/
def Cells (cs : List Int) : Prop := cs.length = 64 ∧ ∀ x ∈ cs, 0 ≤ x ∧ x < 2147483647
def spFolded (K : PySem.W.Frag) : Sp := fun vs H Q _ => ∃ (a : Addr) (ns : List Int), vs = [.ref a] ∧ SqL K H a (ns.map V.int) ∧ ∀ (c : Addr) (cs : List Int) H', Same H H' → H c = none → H' c = some (.lst (cs.map V.int)) → Cells cs → Q (.ref c) H'
theorem sLst {K : PySem.W.Frag} {H H' : Hp} {a : Addr} {xs : List V} (e : Same H H') (h : SqL K H a xs) : SqL K H' a xs := by
  rcases h with (h | ⟨o, h⟩) | h
  · exact .inl (.inl (e _ _ h))
  · exact .inl (.inr ⟨o, e _ _ h⟩)
  · exact .inr h
theorem cells0 : Cells ((List.range 64).map fun i : Nat => 17 + (0 + (i : Int))) := by
  refine ⟨by simp, fun x hx => ?_⟩
  obtain ⟨i, hi, rfl⟩ := List.mem_map.mp hx
  rw [List.mem_range] at hi
  omega
theorem ixI {n : Nat} {i : Int} (h0 : 0 ≤ i) (h1 : i < n) : ixN n i = some i.toNat := by
  unfold ixN
  rw [if_pos h0, if_pos h1]
theorem intAt {cs : List Int} {i : Int} (h0 : 0 ≤ i) (h1 : i < cs.length) : atI (cs.map V.int) i = some (V.int (cs.getD i.toNat 0)) := by
  have hj : i.toNat < cs.length := by omega
  unfold atI
  rw [ixI h0 (by rw [List.length_map]; exact h1)]
  show (cs.map V.int)[i.toNat]? = _
  rw [List.getElem?_map, List.getD_eq_getElem?_getD, List.getElem?_eq_getElem hj] <;> rfl
theorem getD_mem0 {cs : List Int} {j : Nat} (h : j < cs.length) : cs.getD j 0 ∈ cs := by
  rw [List.getD_eq_getElem?_getD, List.getElem?_eq_getElem h]
  exact List.getElem_mem h
theorem Cells.set {cs : List Int} (h : Cells cs) (j : Nat) {v : Int} (h0 : 0 ≤ v) (h1 : v < 2147483647) : Cells (cs.set j v) := by
  refine ⟨by rw [List.length_set]; exact h.1, fun x hx => ?_⟩
  rcases List.mem_or_eq_of_mem_set hx with z | z
  · exact h.2 x z
  · rw [z]; exact ⟨h0, h1⟩
theorem set_int (cs : List Int) (j : Nat) (v : Int) : (cs.map V.int).set j (.int v) = (cs.set j v).map V.int := by rw [List.map_set]
section
variable {w : World} {K : PySem.W.Frag} {mg : Str → Option Value} {base : Heap}
theorem ok_mixed {f : Addr} {fd : FuncData} (F : Fun K "_law_mixed" "_law_mixed" sMixed f fd) (B : Bn mg) : FnOk P0 w K mg base CX0 1 f fd ["_law_cell", "_law_n"] spMixed := by
  refine F.ok scMixed (fun vs H Q E h => ?_) (fun cdv A outer s H vs Q E hr h => ?_)
  · obtain ⟨_, _, rfl, _⟩ := h
    rfl
  · obtain ⟨c, n, rfl, ⟨c1, c2⟩, ⟨n1, n2⟩, q⟩ := h
    refine ⟨_, pss_cons (ps_set (i := 2) scMixed.nd rfl (Or.inl rfl) (pe_op op_add (pe_op op_add (pe_op op_mod (pe_callTy call_int1 (by rfl) B.int (by decide +kernel) (pa_cons (pe_op op_mul (pe_op op_mul (pv 0) (pe_op op_add pe_int (pe_op op_mul pe_int (pv 1)))) pe_int) pa_nil)) pe_int)
        (pe_op op_mul (pe_op op_mul pe_int (pv 1)) (pv 1))) (pe_op op_mul pe_int (pv 1))))
      (pss_one (ps_ret (pe_op op_fdiv (pe_op op_mod (pe_callTy call_int1 (by rfl) B.int (by decide +kernel) (pa_cons (pe_op op_mul (pv 2) pe_int) pa_nil)) pe_int) pe_int))), ?_⟩
    refine ⟨_, rfl, _, rfl, _, _, rfl, rfl, .inl ⟨by decide, by decide⟩, _, _, rfl, rfl, _, _, rfl, rfl, .inl ⟨by omega, by omega⟩, _, _, rfl, rfl, .inr ⟨by decide, by decide⟩, .inl ⟨_, rfl, _, _, rfl, rfl, (by decide : (0 : Int) < 2147483647), ?_⟩⟩
    refine ⟨_, rfl, _, _, rfl, rfl, .inl ⟨by decide, by decide⟩, _, rfl, _, _, rfl, rfl, .inr ⟨by omega, by omega⟩, _, _, rfl, rfl, _, rfl, _, _, rfl, rfl, .inl ⟨by decide, by decide⟩, _, _, rfl, rfl, ?_⟩
    refine ⟨_, rfl, _, _, rfl, rfl, .inr ⟨by decide, by decide⟩, .inl ⟨_, rfl, _, _, rfl, rfl, (by decide : (0 : Int) < 2147483629), _, _, rfl, rfl, ⟨(by decide : (0 : Int) < 7), (by decide : (7 : Int) < 1073741824)⟩, q _ ?_ ?_⟩⟩
    all_goals omega
theorem ok_folded {f : Addr} {fd : FuncData} (F : Fun K "_law_folded" "_law_folded" sFolded f fd) (B : Bn mg) : FnOk P0 w K mg base CX0 1 f fd ["_law_script"] (spFolded K) := by
  refine F.ok scFolded (fun vs H Q E h => ?_) (fun cdv A outer s H vs Q E hr h => ?_)
  · obtain ⟨_, _, rfl, _⟩ := h
    rfl
  · obtain ⟨a, ns, rfl, ha, q⟩ := h
    refine ⟨_, pss_cons (ps_setLc (i := 2) (own := [("_law_n", 1)]) (g := gName 1) (tt := tYes) rfl scFolded.nd rfl rfl (sw_true rfl rfl rfl (by decide +kernel)) (pi_range1 (by rfl) B.range (pa_cons pe_int pa_nil)) (blkOk_by (own := [("_law_n", 1)]) (N := ["_law_script", "_law_n", "_law_found", "_law_cell"]) (sc := defScope sFolded) (by decide +kernel)) (fun _ _ _ _ _ => pg_name (i := 1) scFolded.nd rfl (Or.inl rfl)) (fun _ _ _ _ _ => pts_nil)
        (fun _ _ _ _ _ => pe_op op_add pe_int (pv 1)))
      (pss_cons (ps_for PassesOwn.never rfl (pi_enum (by rfl) B.enumerate (pa_cons (pv 0) pa_nil)) (pg_tup rfl (pgs_cons (pg_name (i := 1) scFolded.nd rfl (Or.inl rfl)) (pgs_cons (pg_name (i := 3) scFolded.nd rfl (Or.inl rfl)) pgs_nil)))
        (pss_one (ps_asg (pe_op op_mod (pe_callTy call_int1 (by rfl) B.int (by decide +kernel) (pa_cons (pe_op op_add (pe_op op_mul (pe_ix ix_list (pv 2) (pe_op op_mod (pe_callTy call_int1 (by rfl) B.int (by decide +kernel) (pa_cons (pv 1) pa_nil)) pe_int) (fun _ _ => rfl)) pe_int) (pv 3)) pa_nil)) pe_int)
          (pg_sub (pv 2) (pe_op op_mod (pe_callTy call_int1 (by rfl) B.int (by decide +kernel) (pa_cons (pv 1) pa_nil)) pe_int) set_list))))
      (pss_cons (ps_for PassesOwn.never rfl (pi_range2 (by rfl) B.range (pa_cons pe_int (pa_cons pe_int pa_nil))) (pg_name (i := 1) scFolded.nd rfl (Or.inl rfl))
        (pss_one (ps_asg (pe_op op_mod (pe_callTy call_int1 (by rfl) B.int (by decide +kernel) (pa_cons (pe_op op_add (pe_ix ix_list (pv 2) (pv 1) (fun _ _ => rfl)) (pe_op op_mul (pe_ix ix_list (pv 2) (pe_op op_sub (pv 1) pe_int) (fun _ _ => rfl)) pe_int)) pa_nil)) pe_int)
          (pg_sub (pv 2) (pv 1) set_list))))
      (pss_one (ps_ret (pv 2))))), ?_⟩
    refine ⟨64, rfl, by decide, by decide, fun D hD => ?_⟩
    refine lc_mp walk_range (fun i => .int (17 + (0 + (i : Int)))) hD (by rw [sizeLine_eq]; decide) (fun _ _ => trivial) (fun i x H1 H2 Nx hi s1 hacc y hT => ?_) gName_mono (fun H1 s1 hD1 => ?_)
    · obtain ⟨rfl, rfl⟩ := y
      exact ⟨rfl, _, rfl, _, _, rfl, rfl, hT _ (Same.refl _)⟩
    have em : made (fun _ => true) (fun i => V.int (17 + (0 + (i : Int)))) (64 : Int).toNat = ((List.range 64).map fun i : Nat => 17 + (0 + (i : Int))).map V.int := by
      rw [made_all, List.map_map] <;> rfl
    rw [em] at hD1
    refine ⟨_, rfl, a, _, rfl, sLst s1 ha, ?_⟩
    refine for_enumL (K := K) (a := a) (xs := ns.map V.int) (fun i σ H2 => Same H H2 ∧ (∃ va vb, σ = [some (.ref a), va, some (.ref D), vb]) ∧ ∃ cs, H2 D = some (.lst (cs.map V.int)) ∧ Cells cs)
      ⟨s1, ⟨_, _, rfl⟩, _, hD1, cells0⟩ (fun i σ H2 hP => sLst hP.1 ha) (fun i x T σ H2 hx hP nT => ?_) (fun σ H2 hP => ?_)
    · obtain ⟨s2, ⟨va, vb, rfl⟩, cs, hc, Cc⟩ := hP
      obtain ⟨hi, rfl⟩ := map_at hx 0
      have s3 : Same H2 (upd H2 T (.tup [.int (i : Nat), .int (ns.getD i 0)])) := sNew nT
      have hc3 := s3 _ _ hc
      refine ⟨T, _, rfl, SqT.of upd_same, rfl, _, _, rfl, _, _, rfl, rfl, ?_⟩
      generalize upd H2 T (.tup [.int (i : Nat), .int (ns.getD i 0)]) = H3 at s3 hc3 ⊢
      have m1 : (0 : Int) ≤ (i : Int) % 64 := by omega
      have m2 : (i : Int) % 64 < cs.length := by rw [Cc.1]; omega
      refine ⟨_, rfl, _, rfl, .inl ⟨_, rfl, _, _, rfl, rfl, (by decide : (0 : Int) < 64), D, _, _, _, rfl, rfl, SqL.of hc3, intAt m1 m2, _, _, rfl, rfl, .inr ⟨by decide, by decide⟩, _, rfl, _, _, rfl, rfl, .inl ⟨_, rfl, _, _, rfl, rfl, (by decide : (0 : Int) < 2147483647), ?_⟩⟩⟩
      refine ⟨_, rfl, _, rfl, .inl ⟨_, rfl, _, _, rfl, rfl, (by decide : (0 : Int) < 64), D, _, _, _, rfl, rfl, hc3, ixI m1 (by rw [List.length_map]; exact m2), ?_⟩⟩
      rw [set_int]
      refine ⟨sPut (s2.trans s3) hD, ⟨_, _, rfl⟩, _, upd_same, Cc.set _ (Int.emod_nonneg _ (by decide)) (Int.emod_lt_of_pos _ (by decide))⟩
    obtain ⟨s2, ⟨va, vb, rfl⟩, cs, hc, Cc⟩ := hP
    refine ⟨_, _, rfl, by decide, ?_⟩
    refine for_range (lo := 1) (n := 63) (fun i σ H2 => Same H H2 ∧ (∃ va vb, σ = [some (.ref a), va, some (.ref D), vb]) ∧ ∃ cs, H2 D = some (.lst (cs.map V.int)) ∧ Cells cs)
      ⟨s2, ⟨_, _, rfl⟩, _, hc, Cc⟩ (fun i σ H2 hi hP => ?_) (fun σ H2 hP => ?_)
    · obtain ⟨s2, ⟨va, vb, rfl⟩, cs, hc, Cc⟩ := hP
      have m2 : (1 + (i : Int)) < cs.length := by rw [Cc.1]; omega
      refine ⟨_, rfl, _, rfl, D, _, _, _, rfl, rfl, SqL.of hc, intAt (by omega) m2, _, rfl, _, rfl, _, _, rfl, rfl, D, _, _, _, rfl, rfl, SqL.of hc, intAt (by omega) (by omega), _, _, rfl, rfl, .inr ⟨by decide, by decide⟩, _, _, rfl, rfl, .inl ⟨_, rfl, _, _, rfl, rfl, (by decide : (0 : Int) < 2147483647), ?_⟩⟩
      refine ⟨_, rfl, _, rfl, D, _, _, _, rfl, rfl, hc, ixI (by omega) (by rw [List.length_map]; exact m2), ?_⟩
      rw [set_int]
      exact ⟨sPut s2 hD, ⟨_, _, rfl⟩, _, upd_same, Cc.set _ (Int.emod_nonneg _ (by decide)) (Int.emod_lt_of_pos _ (by decide))⟩
    obtain ⟨s2, ⟨va, vb, rfl⟩, cs, hc, Cc⟩ := hP
    exact ⟨_, rfl, q D cs H2 s2 hD hc Cc⟩
end
end K94
/-! _law_draw, _law_begun. -/
namespace K94
open PySem PySem.Spec PyProof.Rows L2
abbrev sDraw : Stmt := top 33
abbrev sBegun : Stmt := top 34
theorem scDraw : FnScope ["_law_m", "_law_limit", "_law_n", "_law_lot", "_law_here", "_law_cell"] ["_law_m", "_law_limit"] (defScope sDraw) := ⟨rfl, rfl, rfl, by decide +kernel, rfl, by decide +kernel, by decide +kernel⟩
theorem scBegun : FnScope ["_law_script", "_law_m", "_law_cell"] ["_law_script"] (defScope sBegun) := ⟨rfl, rfl, rfl, by decide +kernel, rfl, by decide +kernel, by decide +kernel⟩
/-! ### data -/
theorem dp_ints {K : PySem.W.Frag} {H : Hp} : ∀ gs : List Int, DpAll K H (gs.map V.int) (gs.map PyData.int)
  | [] => .nil
  | g :: r => .cons (.int g) (dp_ints r)
theorem flat_shaped {ds : List PyData} (h : ∀ d ∈ ds, d.canLay0 = true ∧ d.depth = 0) : PyData.canLayAll0 ds = true ∧ PyData.depthAll ds = 0 := by
  induction ds with
  | nil => exact ⟨rfl, rfl⟩
  | cons d r ih =>
    obtain ⟨h1, h2⟩ := ih fun x hx => h x (List.mem_cons_of_mem _ hx)
    obtain ⟨h3, h4⟩ := h d (List.mem_cons_self ..)
    refine ⟨?_, ?_⟩
    · show (d.canLay0 && PyData.canLayAll0 r) = true
      rw [h3, h1]; rfl
    · show max d.depth (PyData.depthAll r) = 0
      rw [h4, h2]; rfl
theorem shaped_flat {ds : List PyData} (h : ∀ d ∈ ds, d.canLay0 = true ∧ d.depth = 0) : SeqAt.shaped (.list ds) = true := by
  obtain ⟨h1, h2⟩ := flat_shaped h
  unfold SeqAt.shaped
  show (PyData.canLayAll0 ds && decide (PyData.depthAll ds + 1 ≤ 64)) = true
  rw [h1, h2]; rfl
theorem shaped_ints (gs : List Int) : SeqAt.shaped (.list (gs.map PyData.int)) = true := shaped_flat fun d hd => by
  obtain ⟨i, _, rfl⟩ := List.mem_map.mp hd
  exact ⟨rfl, rfl⟩
theorem eqv_nil (ds : List PyData) : PyData.eqv (.list ds) (.list []) = ds.isEmpty := by
  cases ds with
  | nil => rfl
  | cons d r => rfl
/-! ### the state from which numbers are drawn -/
abbrev kC : Key := Sum.inr "cells"
abbrev kG : Key := Sum.inr "great"
abbrev kS : Key := Sum.inr "spot"
structure St (H : Hp) (m g : Addr) (n : Nat) : Prop where
  ex : ∃ (kvs : List (Key × V)) (c : Addr) (cs gs : List Int) (sp : Nat), H m = some (.dK kvs) ∧ kvs.length ≤ n + 3 ∧ valV kvs kC = some (.ref c) ∧ valV kvs kG = some (.ref g) ∧ valV kvs kS = some (.int sp) ∧ sp ≤ n ∧
    c ≠ g ∧ H c = some (.lst (cs.map V.int)) ∧ Cells cs ∧ H g = some (.lst (gs.map V.int)) ∧ gs.length ≤ 1000
/-- all but the two stay -/
def ExtB (m g : Addr) (H H' : Hp) : Prop := ∀ b u, b ≠ m → b ≠ g → H b = some u → H' b = some u
theorem ExtB.refl (m g : Addr) (H : Hp) : ExtB m g H H := fun _ _ _ _ e => e
theorem ExtB.trans {m g : Addr} {H H1 H2 : Hp} (a : ExtB m g H H1) (b : ExtB m g H1 H2) : ExtB m g H H2 := fun c u h1 h2 e => b c u h1 h2 (a c u h1 h2 e)
theorem ExtB.of {m g : Addr} {H H' : Hp} (s : Same H H') : ExtB m g H H' := fun b u _ _ e => s b u e
theorem St.same {H H' : Hp} {m g : Addr} {n : Nat} (h : St H m g n) (s : Same H H') : St H' m g n := by
  obtain ⟨kvs, c, cs, gs, sp, h1, h2, h3, h4, h5, h6, h7, h8, h9, h10, h11⟩ := h.ex
  exact ⟨kvs, c, cs, gs, sp, s _ _ h1, h2, h3, h4, h5, h6, h7, s _ _ h8, h9, s _ _ h10, h11⟩
theorem St.mono {H : Hp} {m g : Addr} {n n' : Nat} (h : St H m g n) (k : n ≤ n') : St H m g n' := by
  obtain ⟨kvs, c, cs, gs, sp, h1, h2, h3, h4, h5, h6, h7, h8, h9, h10, h11⟩ := h.ex
  exact ⟨kvs, c, cs, gs, sp, h1, by omega, h3, h4, h5, by omega, h7, h8, h9, h10, h11⟩
def spDraw : Sp := fun vs H Q _ => ∃ (m g : Addr) (n : Nat) (l : Int), vs = [.ref m, .int l] ∧ (1 ≤ l ∧ l ≤ 1000000) ∧ St H m g n ∧ n ≤ 1000000 ∧ ∀ (r : Int) H', 0 ≤ r → r < l → St H' m g (n + 1) → ExtB m g H H' → Q (.int r) H'
def spBegun (K : PySem.W.Frag) : Sp := fun vs H Q _ => ∃ (a : Addr) (ns : List Int), vs = [.ref a] ∧ SqL K H a (ns.map V.int) ∧ ns.length ≤ 1000 ∧ ∀ (m g : Addr) H', Same H H' → H m = none → H g = none → St H' m g 0 → Q (.ref m) H'
theorem dget {H : Hp} {m : Addr} {kvs : List (Key × V)} {x : Str} {v : V} (h1 : H m = some (.dK kvs)) (h : valV kvs (Sum.inr x) = some v) : DGet H m (.str x) (some v) := by
  rw [← h]
  exact DGet.k (k := Sum.inr x) h1
section
variable {w : World} {K : PySem.W.Frag} {mg : Str → Option Value} {base : Heap}
theorem ok_draw {f fM : Addr} {fd fdM : FuncData} (F : Fun K "_law_draw" "_law_draw" sDraw f fd) (B : Bn mg) (FM : Fun K "_law_mixed" "_law_mixed" sMixed fM fdM) (gM : mg "_law_mixed" = some (.ref fM)) : FnOk P0 w K mg base CX0 2 f fd ["_law_m", "_law_limit"] spDraw := by
  have GM : FnOk P0 w K mg base CX0 1 fM fdM ["_law_cell", "_law_n"] spMixed := ok_mixed FM B
  have bM := FM.binds (ps := ["_law_cell", "_law_n"]) fun _ _ _ _ _ _ us hl => match us, hl with | [_, _], _ => rfl
  refine F.ok scDraw (fun vs H Q E h => ?_) (fun cdv A outer s H vs Q E hr h => ?_)
  · obtain ⟨_, _, _, _, rfl, _⟩ := h
    rfl
  · obtain ⟨m, g, n, l, rfl, ⟨l1, l2⟩, hS, hn, q⟩ := h
    have hu := hu_of hr
    refine ⟨_, pss_cons (ps_set (i := 2) scDraw.nd rfl (Or.inl rfl) (pe_dget hu (pv 0) pe_str (fun _ _ => rfl)))
      (pss_cons (ps_dput hu (pv 0) pe_str (pe_op op_add (pv 2) pe_int) rfl)
      (pss_cons (ps_if (pt_cmpR (op_neD hr.units) (pe_dget hu (pv 0) pe_str (fun _ _ => rfl)) (pe_lst pa_nil) (nomark _))
        (pss_cons (ps_set (i := 3) scDraw.nd rfl (Or.inl rfl) (pe_dget hu (pv 0) pe_str (fun _ _ => rfl)))
        (pss_cons (ps_set (i := 4) scDraw.nd rfl (Or.inl rfl) (pe_op op_mod (pe_callTy call_int1 (by rfl) B.int (by decide +kernel) (pa_cons (pv 2) pa_nil)) (pe_callB call_len_seq (by rfl) B.len (by decide +kernel) (pa_cons (pv 3) pa_nil))))
        (pss_cons (ps_set (i := 5) scDraw.nd rfl (Or.inl rfl) (pe_ix ix_list (pv 3) (pv 4) (fun _ _ => rfl)))
        (pss_one (ps_if (pt_cmpR op_gt (pv 5) pe_int (nomark _))
          (pss_cons (ps_asg (pe_op op_fdiv (pv 5) (pv 1)) (pg_sub (pv 3) (pv 4) set_list))
          (pss_one (ps_ret (pe_op op_mod (pe_callTy call_int1 (by rfl) B.int (by decide +kernel) (pa_cons (pv 5) pa_nil)) (pv 1))))) pss_nil)))))
        pss_nil)
      (pss_cons (ps_set (i := 3) scDraw.nd rfl (Or.inl rfl) (pe_dget hu (pv 0) pe_str (fun _ _ => rfl)))
      (pss_one (ps_ret (pe_op op_mod (pe_callTy call_int1 (by rfl) B.int (by decide +kernel) (pa_cons (pe_call GM hr rfl gM FM.kp bM .nil pass0 (pa_cons (pe_call GM hr rfl gM FM.kp bM .nil pass0 (pa_cons (pe_op op_add (pe_ix ix_list (pv 3) (pe_op op_mod (pe_callTy call_int1 (by rfl) B.int (by decide +kernel) (pa_cons (pv 2) pa_nil)) pe_int) (fun _ _ => rfl)) (pe_op op_mul pe_int (pe_op op_fdiv (pv 2) pe_int))) (pa_cons (pv 2) pa_nil))) (pa_cons (pe_op op_add (pv 2) pe_int) pa_nil))) pa_nil)) (pv 1))))))), ?_⟩
    obtain ⟨kvs, c, cs, gs, sp, h1, h2, h3, h4, h5, h6, h7, h8, h9, h10, h11⟩ := hS.ex
    have cm : c ≠ m := ne_of h8 h1 (by intro z; cases z)
    have gm : g ≠ m := ne_of h10 h1 (by intro z; cases z)
    refine ⟨_, rfl, m, _, rfl, dget h1 h5, ?_⟩
    refine ⟨_, rfl, _, _, rfl, rfl, _, rfl, m, _, rfl, DPut.k (k := kS) h1 (by rw [sizeLine_eq]; omega), ?_⟩
    have e1 : (upd H m (.dK (putK kvs kS (.int ((sp : Int) + 1))))) m = some (.dK (putK kvs kS (.int ((sp : Int) + 1)))) := upd_same
    have x1 : ExtB m g H (upd H m (.dK (putK kvs kS (.int ((sp : Int) + 1))))) := fun b u n1 n2 e => by
      rw [upd_ne n1]
      exact e
    have e8 : (upd H m (.dK (putK kvs kS (.int ((sp : Int) + 1))))) c = some (.lst (cs.map V.int)) := by rw [upd_ne cm]; exact h8
    have e10 : (upd H m (.dK (putK kvs kS (.int ((sp : Int) + 1))))) g = some (.lst (gs.map V.int)) := by rw [upd_ne gm]; exact h10
    have e3 : valV (putK kvs kS (.int ((sp : Int) + 1))) kC = some (.ref c) := by rw [valV_put, if_neg (by decide +kernel)]; exact h3
    have e4 : valV (putK kvs kS (.int ((sp : Int) + 1))) kG = some (.ref g) := by rw [valV_put, if_neg (by decide +kernel)]; exact h4
    have e5 : valV (putK kvs kS (.int ((sp : Int) + 1))) kS = some (.int ((sp + 1 : Nat) : Int)) := by rw [valV_put, if_pos rfl] <;> rfl
    have e2 := length_putK kvs kS (.int ((sp : Int) + 1))
    generalize putK kvs kS (.int ((sp : Int) + 1)) = kv1 at *
    generalize upd H m (.dK kv1) = H1 at *
    have mk : ∀ (gs' : List Int) H', H' m = some (.dK kv1) → H' c = some (.lst (cs.map V.int)) → H' g = some (.lst (gs'.map V.int)) → gs'.length ≤ 1000 → St H' m g (n + 1) := fun gs' H' k1 k2 k3 k4 => ⟨kv1, c, cs, gs', sp + 1, k1, by omega, e3, e4, e5, by omega, h7, k2, h9, k3, k4⟩
    refine ⟨_, rfl, m, _, rfl, dget e1 e4, by show 0 ≤ sizeLine; decide, fun p np => ?_⟩
    have s2 : Same H1 (upd H1 p (.lst [])) := sNew np
    have k1 := s2 _ _ e1
    have k8 := s2 _ _ e8
    have k10 := s2 _ _ e10
    refine ⟨.list (gs.map PyData.int), .list [], .lst (SqL.of k10) (dp_ints gs), .lst (SqL.of upd_same) .nil, shaped_ints gs, rfl, _, rfl, ?_⟩
    generalize upd H1 p (.lst []) = H2 at *
    rw [eqv_nil]
    have d1 : (0 : Int) ≤ (sp : Int) % 64 := Int.emod_nonneg _ (by decide)
    have d2 : (sp : Int) % 64 < cs.length := by rw [h9.1]; omega
    have d3 := h9.2 _ (getD_mem0 (cs := cs) (j := ((sp : Int) % 64).toNat) (by omega))
    refine ifN (fun e => ?_) (fun e => ?_)
    · have hg0 : 0 < gs.length := by
        cases gs with
        | nil => cases e
        | cons a b => simp
      refine ⟨_, rfl, m, _, rfl, dget k1 e4, ?_⟩
      refine ⟨_, rfl, .inl ⟨_, rfl, _, rfl, g, _, rfl, .inl (SqL.of k10), _, _, rfl, rfl, (show (0 : Int) < (gs.map V.int).length by rw [List.length_map]; omega), ?_⟩⟩
      have b1 : (0 : Int) ≤ (sp : Int) % ((gs.map V.int).length : Int) := Int.emod_nonneg _ (by rw [List.length_map]; omega)
      have b2 : (sp : Int) % ((gs.map V.int).length : Int) < gs.length := by
        have z := Int.emod_lt_of_pos (sp : Int) (show (0 : Int) < ((gs.map V.int).length : Int) by rw [List.length_map]; omega)
        rw [List.length_map] at z ⊢
        exact z
      refine ⟨_, rfl, _, rfl, g, _, _, _, rfl, rfl, SqL.of k10, intAt b1 b2, ?_⟩
      refine ⟨_, rfl, _, _, rfl, rfl, _, rfl, ifB (fun e6 => ?_) (fun e6 => ?_)⟩
      · refine ⟨_, rfl, _, rfl, _, _, rfl, rfl, ⟨(by omega : (0 : Int) < l), (by omega : l < 1073741824)⟩, ?_⟩
        refine ⟨_, rfl, _, rfl, g, _, _, _, rfl, rfl, k10, ixI b1 (by have z := b2; rw [List.length_map] at z ⊢; exact z), ?_⟩
        rw [set_int]
        refine ⟨_, rfl, .inl ⟨_, rfl, _, rfl, _, _, rfl, rfl, (by omega : (0 : Int) < l), q _ _ (Int.emod_nonneg _ (by omega)) (Int.emod_lt_of_pos _ (by omega)) (mk (gs.set _ _) _ ?_ ?_ upd_same (by rw [List.length_set]; exact h11)) ?_⟩⟩
        · rw [upd_ne gm.symm]; exact k1
        · rw [upd_ne h7]; exact k8
        · refine (x1.trans (ExtB.of s2)).trans fun b u n1 n2 e => ?_
          rw [upd_ne n2]; exact e
      · refine ⟨_, rfl, m, _, rfl, dget k1 e3, ?_⟩
        refine ⟨_, rfl, _, rfl, .inl ⟨_, rfl, _, _, rfl, rfl, (by decide : (0 : Int) < 64), c, _, _, _, rfl, rfl, SqL.of k8, intAt d1 d2, _, rfl, _, _, rfl, rfl, ⟨(by decide : (0 : Int) < 64), (by decide : (64 : Int) < 1073741824)⟩, _, _, rfl, rfl, .inl ⟨by decide, by decide⟩, _, _, rfl, rfl, _, rfl, _, _, rfl, ⟨by omega, by omega⟩, ⟨by omega, by omega⟩, fun r r0 r1 => ?_⟩⟩
        refine ⟨_, rfl, _, _, rfl, rfl, _, _, rfl, ⟨by omega, by omega⟩, ⟨by omega, by omega⟩, fun r2 r3 r4 => ?_⟩
        exact .inl ⟨_, rfl, _, rfl, _, _, rfl, rfl, (by omega : (0 : Int) < l), q _ H2 (Int.emod_nonneg _ (by omega)) (Int.emod_lt_of_pos _ (by omega)) (mk gs H2 k1 k8 k10 h11) (x1.trans (ExtB.of s2))⟩
    · refine ⟨_, rfl, m, _, rfl, dget k1 e3, ?_⟩
      refine ⟨_, rfl, _, rfl, .inl ⟨_, rfl, _, _, rfl, rfl, (by decide : (0 : Int) < 64), c, _, _, _, rfl, rfl, SqL.of k8, intAt d1 d2, _, rfl, _, _, rfl, rfl, ⟨(by decide : (0 : Int) < 64), (by decide : (64 : Int) < 1073741824)⟩, _, _, rfl, rfl, .inl ⟨by decide, by decide⟩, _, _, rfl, rfl, _, rfl, _, _, rfl, ⟨by omega, by omega⟩, ⟨by omega, by omega⟩, fun r r0 r1 => ?_⟩⟩
      refine ⟨_, rfl, _, _, rfl, rfl, _, _, rfl, ⟨by omega, by omega⟩, ⟨by omega, by omega⟩, fun r2 r3 r4 => ?_⟩
      exact .inl ⟨_, rfl, _, rfl, _, _, rfl, rfl, (by omega : (0 : Int) < l), q _ H2 (Int.emod_nonneg _ (by omega)) (Int.emod_lt_of_pos _ (by omega)) (mk gs H2 k1 k8 k10 h11) (x1.trans (ExtB.of s2))⟩
theorem ok_begun {f fF : Addr} {fd fdF : FuncData} (F : Fun K "_law_begun" "_law_begun" sBegun f fd) (B : Bn mg) (FF : Fun K "_law_folded" "_law_folded" sFolded fF fdF) (gF : mg "_law_folded" = some (.ref fF)) : FnOk P0 w K mg base CX0 2 f fd ["_law_script"] (spBegun K) := by
  have GF : FnOk P0 w K mg base CX0 1 fF fdF ["_law_script"] (spFolded K) := ok_folded FF B
  have bF := FF.binds (ps := ["_law_script"]) fun _ _ _ _ _ _ us hl => match us, hl with | [_], _ => rfl
  refine F.ok scBegun (fun vs H Q E h => ?_) (fun cdv A outer s H vs Q E hr h => ?_)
  · obtain ⟨_, _, rfl, _⟩ := h
    rfl
  · obtain ⟨a, ns, rfl, ha, hl, q⟩ := h
    have hu := hu_of hr
    refine ⟨_, pss_cons (ps_set (i := 1) scBegun.nd rfl (Or.inl rfl) (pe_disp (pps_cons pe_str (pe_call GF hr rfl gF FF.kp bF .nil pass0 (pa_cons (pv 0) pa_nil)) (pps_cons pe_str (pe_lst pa_nil) (pps_cons pe_str pe_int pps_nil))) (by rfl) (by rfl) (fun z => by cases z) (by decide)))
      (pss_cons (ps_dput hu (pv 1) pe_str (pe_lc (own := [("_law_cell", 2)]) (g := gName 2) (tt := tYes) rfl scBegun.nd (pi_list (pv 0)) (blkOk_by (own := [("_law_cell", 2)]) (N := ["_law_script", "_law_m", "_law_cell"]) (sc := defScope sBegun) (by decide +kernel)) (fun _ _ _ _ _ => pg_name (i := 2) scBegun.nd rfl (Or.inl rfl)) (fun _ _ _ _ _ => pts_nil)
        (fun _ _ _ _ _ => pe_ifExp (pt_cmpR op_ge (pv 2) (pe_op op_pow pe_int pe_int) (nomark _)) (pv 2) pe_int)) rfl)
      (pss_one (ps_ret (pv 1)))), ?_⟩
    intro p np
    refine ⟨_, rfl, a, ns, rfl, sLst (sNew np) ha, fun c cs H1 s1 nc hc Cc => ?_⟩
    have hp1 := s1 _ _ (upd_same (H := H) (a := p) (o := .dK []))
    refine ⟨by show 0 ≤ sizeLine; decide, fun p2 np2 => ?_⟩
    have s2 : Same H1 (upd H1 p2 (.lst [])) := sNew np2
    have hp2 := s2 _ _ hp1
    have hc2 := s2 _ _ hc
    have s02 : Same H (upd H1 p2 (.lst [])) := (sNew np).trans (s1.trans s2)
    generalize upd H1 p2 (.lst []) = H2 at *
    refine ⟨hp2, [(kC, .ref c), (kG, .ref p2), (kS, .int 0)], rfl, by show 3 ≤ 15; decide, ?_⟩
    have s3 : Same H (upd H2 p (.dK (mergeK [] [(kC, .ref c), (kG, .ref p2), (kS, .int 0)]))) := sPut s02 np
    have hp3 := upd_same (H := H2) (a := p) (o := .dK (mergeK [] [(kC, .ref c), (kG, .ref p2), (kS, .int 0)]))
    have cp : c ≠ p := ne_of hc2 hp2 (by intro z; cases z)
    have hc3 : (upd H2 p (.dK (mergeK [] [(kC, .ref c), (kG, .ref p2), (kS, .int 0)]))) c = some (.lst (cs.map V.int)) := by rw [upd_ne cp]; exact hc2
    have f1 : valV (mergeK [] [(kC, V.ref c), (kG, .ref p2), (kS, .int 0)]) kC = some (.ref c) := by
      show valV (putK (putK (putK ([] : List (Key × V)) kC (V.ref c)) kG (V.ref p2)) kS (V.int 0)) kC = _
      rw [valV_put, if_neg (by decide +kernel), valV_put, if_neg (by decide +kernel), valV_put, if_pos rfl]
    have f2 : valV (mergeK [] [(kC, V.ref c), (kG, .ref p2), (kS, .int 0)]) kS = some (.int 0) := by
      show valV (putK (putK (putK ([] : List (Key × V)) kC (V.ref c)) kG (V.ref p2)) kS (V.int 0)) kS = _
      rw [valV_put, if_pos rfl]
    have f3 : (mergeK [] [(kC, V.ref c), (kG, .ref p2), (kS, .int 0)]).length ≤ 3 := length_mergeK _ _
    have f4 : valV (mergeK [] [(kC, V.ref c), (kG, .ref p2), (kS, .int 0)]) kG = some (.ref p2) := by
      show valV (putK (putK (putK ([] : List (Key × V)) kC (V.ref c)) kG (V.ref p2)) kS (V.int 0)) kG = _
      rw [valV_put, if_neg (by decide +kernel), valV_put, if_pos rfl]
    generalize mergeK [] [(kC, V.ref c), (kG, .ref p2), (kS, .int 0)] = kvs at *
    generalize upd H2 p (.dK kvs) = H3 at *
    refine ⟨_, rfl, a, rfl, ⟨_, sLst s3 ha⟩, fun D hD => ?_⟩
    refine lc_it (walk_list (xs := ns.map V.int) (K := K) (a := a)) (fun i H4 => Same H3 H4 ∧ ∃ gs : List Int, H4 D = some (.lst (gs.map V.int)) ∧ gs.length = i) ⟨sNew hD, [], upd_same, rfl⟩ (fun i H4 _ z => sLst (s3.trans z.1) ha) (fun i x H4 H5 hi hP hY => ?_) (fun H4 z => ?_)
    · obtain ⟨s4, gs, k1, k2⟩ := hP
      obtain ⟨rfl, hx⟩ := hY
      obtain ⟨hi2, rfl⟩ := map_at hx 0
      have fin : ∀ v : Int, ∃ acc, H5 D = some (.lst acc) ∧ acc.length < sizeLine ∧ Same H3 (upd H5 D (.lst (acc ++ [V.int v]))) ∧ ∃ gs : List Int, (upd H5 D (.lst (acc ++ [V.int v]))) D = some (.lst (gs.map V.int)) ∧ gs.length = i + 1 := fun v =>
        ⟨_, k1, by rw [List.length_map, sizeLine_eq]; omega, sPut s4 hD, gs ++ [v], by rw [upd_same, List.map_append] <;> rfl, by simp [k2]⟩
      refine ⟨rfl, yesI ?_⟩
      refine ⟨_, rfl, _, _, rfl, rfl, ⟨by decide, by decide, by decide⟩, _, _, rfl, rfl, _, rfl, ifB (fun e => ?_) (fun e => ?_)⟩
      · exact ⟨_, rfl, fin _⟩
      · exact fin 0
    · obtain ⟨s4, gs, k1, k2⟩ := z
      rw [List.length_map] at k2
      have hp4 := s4 _ _ hp3
      have hc4 := s4 _ _ hc3
      have Dp : D ≠ p := ne_of k1 hp4 (by intro z; cases z)
      have cD : c ≠ D := ne_of_none hc3 hD
      refine ⟨_, rfl, p, _, rfl, DPut.k (k := kG) hp4 (by rw [sizeLine_eq]; omega), _, rfl, q p D _ (sPut (s3.trans s4) np) np (s3.free hD) ⟨putK kvs kG (.ref D), c, cs, gs, 0, upd_same, ?_, ?_, ?_, ?_, Nat.le_refl _, cD, ?_, Cc, ?_, by omega⟩⟩
      · have e : (putK kvs kG (V.ref D)).length = kvs.length := by
          unfold putK
          split
          · simp
          · rename_i z
            exfalso
            apply z
            unfold valV at f4
            cases e : kvs.find? (fun kv => decide (kv.1 = kG)) with
            | none => rw [e] at f4; cases f4
            | some y =>
              have m1 := List.mem_of_find?_eq_some e
              have m2 := List.find?_some e
              exact List.any_eq_true.mpr ⟨y, m1, m2⟩
        omega
      · rw [valV_put, if_neg (by decide +kernel)]; exact f1
      · rw [valV_put, if_pos rfl]
      · rw [valV_put, if_neg (by decide +kernel)]; exact f2
      · rw [upd_ne cp]; exact hc4
      · rw [upd_ne Dp]; exact k1
end
end K94
/-! _law_fares, _law_hall, _law_text. -/
namespace K94
open PySem PySem.Spec PyProof.Rows L2
abbrev sFares : Stmt := top 36
abbrev sHall : Stmt := top 37
abbrev sLText : Stmt := top 41
theorem scFares : FnScope ["_law_m", "_law_most", "_law_found", "_law_last", "_law_k"] ["_law_m", "_law_most"] (defScope sFares) := ⟨rfl, rfl, rfl, by decide +kernel, rfl, by decide +kernel, by decide +kernel⟩
theorem scHall : FnScope ["_law_m", "_law_seats", "_law_fares_here"] ["_law_m", "_law_seats", "_law_fares_here"] (defScope sHall) := ⟨rfl, rfl, rfl, by decide +kernel, rfl, by decide +kernel, by decide +kernel⟩
theorem scLText : FnScope ["_law_hall_so", "_law_words", "_law_one"] ["_law_hall_so"] (defScope sLText) := ⟨rfl, rfl, rfl, by decide +kernel, rfl, by decide +kernel, by decide +kernel⟩
/-- so far drawn fares -/
structure FI (fs : List Int) (last : Int) (i : Nat) : Prop where
  len : fs.length = i
  lo : 0 ≤ last
  hi : last ≤ 24 * i
  all : ∀ x ∈ fs, 1 ≤ x ∧ x ≤ last
  asc : fs.Pairwise (· < ·)
theorem FI.step {fs : List Int} {last : Int} {i : Nat} (h : FI fs last i) {d : Int} (d0 : 0 ≤ d) (d1 : d < 24) : FI (fs ++ [last + 1 + d]) (last + 1 + d) (i + 1) := by
  have l0 := h.lo
  have l1 := h.hi
  refine ⟨by rw [List.length_append, h.len] <;> rfl, by omega, by omega, fun x hx => ?_, ?_⟩
  · rcases List.mem_append.mp hx with z | z
    · have q := h.all x z
      omega
    · rw [List.mem_singleton.mp z]
      omega
  · rw [List.pairwise_append]
    refine ⟨h.asc, List.pairwise_singleton .., fun a ha b hb => ?_⟩
    rw [List.mem_singleton.mp hb]
    have q := h.all a ha
    omega
theorem asc_of {fs : List Int} (h : fs.Pairwise (· < ·)) : ascB fs = true := by
  unfold ascB
  rw [List.all_eq_true]
  intro k hk
  rw [List.mem_range] at hk
  refine decide_eq_true ?_
  have h1 : k < fs.length := by omega
  have h2 : k + 1 < fs.length := by omega
  have e1 : fs.getD k 0 = fs[k] := by rw [List.getD_eq_getElem?_getD, List.getElem?_eq_getElem h1] <;> rfl
  have e2 : fs.getD (k + 1) 0 = fs[k + 1] := by rw [List.getD_eq_getElem?_getD, List.getElem?_eq_getElem h2] <;> rfl
  rw [e1, e2]
  exact List.pairwise_iff_getElem.mp h k (k + 1) h1 h2 (by omega)
theorem hall_ok {s : Int} {fs : List Int} {last : Int} {i : Nat} (s1 : 1 ≤ s) (s2 : s ≤ 6) (h : FI fs last i) (i1 : 1 ≤ i) (i4 : i ≤ 4) : hallOut s fs = .hall s fs := by
  have l := h.len
  have l1 := h.hi
  refine hallOut_yes ?_ ?_ ?_ (asc_of h.asc)
  · unfold inB
    rw [decide_eq_true s1, decide_eq_true s2]; rfl
  · unfold inB
    rw [decide_eq_true (show (1 : Int) ≤ (fs.length : Int) by omega), decide_eq_true (show (fs.length : Int) ≤ 4 by omega)]; rfl
  · rw [List.all_eq_true]
    intro x hx
    have q := h.all x hx
    unfold inB
    rw [decide_eq_true q.1, decide_eq_true (show x ≤ 99 by omega)]; rfl
theorem St.mOk {H : Hp} {m g : Addr} {n : Nat} (h : St H m g n) : ∃ kvs, H m = some (.dK kvs) := let ⟨kvs, _, _, _, _, h1, _⟩ := h.ex; ⟨kvs, h1⟩
theorem St.gOk {H : Hp} {m g : Addr} {n : Nat} (h : St H m g n) : ∃ gs : List Int, H g = some (.lst (gs.map V.int)) := let ⟨_, _, _, gs, _, _, _, _, _, _, _, _, _, _, h10, _⟩ := h.ex; ⟨gs, h10⟩
theorem ExtB.tup {m g p : Addr} {n : Nat} {H H' : Hp} {xs : List V} (x : ExtB m g H H') (S : St H m g n) (h : H p = some (.tup xs)) : H' p = some (.tup xs) := by
  obtain ⟨kvs, h1⟩ := S.mOk
  obtain ⟨gs, h2⟩ := S.gOk
  exact x p _ (ne_of h h1 (by intro z; cases z)) (ne_of h h2 (by intro z; cases z)) h
/-- .. of an address that was new -/
theorem ExtB.at_new {m g p : Addr} {n : Nat} {H0 H H' : Hp} {o : HO} (x : ExtB m g H H') (S : St H0 m g n) (n0 : H0 p = none) (h : H p = some o) : H' p = some o := by
  obtain ⟨kvs, h1⟩ := S.mOk
  obtain ⟨gs, h2⟩ := S.gOk
  exact x p _ (ne_of_none h1 n0).symm (ne_of_none h2 n0).symm h
theorem joinL_snoc (S : List Nat) : ∀ (p : List Nat) (ps : List (List Nat)) (q : List Nat), TL.joinL S ((p :: ps) ++ [q]) = TL.joinL S (p :: ps) ++ (S ++ q)
  | p, [], q => by simp [TL.joinL]
  | p, r :: rs, q => by
    have ih := joinL_snoc S r rs q
    have e1 : TL.joinL S ((p :: r :: rs) ++ [q]) = p ++ (S ++ TL.joinL S ((r :: rs) ++ [q])) := by simp [TL.joinL]
    have e2 : TL.joinL S (p :: r :: rs) = p ++ (S ++ TL.joinL S (r :: rs)) := by simp [TL.joinL]
    rw [e1, ih, e2]
    simp
theorem join_snoc (y x : Str) (ps : List Str) (q : Str) : Txt.join y ((x :: ps) ++ [q]) = Txt.join y (x :: ps) ++ y ++ q := by
  refine TL.ext_tl ?_
  rw [TL.join_eq, TL.join_eq, TL.tl_append, TL.tl_append, TL.tl_join, TL.tl_join, List.map_append, List.map_cons]
  have e := joinL_snoc (TL.tl y) (TL.tl x) (ps.map TL.tl) (TL.tl q)
  rw [List.map_cons, List.map_nil, e, List.append_assoc]
def spFares : Sp := fun vs H Q _ => ∃ (m g : Addr) (n : Nat), vs = [.ref m, .int 4] ∧ St H m g n ∧ n ≤ 900000 ∧ ∀ (p : Addr) (fs : List Int) (last : Int) (i : Nat) H', H' p = some (.tup (fs.map V.int)) → FI fs last i → 1 ≤ i → i ≤ 4 → St H' m g (n + 9) → ExtB m g H H' → Q (.ref p) H'
def spHall : Sp := fun vs H Q _ => ∃ (m g : Addr) (n : Nat), vs = [.ref m, .int 6, .int 4] ∧ St H m g n ∧ n ≤ 800000 ∧ ∀ (p q : Addr) (s : Int) (fs : List Int) H', H' p = some (.tup [.int s, .ref q]) → H' q = some (.tup (fs.map V.int)) → hallOut s fs = .hall s fs → St H' m g (n + 10) → ExtB m g H H' → Q (.ref p) H'
def spLText : Sp := fun vs H Q _ => ∃ (p q : Addr) (s : Int) (fs : List Int), vs = [.ref p] ∧ H p = some (.tup [.int s, .ref q]) ∧ H q = some (.tup (fs.map V.int)) ∧ hallOut s fs = .hall s fs ∧ Q (.str (hallText s fs)) H
section
variable {w : World} {K : PySem.W.Frag} {mg : Str → Option Value} {base : Heap}
theorem ok_fares {f fD fM : Addr} {fd fdD fdM : FuncData} (F : Fun K "_law_fares" "_law_fares" sFares f fd) (B : Bn mg) (FD : Fun K "_law_draw" "_law_draw" sDraw fD fdD) (gD : mg "_law_draw" = some (.ref fD)) (FM : Fun K "_law_mixed" "_law_mixed" sMixed fM fdM) (gM : mg "_law_mixed" = some (.ref fM)) :
    FnOk P0 w K mg base CX0 3 f fd ["_law_m", "_law_most"] spFares := by
  have GD : FnOk P0 w K mg base CX0 2 fD fdD ["_law_m", "_law_limit"] spDraw := ok_draw FD B FM gM
  have bD := FD.binds (ps := ["_law_m", "_law_limit"]) fun _ _ _ _ _ _ us hl => match us, hl with | [_, _], _ => rfl
  refine F.ok scFares (fun vs H Q E h => ?_) (fun cdv A outer s H vs Q E hr h => ?_)
  · obtain ⟨_, _, _, rfl, _⟩ := h
    rfl
  · obtain ⟨m, g, n, rfl, hS, hn, q⟩ := h
    refine ⟨_, pss_cons (ps_asg (pe_tup (pa_cons (pe_tup pa_nil) (pa_cons pe_int pa_nil))) (pg_tup rfl (pgs_cons (pg_name (i := 2) scFares.nd rfl (Or.inl rfl)) (pgs_cons (pg_name (i := 3) scFares.nd rfl (Or.inl rfl)) pgs_nil))))
      (pss_cons (ps_for PassesOwn.never rfl (pi_range1 (by rfl) B.range (pa_cons (pe_op op_add pe_int (pe_call GD hr rfl gD FD.kp bD .nil pass0 (pa_cons (pv 0) (pa_cons (pv 1) pa_nil)))) pa_nil)) (pg_name (i := 4) scFares.nd rfl (Or.inl rfl))
        (pss_cons (ps_set (i := 3) scFares.nd rfl (Or.inl rfl) (pe_op op_add (pe_op op_add (pv 3) pe_int) (pe_call GD hr rfl gD FD.kp bD .nil pass0 (pa_cons (pv 0) (pa_cons (pe_ix ix_list (pe_lst (pa_cons pe_int (pa_cons pe_int pa_nil))) (pe_call GD hr rfl gD FD.kp bD .nil pass0 (pa_cons (pv 0) (pa_cons pe_int pa_nil))) (fun _ _ => rfl)) pa_nil)))))
          (pss_one (ps_set (i := 2) scFares.nd rfl (Or.inl rfl) (pe_op op_catA (pv 2) (pe_tup (pa_cons (pv 3) pa_nil)))))))
      (pss_one (ps_ret (pv 2)))), ?_⟩
    refine ⟨by show 0 ≤ sizeLine; decide, fun p np => ⟨by show 2 ≤ sizeLine; decide, fun t nt => ⟨t, _, rfl, SqT.of upd_same, rfl, _, _, rfl, _, _, rfl, rfl, ?_⟩⟩⟩
    have sA : Same H (upd (upd H p (.tup [])) t (.tup [.ref p, .int 0])) := (sNew np).trans (sNew nt)
    have hp := (sNew nt (o := .tup [.ref p, .int 0])) _ _ (upd_same (H := H) (a := p) (o := .tup []))
    generalize upd (upd H p (.tup [])) t (.tup [.ref p, .int 0]) = H1 at *
    refine ⟨_, rfl, _, rfl, m, g, n, 4, rfl, ⟨by decide, by decide⟩, hS.same sA, by omega, fun r H2 r0 r1 S2 x2 => ?_⟩
    refine ⟨_, _, rfl, rfl, _, rfl, by omega, by omega, ?_⟩
    refine for_range (lo := 0) (n := (1 + r).toNat) (fun i σ H3 => ExtB m g H H3 ∧ St H3 m g (n + 1 + 2 * i) ∧ ∃ (vk : Option V) (p : Addr) (fs : List Int) (last : Int), σ = [some (.ref m), some (.int 4), some (.ref p), some (.int last), vk] ∧ H3 p = some (.tup (fs.map V.int)) ∧ FI fs last i)
      ⟨(ExtB.of sA).trans x2, S2, _, p, [], 0, rfl, x2.tup (hS.same sA) hp, ⟨rfl, by omega, by omega, fun x hx => (by cases hx), .nil⟩⟩ (fun i σ H3 hi hP => ?_) (fun σ H3 hP => ?_)
    · obtain ⟨x3, S3, vk, p, fs, last, rfl, hp3, F3⟩ := hP
      have hi4 : i < 4 := by omega
      refine ⟨_, rfl, _, _, rfl, rfl, _, rfl, by show 2 ≤ sizeLine; decide, fun l nl => ?_⟩
      have s4 : Same H3 (upd H3 l (.lst [.int 3, .int 24])) := sNew nl
      have hl4 := upd_same (H := H3) (a := l) (o := .lst [.int 3, .int 24])
      generalize upd H3 l (.lst [.int 3, .int 24]) = H4 at *
      refine ⟨_, rfl, m, g, _, 2, rfl, ⟨by decide, by decide⟩, S3.same s4, by omega, fun r5 H5 r50 r51 S5 x5 => ?_⟩
      have hl5 := x5.at_new S3 nl hl4
      have hp5 := x5.tup (S3.same s4) (s4 _ _ hp3)
      have hlt : ∃ d : Int, (d = 3 ∨ d = 24) ∧ atI [V.int 3, V.int 24] r5 = some (.int d) := by
        have e : r5 = 0 ∨ r5 = 1 := by omega
        rcases e with rfl | rfl
        · exact ⟨3, .inl rfl, rfl⟩
        · exact ⟨24, .inr rfl, rfl⟩
      obtain ⟨d, hd, hat⟩ := hlt
      refine ⟨l, _, _, _, rfl, rfl, SqL.of hl5, hat, m, g, _, d, rfl, ⟨by omega, by omega⟩, S5, by omega, fun r6 H6 r60 r61 S6 x6 => ?_⟩
      have hp6 := x6.tup S5 hp5
      refine ⟨_, _, rfl, rfl, _, rfl, _, rfl, by show 1 ≤ sizeLine; decide, fun u nu => ?_⟩
      have s7 : Same H6 (upd H6 u (.tup [.int (last + 1 + r6)])) := sNew nu
      have hu7 := upd_same (H := H6) (a := u) (o := .tup [.int (last + 1 + r6)])
      generalize upd H6 u (.tup [.int (last + 1 + r6)]) = H7 at *
      have x7 : ExtB m g H H7 := x3.trans ((ExtB.of s4).trans (x5.trans (x6.trans (ExtB.of s7))))
      have S7 : St H7 m g (n + 1 + 2 * (i + 1)) := S6.same s7
      have F7 := F3.step r60 (show r6 < 24 by omega)
      refine ⟨p, u, _, _, rfl, rfl, SqT.of (s7 _ _ hp6), SqT.of hu7, by rw [List.length_map, F3.len, sizeLine_eq]; show i + 1 ≤ _; omega, fun e => ?_, fun _ z => (by cases z), fun _ _ v nv => ?_⟩
      · have e' : fs = [] := List.map_eq_nil_iff.mp e
        subst e'
        exact ⟨x7, S7, _, u, [last + 1 + r6], _, rfl, hu7, F7⟩
      · refine ⟨x7.trans (ExtB.of (sNew nv)), S7.same (sNew nv), _, v, _, _, rfl, ?_, F7⟩
        rw [upd_same, List.map_append] <;> rfl
    · obtain ⟨x3, S3, vk, p, fs, last, rfl, hp3, F3⟩ := hP
      exact ⟨_, rfl, q p fs last _ H3 hp3 F3 (by omega) (by omega) (S3.mono (by omega)) x3⟩
theorem ok_hall {f fF fD fM : Addr} {fd fdF fdD fdM : FuncData} (F : Fun K "_law_hall" "_law_hall" sHall f fd) (B : Bn mg) (FF : Fun K "_law_fares" "_law_fares" sFares fF fdF) (gF : mg "_law_fares" = some (.ref fF)) (FD : Fun K "_law_draw" "_law_draw" sDraw fD fdD) (gD : mg "_law_draw" = some (.ref fD)) (FM : Fun K "_law_mixed" "_law_mixed" sMixed fM fdM) (gM : mg "_law_mixed" = some (.ref fM)) :
    FnOk P0 w K mg base CX0 4 f fd ["_law_m", "_law_seats", "_law_fares_here"] spHall := by
  have GD : FnOk P0 w K mg base CX0 2 fD fdD ["_law_m", "_law_limit"] spDraw := ok_draw FD B FM gM
  have bD := FD.binds (ps := ["_law_m", "_law_limit"]) fun _ _ _ _ _ _ us hl => match us, hl with | [_, _], _ => rfl
  have GF : FnOk P0 w K mg base CX0 3 fF fdF ["_law_m", "_law_most"] spFares := ok_fares FF B FD gD FM gM
  have bF := FF.binds (ps := ["_law_m", "_law_most"]) fun _ _ _ _ _ _ us hl => match us, hl with | [_, _], _ => rfl
  refine F.ok scHall (fun vs H Q E h => ?_) (fun cdv A outer s H vs Q E hr h => ?_)
  · obtain ⟨_, _, _, rfl, _⟩ := h
    rfl
  · obtain ⟨m, g, n, rfl, hS, hn, q⟩ := h
    refine ⟨_, pss_one (ps_ret (pe_tup (pa_cons (pe_op op_add pe_int (pe_call GD (hr.mono (by decide)) rfl gD FD.kp bD .nil pass0 (pa_cons (pv 0) (pa_cons (pv 1) pa_nil)))) (pa_cons (pe_call GF hr rfl gF FF.kp bF .nil pass0 (pa_cons (pv 0) (pa_cons (pv 2) pa_nil))) pa_nil)))), ?_⟩
    refine ⟨_, rfl, _, rfl, m, g, n, 6, rfl, ⟨by decide, by decide⟩, hS, by omega, fun r H1 r0 r1 S1 x1 => ?_⟩
    refine ⟨_, _, rfl, rfl, _, rfl, _, rfl, m, g, _, rfl, S1, by omega, fun p fs last i H2 hp FI2 i1 i4 S2 x2 => ?_⟩
    refine ⟨by show 2 ≤ sizeLine; decide, fun t nt => q t p (1 + r) fs _ upd_same (sNew nt _ _ hp) (hall_ok (by omega) (by omega) FI2 i1 i4) ((S2.same (sNew nt)).mono (by omega)) (x1.trans (x2.trans (ExtB.of (sNew nt))))⟩
theorem ok_ltext {f : Addr} {fd : FuncData} (F : Fun K "_law_text" "_law_text" sLText f fd) (B : Bn mg) : FnOk P0 w K mg base CX0 1 f fd ["_law_hall_so"] spLText := by
  refine F.ok scLText (fun vs H Q E h => ?_) (fun cdv A outer s H vs Q E hr h => ?_)
  · obtain ⟨_, _, _, _, rfl, _⟩ := h
    rfl
  · obtain ⟨p, q, sv, fs, rfl, hp, hq, ho, k⟩ := h
    refine ⟨_, pss_cons (ps_set (i := 1) scLText.nd rfl (Or.inl rfl) pe_str)
      (pss_cons (ps_for PassesOwn.never rfl (pi_tup (pe_ix ix_tup (pv 0) pe_int (fun _ _ => rfl))) (pg_name (i := 2) scLText.nd rfl (Or.inl rfl))
        (pss_one (ps_set (i := 1) scLText.nd rfl (Or.inl rfl) (pe_op op_add_str (pe_op op_add_str (pv 1) pe_str) (pe_callTy call_str_int (by rfl) B.str (by decide +kernel) (pa_cons (pv 2) pa_nil))))))
      (pss_one (ps_ret (pe_op op_add_str (pe_op op_add_str (pe_op op_add_str pe_str (pe_callTy call_str_int (by rfl) B.str (by decide +kernel) (pa_cons (pe_ix ix_tup (pv 0) pe_int (fun _ _ => rfl)) pa_nil))) pe_str) (pv 1))))), ?_⟩
    obtain ⟨fS, fL, fA, _, _⟩ := hall_facts ho
    refine ⟨_, rfl, p, _, _, _, rfl, rfl, SqT.of hp, atI_nat (j := 1) rfl, q, rfl, ⟨_, SqT.of hq⟩, ?_⟩
    have wl : ∀ i, i ≤ fs.length → (Txt.join blank (("fares" : Str) :: (fs.take i).map nS)).length ≤ 30 := fun i hi => by
      have z := join_len blank (("fares" : Str) :: (fs.take i).map nS)
      have sm := sum_le (((fs.take i).map nS).map (·.length)) 2 (fun x hx => by
        obtain ⟨y, hy, rfl⟩ := List.mem_map.mp hx
        obtain ⟨u, hu, rfl⟩ := List.mem_map.mp hy
        have b := fA u (List.mem_of_mem_take hu)
        exact nS_len (by omega) (by decide) (by omega))
      rw [List.length_map, List.length_map, List.length_take] at sm
      rw [List.map_cons, List.sum_cons, List.length_cons, List.length_map, List.length_take, show (blank : Str).length = 1 from by decide +kernel, show ("fares" : Str).length = 5 from by decide +kernel] at z
      omega
    refine for_tup (K := K) (a := q) (xs := fs.map V.int) (fun i σ H2 => H2 = H ∧ ∃ v, σ = [some (.ref p), some (.str (Txt.join blank (("fares" : Str) :: (fs.take i).map nS))), v])
      ⟨rfl, none, by rw [List.take_zero] <;> rfl⟩ (fun i σ H2 _ hP => by rw [hP.1]; exact SqT.of hq) (fun i x σ H2 hx hP => ?_) (fun σ H2 hP => ?_)
    · obtain ⟨rfl, v, rfl⟩ := hP
      obtain ⟨hi, rfl⟩ := map_at hx 0
      have b := fA _ (getD_mem0 hi)
      have l1 : (nS (fs.getD i 0)).length ≤ 2 := nS_len (by omega) (by decide) (by omega)
      have l2 := wl i (by omega)
      have c1 : (" " : Str).length = 1 := by decide +kernel
      refine ⟨_, rfl, _, _, rfl, rfl, by rw [c1, sizeLine_eq]; omega, _, rfl, _, rfl, log2_small (by omega) (by omega), _, _, rfl, rfl, by rw [TL.len_tl, TL.tl_append, List.length_append, ← TL.len_tl, ← TL.len_tl, c1, sizeLine_eq]; show _ + 1 + (nS (fs.getD i 0)).length ≤ _; omega, rfl, some (.int (fs.getD i 0)), ?_⟩
      have e : fs.take (i + 1) = fs.take i ++ [fs.getD i 0] := by
        rw [List.getD_eq_getElem?_getD, List.take_succ, List.getElem?_eq_getElem hi] <;> rfl
      rw [e, List.map_append, List.map_cons, List.map_nil, ← List.cons_append, join_snoc]
      rfl
    · obtain ⟨rfl, v, rfl⟩ := hP
      rw [List.length_map, List.take_length]
      have l0 := wl fs.length (Nat.le_refl _)
      rw [List.take_length] at l0
      have l1 : (nS sv).length ≤ 1 := nS_len (by omega) (by decide) (by omega)
      have c1 : ("seats " : Str).length = 6 := by decide +kernel
      have c2 : ("\n" : Str).length = 1 := by decide +kernel
      refine ⟨_, rfl, p, _, _, _, rfl, rfl, SqT.of hp, atI_nat (j := 0) rfl, _, rfl, log2_small (by omega) (by omega), _, _, rfl, rfl, by rw [c1, sizeLine_eq]; show 6 + (nS sv).length ≤ _; omega, _, _, rfl, rfl, ?_, _, rfl, _, _, rfl, rfl, ?_, ?_⟩
      · rw [TL.len_tl, TL.tl_append, List.length_append, ← TL.len_tl, ← TL.len_tl, c1, c2, sizeLine_eq]
        show 6 + (nS sv).length + 1 ≤ _
        omega
      · rw [TL.len_tl, TL.tl_append, TL.tl_append, List.length_append, List.length_append, ← TL.len_tl, ← TL.len_tl, ← TL.len_tl, c1, c2, sizeLine_eq]
        show 6 + (nS sv).length + 1 + _ ≤ _
        omega
      · have e : hallText sv fs = "seats " ++ nS sv ++ "\n" ++ Txt.join blank (("fares" : Str) :: fs.map nS) := by
          unfold hallText
          have z := join_snoc blank "seats" [] (nS sv)
          have z2 : Txt.join blank [("seats" : Str)] = "seats" := by rw [TL.join_eq] <;> rfl
          rw [List.cons_append, List.nil_append, z2] at z
          rw [z]
          rfl
        rw [e] at k
        exact k
end
end K94
/-! _law_is_number, _law_line_wrong. -/
namespace K94
open PySem PySem.Spec PyProof.Rows L2
abbrev sLNum : Stmt := top 40
abbrev sWrong : Stmt := top 42
theorem scLNum : FnScope ["_law_word", "_law_sign"] ["_law_word"] (defScope sLNum) := ⟨rfl, rfl, rfl, by decide +kernel, rfl, by decide +kernel, by decide +kernel⟩
theorem scWrong : FnScope ["_law_words", "_law_head", "_law_most", "_law_k"] ["_law_words", "_law_head", "_law_most"] (defScope sWrong) := ⟨rfl, rfl, rfl, by decide +kernel, rfl, by decide +kernel, by decide +kernel⟩
theorem made_filter {α : Type} (p : α → Bool) (g : α → V) (xs : List α) (d : α) : made (fun i => p (xs.getD i d)) (fun i => g (xs.getD i d)) xs.length = (xs.filter p).map g := by
  have e : (List.range xs.length).map (fun i => xs.getD i d) = xs := by
    refine List.ext_getElem (by simp) fun i h1 h2 => ?_
    simp only [List.length_map, List.length_range] at h1
    simp [h1]
  have e2 : (xs.filter p).map g = (((List.range xs.length).map (fun i => xs.getD i d)).filter p).map g := by rw [e]
  rw [e2, List.filter_map, List.map_map]
  rfl
theorem dp_strs {K : PySem.W.Frag} {H : Hp} : ∀ gs : List Str, DpAll K H (gs.map V.str) (gs.map PyData.str)
  | [] => .nil
  | g :: r => .cons (.str g) (dp_strs r)
def spLNum : Sp := fun vs H Q _ => ∃ z : Str, vs = [.str z] ∧ z.length ≤ 1000000 ∧ Asc z ∧ ∀ H', Same H H' → Q (.bl (isNum z)) H'
def optV : Option Nat → V
  | some k => .int (k : Nat)
  | none => .non
def spWrong : Sp := fun vs H Q _ => ∃ (a : Addr) (ws : List Str) (hd : Str) (most : Nat), vs = [.ref a, .str hd, .int most] ∧ H a = some (.lst (ws.map V.str)) ∧ ws.length ≤ 1000000 ∧ 1 ≤ ws.length ∧ (∀ k, (ws.getD k Str.empty).length ≤ 1000000 ∧ Asc (ws.getD k Str.empty)) ∧ ∀ H', Same H H' → Q (optV (lineWrong ws hd most)) H'
section
variable {w : World} {K : PySem.W.Frag} {mg : Str → Option Value} {base : Heap}
theorem ok_lnum {f : Addr} {fd : FuncData} (F : Fun K "_law_is_number" "_law_is_number" sLNum f fd) (B : Bn mg) : FnOk P0 w K mg base CX0 1 f fd ["_law_word"] spLNum := by
  refine F.ok scLNum (fun vs H Q E h => ?_) (fun cdv A outer s H vs Q E hr h => ?_)
  · obtain ⟨_, rfl, _⟩ := h
    rfl
  · obtain ⟨z, rfl, hz, hA, k⟩ := h
    refine ⟨_, pss_cons (ps_if (PW.pt (pw_or (pt_not (pt_chain op_le op_le pe_int (pe_callB call_len_str (by rfl) B.len (by decide +kernel) (pa_cons (pv 0) pa_nil)) pe_int))
        (pw_or1 (pt_cmpR (op_neD hr.units) (pe_lc (own := [("_law_sign", 1)]) (g := gName 1) rfl scLNum.nd (pi_str (pv 0)) (blkOk_by (own := [("_law_sign", 1)]) (N := ["_law_word", "_law_sign"]) (sc := defScope sLNum) (by decide +kernel)) (fun _ _ _ _ _ => pg_name (i := 1) scLNum.nd rfl (Or.inl rfl)) (fun _ _ _ _ _ => pts_one (pt_cmpR op_notIn_sign (pv 1) pe_str rfl))
          (fun _ _ _ _ _ => pv 1)) (pe_lst pa_nil) (nomark _))))) (pss_one (ps_ret pe_bl)) pss_nil)
      (pss_one (ps_ret (pe_or (pe_cmpR op_eq (pv 0) pe_str (nomark _)) (pe_one (pe_cmpR op_ne (pe_ix ix_str (pv 0) pe_int (fun _ _ => rfl)) pe_str (nomark _)))))), ?_⟩
    refine ⟨_, rfl, _, rfl, by rw [sizeLine_eq]; omega, _, _, rfl, rfl, _, rfl, ifB (fun e1 => ?_) (fun e1 => ?_)⟩
    case refine_2 =>
      have e : isNum z = false := by unfold isNum; rw [e1]; rfl
      refine ⟨_, rfl, iteT ?_⟩
      have q := k H (Same.refl H)
      rw [e] at q
      exact q
    refine ⟨_, _, rfl, rfl, _, rfl, ifN (fun e2 => ?_) (fun e2 => ?_)⟩
    · have e : isNum z = false := by unfold isNum; rw [e2, Bool.and_false]; rfl
      have q := k H (Same.refl H)
      rw [e] at q
      exact q
    refine ⟨_, rfl, _, rfl, fun D hD => ?_⟩
    have lz : z.cps.size = z.cps.toList.length := by simp
    have hl : z.cps.size ≤ 1000000 := hz
    refine lc_fm walk_str (fun i => !sigB (z.cps.toList.getD i 0)) (fun i => .str ⟨#[z.cps.toList.getD i 0]⟩) hD (by rw [sizeLine_eq]; omega) (fun H' s' => trivial) (fun i x H1 H2 Nx hi s1 hacc y hT hF => ?_) (fun H1 s1 hD1 => ?_)
    · obtain ⟨rfl, c, hc, rfl⟩ := y
      have ec : z.cps.toList.getD i 0 = c := by
        rw [List.getD_eq_getElem?_getD, Array.getElem?_toList, hc] <;> rfl
      rw [ec] at hT hF
      refine ⟨rfl, _, rfl, c, figs, rfl, rfl, _, rfl, ifN (fun e => ?_) (fun e => ?_)⟩
      · exact ⟨_, rfl, hT (by unfold sigB; rw [e]; rfl) _ (Same.refl _)⟩
      · exact hF (by unfold sigB; rw [e]; rfl) _ (Same.refl _)
    have em : made (fun i => !sigB (z.cps.toList.getD i 0)) (fun i => V.str ⟨#[z.cps.toList.getD i 0]⟩) z.cps.size = ((z.cps.toList.filter fun c => !sigB c).map fun c => (⟨#[c]⟩ : Str)).map V.str := by
      rw [lz, made_filter (fun c => !sigB c) (fun c => V.str ⟨#[c]⟩) z.cps.toList 0, List.map_map] <;> rfl
    rw [em] at hD1
    refine ⟨by show 0 ≤ sizeLine; decide, fun p np => ?_⟩
    have s2 : Same H1 (upd H1 p (.lst [])) := sNew np
    refine ⟨.list (((z.cps.toList.filter fun c => !sigB c).map fun c => (⟨#[c]⟩ : Str)).map PyData.str), .list [], .lst (SqL.of (s2 _ _ hD1)) (dp_strs _), .lst (SqL.of upd_same) .nil, shaped_flat fun d hd => ?_, rfl, _, rfl, ?_⟩
    · obtain ⟨y, hy, rfl⟩ := List.mem_map.mp hd
      obtain ⟨c, hc, rfl⟩ := List.mem_map.mp hy
      have q := hA c (List.mem_filter.mp hc).1
      refine ⟨?_, rfl⟩
      show (#[c] : Array Nat).all (· < 0x110000) = true
      simp
      omega
    have s12 := s1.trans s2
    generalize upd H1 p (.lst []) = H2 at s12 ⊢
    rw [eqv_nil]
    have ea : (((z.cps.toList.filter fun c => !sigB c).map fun c => (⟨#[c]⟩ : Str)).map PyData.str).isEmpty = z.cps.toList.all sigB := by
      cases e : z.cps.toList.all sigB with
      | true =>
        have f0 : (z.cps.toList.filter fun c => !sigB c) = [] := List.filter_eq_nil_iff.mpr fun c hc => by
          rw [List.all_eq_true.mp e c hc]; decide
        rw [f0]; rfl
      | false =>
        cases f0 : (z.cps.toList.filter fun c => !sigB c) with
        | nil =>
          exfalso
          have q := List.filter_eq_nil_iff.mp f0
          have z2 : z.cps.toList.all sigB = true := List.all_eq_true.mpr fun c hc => by
            have r := q c hc
            simpa using r
          rw [z2] at e
          cases e
        | cons a b => rfl
    rw [ea]
    refine ifN (fun e3 => ?_) (fun e3 => ?_)
    · have e : isNum z = false := by unfold isNum; rw [e3, Bool.and_false]; rfl
      have q := k H2 s12
      rw [e] at q
      exact q
    have l1 : 1 ≤ z.length := by
      have q := of_decide_eq_true e1
      omega
    have h0 : z.cps.toList[0]? = some (z.cps.getD 0 0) := by
      have q : 0 < z.cps.size := l1
      rw [Array.getElem?_toList]
      simp [q]
    have en : isNum z = (!decide (sign0 z = "0") || decide (z = "0")) := by unfold isNum; rw [e1, e2, e3]; rfl
    have q := k H2 s12
    rw [en] at q
    refine ⟨_, rfl, rfl, _, rfl, ?_⟩
    have ed2 : decide (V.str z = V.str "0") = decide (z = "0") := dec_str
    rw [ed2]
    cases e4 : decide (z = "0") with
    | true =>
      rw [e4, Bool.or_true] at q
      exact iteT q
    | false =>
      rw [e4, Bool.or_false] at q
      have ed : decide (V.str ⟨#[z.cps.getD 0 0]⟩ = V.str "0") = decide (sign0 z = "0") := dec_str
      refine iteF ⟨_, rfl, z, _, _, rfl, rfl, by rw [sizeLine_eq]; omega, atI_nat (j := 0) h0, rfl, ?_⟩
      rw [ed]
      exact q
theorem ok_wrong {f fN : Addr} {fd fdN : FuncData} (F : Fun K "_law_line_wrong" "_law_line_wrong" sWrong f fd) (B : Bn mg) (FN : Fun K "_law_is_number" "_law_is_number" sLNum fN fdN) (gN : mg "_law_is_number" = some (.ref fN)) : FnOk P0 w K mg base CX0 2 f fd ["_law_words", "_law_head", "_law_most"] spWrong := by
  have GN : FnOk P0 w K mg base CX0 1 fN fdN ["_law_word"] spLNum := ok_lnum FN B
  have bN := FN.binds (ps := ["_law_word"]) fun _ _ _ _ _ _ us hl => match us, hl with | [_], _ => rfl
  refine F.ok scWrong (fun vs H Q E h => ?_) (fun cdv A outer s H vs Q E hr h => ?_)
  · obtain ⟨_, _, _, _, rfl, _⟩ := h
    rfl
  · obtain ⟨a, ws, hd, most, rfl, ha, hl, h1, hw, k⟩ := h
    refine ⟨_, pss_cons (ps_if (pt_cmpR op_ne (pe_ix ix_list (pv 0) pe_int (fun _ _ => rfl)) (pv 1) (nomark _)) (pss_one (ps_ret pe_int)) pss_nil)
      (pss_cons (ps_for PassesOwn.never rfl (pi_range2 (by rfl) B.range (pa_cons pe_int (pa_cons (pe_callB call_len_seq (by rfl) B.len (by decide +kernel) (pa_cons (pv 0) pa_nil)) pa_nil))) (pg_name (i := 3) scWrong.nd rfl (Or.inl rfl))
        (pss_one (ps_if (PW.pt (pw_or (pt_cmpR op_gt (pv 3) (pv 2) (nomark _)) (pw_or1 (pt_not (pt_val (pe_call GN hr rfl gN FN.kp bN .nil pass0 (pa_cons (pe_ix ix_list (pv 0) (pv 3) (fun _ _ => rfl)) pa_nil)))))))
          (pss_one (ps_ret (pv 3))) pss_nil)))
      (pss_one (ps_ret (pe_ifExp (pt_cmpR op_lt (pe_callB call_len_seq (by rfl) B.len (by decide +kernel) (pa_cons (pv 0) pa_nil)) pe_int (nomark _)) pe_int pe_non)))), ?_⟩
    have el : ((ws.map V.str).length : Int) = (ws.length : Int) := by rw [List.length_map]
    have hx0 : (ws.map V.str)[0]? = some (V.str (ws.getD 0 Str.empty)) := by
      rw [List.getElem?_map, List.getD_eq_getElem?_getD, List.getElem?_eq_getElem (by omega : 0 < ws.length)] <;> rfl
    refine ⟨_, rfl, a, _, _, _, rfl, rfl, SqL.of ha, atI_nat (j := 0) hx0, _, rfl, rfl, _, rfl, ?_⟩
    rw [dec_str]
    refine ifN (fun e2 => ?_) (fun e2 => ?_)
    · have q2 := of_decide_eq_false e2
      have q := k H (Same.refl H)
      unfold lineWrong at q
      rw [if_neg q2] at q
      exact q
    have q2 := of_decide_eq_true e2
    have k' : ∀ H', Same H H' → Q (optV (tailWrong ws most)) H' := fun H' s' => by
      have q := k H' s'
      unfold lineWrong at q
      rw [if_pos q2] at q
      exact q
    refine ⟨_, rfl, a, _, rfl, .inl (SqL.of ha), 1, _, rfl, ⟨by decide, by decide, by omega, by rw [el]; omega⟩, ?_⟩
    refine for_range (lo := 1) (n := ((ws.map V.str).length - 1 : Int).toNat) (fun i σ H2 => Same H H2 ∧ (∃ v, σ = [some (.ref a), some (.str hd), some (.int most), v]) ∧ ∀ j, 1 ≤ j → j < i + 1 → badAt ws most j = false)
      ⟨Same.refl H, ⟨none, rfl⟩, fun j h1 h2 => by omega⟩ (fun i σ H2 hi hP => ?_) (fun σ H2 hP => ?_)
    · obtain ⟨s2, ⟨v, rfl⟩, hb⟩ := hP
      have hi2 : i + 1 < ws.length := by
        rw [List.length_map] at hi
        omega
      have e1 : (1 : Int) + (i : Int) = ((i + 1 : Nat) : Int) := by omega
      have a2 := s2 _ _ ha
      have hx : (ws.map V.str)[i + 1]? = some (V.str (ws.getD (i + 1) Str.empty)) := by
        rw [List.getElem?_map, List.getD_eq_getElem?_getD, List.getElem?_eq_getElem hi2] <;> rfl
      have bad : badAt ws most (i + 1) = true → ∀ H3, Same H H3 → Q (.int (1 + (i : Int))) H3 := fun hbad H3 s3 => by
        have f1 := find_step (p := badAt ws most) (n := ws.length - 1) (i := i + 1) (by omega) (by omega) hb hbad
        have et : tailWrong ws most = some (i + 1) := by unfold tailWrong; rw [f1]
        have q := k' H3 s3
        rw [et] at q
        rw [e1]
        exact q
      refine ⟨_, rfl, _, rfl, _, _, rfl, rfl, _, rfl, ifB (fun e => ?_) (fun e => ?_)⟩
      · refine iteT ⟨_, rfl, bad ?_ H2 s2⟩
        have q := of_decide_eq_true e
        unfold badAt
        rw [decide_eq_true (show most < i + 1 by omega)]
        rfl
      · have q := of_decide_eq_false e
        refine ⟨_, rfl, _, rfl, a, _, _, _, rfl, rfl, SqL.of a2, by rw [e1]; exact atI_nat hx, _, rfl, (hw _).1, (hw _).2, fun H3 s3 => ⟨_, rfl, ifN (fun e2 => ?_) (fun e2 => ?_)⟩⟩
        · refine ⟨_, rfl, bad ?_ H3 (s2.trans s3)⟩
          unfold badAt
          rw [e2, Bool.not_false, Bool.or_true]
        · refine ⟨s2.trans s3, ⟨_, rfl⟩, fun j h1 h2 => ?_⟩
          by_cases hj : j < i + 1
          · exact hb j h1 hj
          · have ej : j = i + 1 := by omega
            subst ej
            unfold badAt
            rw [e2, decide_eq_false (show ¬ most < i + 1 by omega)]
            rfl
    · obtain ⟨s2, ⟨v, rfl⟩, hb⟩ := hP
      have a2 := s2 _ _ ha
      have f1 : (List.range' 1 (ws.length - 1)).find? (badAt ws most) = none := find_end fun j h1 h2 => hb j h1 (by rw [List.length_map]; omega)
      have q := k' H2 s2
      refine ⟨_, rfl, a, _, rfl, .inl (SqL.of a2), _, _, rfl, rfl, _, rfl, ifB (fun e => ?_) (fun e => ?_)⟩
      · have q2 := of_decide_eq_true e
        rw [el] at q2
        have et : tailWrong ws most = some ws.length := by
          unfold tailWrong
          rw [f1]
          exact if_pos (by omega)
        have e1 : ws.length = 1 := by omega
        rw [et, e1] at q
        exact q
      · have q2 := of_decide_eq_false e
        rw [el] at q2
        have et : tailWrong ws most = none := by
          unfold tailWrong
          rw [f1]
          exact if_neg (by omega)
        rw [et] at q
        exact q
end
end K94
/-! _law_read. -/
namespace K94
open PySem PySem.Spec PyProof.Rows L2
abbrev sLRead : Stmt := top 43
abbrev nLRead : List Str := ["_law_sheet", "_law_rows", "_law_k", "_law_wrong", "_law_many", "_law_fares_so", "_law_line", "_law_word", "_law_one"]
theorem scLRead : FnScope nLRead ["_law_sheet"] (defScope sLRead) := ⟨rfl, rfl, rfl, by decide +kernel, rfl, by decide +kernel, by decide +kernel⟩
/-- what is told of a text, as data -/
def tellD : Out → PyData
  | .hall s fs => .list [.tuple [.int s, .tuple (fs.map PyData.int)]]
  | .text l w => .tuple [.str "text", .int (l : Nat), .int (w : Nat)]
  | .bad p => .tuple [.str "hall", .str p]
def spLRead (K : PySem.W.Frag) : Sp := fun vs H Q _ => ∃ z : Str, vs = [.str z] ∧ z.length ≤ 900000 ∧ Asc z ∧ ∀ (p : Addr) H', Same H H' → H p = none → Dp K H' (.ref p) (tellD (outOf (rowsOf z))) → Q (.ref p) H'
theorem ix_tupK {X : Cx} {K : PySem.W.Frag} (e : X.K = K) : IxR X (rIxT K) := by
  subst e
  exact ix_tup
theorem filter_empty {α : Type} (p : α → Bool) (f : α → PyData) (xs : List α) : ((xs.filter fun x => !p x).map f).isEmpty = xs.all p := by
  cases e : xs.all p with
  | true =>
    have f0 : (xs.filter fun x => !p x) = [] := List.filter_eq_nil_iff.mpr fun c hc => by
      rw [List.all_eq_true.mp e c hc]; decide
    rw [f0]; rfl
  | false =>
    cases f0 : (xs.filter fun x => !p x) with
    | nil =>
      exfalso
      have q := List.filter_eq_nil_iff.mp f0
      have z2 : xs.all p = true := List.all_eq_true.mpr fun c hc => by
        have r := q c hc
        simpa using r
      rw [z2] at e
      cases e
    | cons a b => rfl
section
variable {w : World} {K : PySem.W.Frag} {mg : Str → Option Value} {base : Heap}
theorem ok_lread {f fW fN : Addr} {fd fdW fdN : FuncData} (F : Fun K "_law_read" "_law_read" sLRead f fd) (B : Bn mg) (FW : Fun K "_law_line_wrong" "_law_line_wrong" sWrong fW fdW) (gW : mg "_law_line_wrong" = some (.ref fW)) (FN : Fun K "_law_is_number" "_law_is_number" sLNum fN fdN) (gN : mg "_law_is_number" = some (.ref fN)) :
    FnOk P0 w K mg base CX0 3 f fd ["_law_sheet"] (spLRead K) := by
  have GW : FnOk P0 w K mg base CX0 2 fW fdW ["_law_words", "_law_head", "_law_most"] spWrong := ok_wrong FW B FN gN
  have bW := FW.binds (ps := ["_law_words", "_law_head", "_law_most"]) fun _ _ _ _ _ _ us hl => match us, hl with | [_, _, _], _ => rfl
  refine F.ok scLRead (fun vs H Q E h => ?_) (fun cdv A outer s H vs Q E hr h => ?_)
  · obtain ⟨_, rfl, _⟩ := h
    rfl
  · obtain ⟨z, rfl, hz, hA, k⟩ := h
    refine ⟨_, pss_cons (ps_setLc (i := 1) (own := [("_law_line", 6)]) (g := gName 6) (tt := tYes) rfl scLRead.nd rfl rfl (sw_true rfl rfl rfl (by decide +kernel)) (pi_list (pe_split (pv 0) pe_str)) (blkOk_by (own := [("_law_line", 6)]) (N := nLRead) (sc := defScope sLRead) (by decide +kernel)) (fun _ _ _ _ _ => pg_name (i := 6) scLRead.nd rfl (Or.inl rfl)) (fun _ _ _ _ _ => pts_nil)
        (fun _ _ _ _ _ => pe_split (pv 6) pe_str))
      (pss_cons (ps_for PassesOwn.never rfl (pi_range1 (by rfl) B.range (pa_cons (pe_callB (call_min2 rfl) (by rfl) B.min (by decide +kernel) (pa_cons pe_int (pa_cons (pe_callB call_len_seq (by rfl) B.len (by decide +kernel) (pa_cons (pv 1) pa_nil)) pa_nil))) pa_nil)) (pg_name (i := 2) scLRead.nd rfl (Or.inl rfl))
        (pss_cons (ps_set (i := 3) scLRead.nd rfl (Or.inl rfl) (pe_call GW (hr.mono (by decide)) rfl gW FW.kp bW .nil pass0 (pa_cons (pe_ix ix_list (pv 1) (pv 2) (fun _ _ => rfl)) (pa_cons (pe_ix ix_list (pe_lst (pa_cons pe_str (pa_cons pe_str pa_nil))) (pv 2) (fun _ _ => rfl)) (pa_cons (pe_ix ix_list (pe_lst (pa_cons pe_int (pa_cons pe_int pa_nil))) (pv 2) (fun _ _ => rfl)) pa_nil)))))
        (pss_one (ps_if (pt_cmpR op_notN (pv 3) pe_non (nomark _)) (pss_one (ps_ret (pe_tup (pa_cons pe_str (pa_cons (pv 2) (pa_cons (pv 3) pa_nil)))))) pss_nil))))
      (pss_cons (ps_if (pt_cmpR op_ne (pe_callB call_len_seq (by rfl) B.len (by decide +kernel) (pa_cons (pv 1) pa_nil)) pe_int (nomark _))
        (pss_one (ps_ret (pe_tup (pa_cons pe_str (pa_cons (pe_ifExp (pt_cmpR op_lt (pe_callB call_len_seq (by rfl) B.len (by decide +kernel) (pa_cons (pv 1) pa_nil)) pe_int (nomark _)) pe_int pe_int) (pa_cons pe_int pa_nil)))))) pss_nil)
      (pss_cons (ps_asg (pe_tup (pa_cons (pe_callTy call_int_str (by rfl) B.int (by decide +kernel) (pa_cons (pe_ix ix_list (pe_ix ix_list (pv 1) pe_int (fun _ _ => rfl)) pe_int (fun _ _ => rfl)) pa_nil))
          (pa_cons (pe_callTy call_tuple_of (by rfl) B.tuple (by decide +kernel) (pa_cons (pe_lc (own := [("_law_word", 7)]) (g := gName 7) (tt := tYes) rfl scLRead.nd (pi_list (pe_slice sl_list (pe_ix ix_list (pv 1) pe_int (fun _ _ => rfl)) (po_some pe_int) po_none)) (blkOk_by (own := [("_law_word", 7)]) (N := nLRead) (sc := defScope sLRead) (by decide +kernel)) (fun _ _ _ _ _ => pg_name (i := 7) scLRead.nd rfl (Or.inl rfl)) (fun _ _ _ _ _ => pts_nil)
            (fun _ _ _ _ _ => pe_callTy call_int_str (by rfl) B.int (by decide +kernel) (pa_cons (pv 7) pa_nil))) pa_nil)) pa_nil)))
          (pg_tup rfl (pgs_cons (pg_name (i := 4) scLRead.nd rfl (Or.inl rfl)) (pgs_cons (pg_name (i := 5) scLRead.nd rfl (Or.inr rfl)) pgs_nil))))
      (pss_cons (ps_if (pt_not (pt_chain op_le op_le pe_int (pv 4) pe_int)) (pss_one (ps_ret (pe_tup (pa_cons pe_str (pa_cons pe_str pa_nil))))) pss_nil)
      (pss_cons (ps_if (pt_cmpR (op_neD hr.units) (pe_lc (own := [("_law_one", 8)]) (g := gName 8) rfl scLRead.nd (pi_tup (pv 5)) (blkOk_by (own := [("_law_one", 8)]) (N := nLRead) (sc := defScope sLRead) (by decide +kernel)) (fun _ _ _ _ _ => pg_name (i := 8) scLRead.nd rfl (Or.inl rfl)) (fun _ _ _ _ _ => pts_one (pt_not (pt_chain op_le op_le pe_int (pv 8) pe_int)))
          (fun _ _ _ _ _ => pv 8)) (pe_lst pa_nil) (nomark _)) (pss_one (ps_ret (pe_tup (pa_cons pe_str (pa_cons pe_str pa_nil))))) pss_nil)
      (pss_cons (ps_if (pt_cmpR (op_neD hr.units) (pe_lc (own := [("_law_k", 2)]) (g := gName 2) rfl scLRead.nd (pi_range2 (by rfl) B.range (pa_cons pe_int (pa_cons (pe_callB call_len_seq (by rfl) B.len (by decide +kernel) (pa_cons (pv 5) pa_nil)) pa_nil))) (blkOk_by (own := [("_law_k", 2)]) (N := nLRead) (sc := defScope sLRead) (by decide +kernel)) (fun _ _ _ _ _ => pg_name (i := 2) scLRead.nd rfl (Or.inl rfl)) (fun _ _ _ _ _ => pts_one (pt_cmpR op_ge (pe_ix (ix_tupK (K := K) rfl) (pv 5) (pe_op op_sub (pv 2) pe_int) (fun _ _ => rfl)) (pe_ix (ix_tupK (K := K) rfl) (pv 5) (pv 2) (fun _ _ => rfl)) (nomark _)))
          (fun _ _ _ _ _ => pv 2)) (pe_lst pa_nil) (nomark _)) (pss_one (ps_ret (pe_tup (pa_cons pe_str (pa_cons pe_str pa_nil))))) pss_nil)
      (pss_one (ps_ret (pe_lst (pa_cons (pe_tup (pa_cons (pv 4) (pa_cons (pv 5) pa_nil))) pa_nil)))))))))), ?_⟩
    refine ⟨_, rfl, ⟨_, rfl⟩, z, lf, rfl, rfl, by decide +kernel, by rw [sizeLine_eq]; omega, fun L hL => ⟨L, rfl, ⟨_, SqL.of upd_same⟩, fun D hD => ?_⟩⟩
    refine lc_rows (K := K) (t := z) (by omega) upd_same hD (fun _ => rfl) (fun _ => rfl) (fun H1 as s1' h1 R => ?_)
    have s1 : Same H H1 := (sNew hL).trans s1'
    have rl : (rowsOf z).length ≤ z.length + 1 := by rw [rows_len]; exact (lines_len z).2
    have r1 : 1 ≤ (rowsOf z).length := by rw [rows_len]; exact (lines_len z).1
    have al := R.len
    have el : ((as.map V.ref).length : Int) = ((rowsOf z).length : Int) := by rw [List.length_map, al]
    have tell : ∀ (H' : Hp) (p : Addr) (d : PyData), Same H1 H' → H1 p = none → outOf (rowsOf z) = outOf (rowsOf z) → Dp K H' (.ref p) (tellD (outOf (rowsOf z))) → Q (.ref p) H' := fun H' p d s' n _ hd => k p H' (s1.trans s') (s1.free n) hd
    refine ⟨_, rfl, D, _, rfl, .inl (SqL.of h1), _, _, rfl, ?_⟩
    have emin : (if ((as.map V.ref).length : Int) < 2 then ((as.map V.ref).length : Int) else 2) = ((min 2 (rowsOf z).length : Nat) : Int) := by
      rw [el]
      split <;> omega
    rw [emin]
    refine ⟨_, rfl, by omega, by omega, ?_⟩
    refine for_range (lo := 0) (n := ((min 2 (rowsOf z).length : Nat) : Int).toNat) (fun i σ H2 => Same H1 H2 ∧ (∃ v2 v3 v6, σ = [some (.str z), some (.ref D), v2, v3, none, none, v6, none, none]) ∧ ∀ j, j < i → rowWrong (rowsOf z) j (hdOf j) (moOf j) = none)
      ⟨Same.refl _, ⟨none, none, none, rfl⟩, fun j hj => absurd hj (Nat.not_lt_zero _)⟩ (fun i σ H2 hi hP => ?_) (fun σ H2 hP => ?_)
    · obtain ⟨s2, ⟨v2, v3, v6, rfl⟩, hb⟩ := hP
      have hi2 : i < 2 := by omega
      have hil : i < (rowsOf z).length := by omega
      have h2 := s2 _ _ h1
      obtain ⟨ai, g1, g2⟩ := (R.same s2).at_ i hil
      obtain ⟨f1, f2, f3⟩ := row_facts hil
      have fA := row_asc hA hil
      have hxi : (as.map V.ref)[i]? = some (V.ref ai) := by rw [List.getElem?_map, g1] <;> rfl
      have e0 : (0 : Int) + (i : Int) = ((i : Nat) : Int) := by omega
      refine ⟨_, rfl, _, rfl, D, _, _, _, rfl, rfl, SqL.of h2, by rw [e0]; exact atI_nat hxi, ?_⟩
      refine ⟨by show 2 ≤ sizeLine; decide, fun l1 n1 => ?_⟩
      have s3 : Same H2 (upd H2 l1 (.lst [.str "seats", .str "fares"])) := sNew n1
      have k1 := upd_same (H := H2) (a := l1) (o := .lst [.str "seats", .str "fares"])
      generalize upd H2 l1 (.lst [.str "seats", .str "fares"]) = H3 at *
      have c1 : atI [V.str "seats", V.str "fares"] (0 + (i : Int)) = some (V.str (hdOf i)) := by
        have e : i = 0 ∨ i = 1 := by omega
        rcases e with rfl | rfl <;> rfl
      have c2 : atI [V.int 1, V.int 4] (0 + (i : Int)) = some (V.int (moOf i)) := by
        have e : i = 0 ∨ i = 1 := by omega
        rcases e with rfl | rfl <;> rfl
      refine ⟨_, rfl, l1, _, _, _, rfl, rfl, SqL.of k1, c1, by show 2 ≤ sizeLine; decide, fun l2 n2 => ?_⟩
      have s4 : Same H3 (upd H3 l2 (.lst [.int 1, .int 4])) := sNew n2
      have k2 := upd_same (H := H3) (a := l2) (o := .lst [.int 1, .int 4])
      generalize upd H3 l2 (.lst [.int 1, .int 4]) = H4 at *
      refine ⟨_, rfl, l2, _, _, _, rfl, rfl, SqL.of k2, c2, ?_⟩
      refine ⟨ai, (rowsOf z).getD i [], hdOf i, moOf i, rfl, s4 _ _ (s3 _ _ g2), by omega, f1, fun k => ⟨Nat.le_trans (f3 k) (by omega), fA k⟩, fun H5 s5 => ?_⟩
      have s15 : Same H1 H5 := s2.trans (s3.trans (s4.trans s5))
      have hrw : rowWrong (rowsOf z) i (hdOf i) (moOf i) = lineWrong ((rowsOf z).getD i []) (hdOf i) (moOf i) := by
        unfold rowWrong
        rw [if_pos hil]
      cases et : lineWrong ((rowsOf z).getD i []) (hdOf i) (moOf i) with
      | some x =>
        refine ⟨_, rfl, rfl, _, rfl, iteT ⟨_, rfl, _, rfl, by show 3 ≤ sizeLine; decide, fun p np => ?_⟩⟩
        have ho := out_at hi2 hb (hrw.trans et)
        refine k p _ (s1.trans (s15.trans (sNew np))) ((s1.trans s15).free np) ?_
        rw [ho]
        refine .tup (SqT.of upd_same) (.cons (.str _) (.cons ?_ (.cons (.int _) .nil)))
        rw [e0]
        exact .int _
      | none =>
        refine ⟨_, rfl, rfl, _, rfl, iteF ⟨s15, ⟨_, _, _, rfl⟩, fun j hj => ?_⟩⟩
        by_cases hji : j < i
        · exact hb j hji
        · have ej : j = i := by omega
          rw [ej, hrw]
          exact et
    · obtain ⟨s2, ⟨v2, v3, v6, rfl⟩, hb0⟩ := hP
      have hb : ∀ j, j < 2 → rowWrong (rowsOf z) j (hdOf j) (moOf j) = none := fun j hj => by
        by_cases hjl : j < (rowsOf z).length
        · exact hb0 j (by omega)
        · unfold rowWrong
          exact if_neg hjl
      have ho := out_end (rs := rowsOf z) hb
      have h2 := s2 _ _ h1
      have R2 := R.same s2
      have s02 := s1.trans s2
      refine ⟨_, rfl, D, _, rfl, .inl (SqL.of h2), rfl, _, rfl, ifN (fun e => ?_) (fun e => ?_)⟩
      · have hne : (rowsOf z).length ≠ 2 := fun e3 => by
          rw [el, e3] at e
          revert e
          decide
        refine ⟨_, rfl, D, _, rfl, .inl (SqL.of h2), _, _, rfl, rfl, _, rfl, ifB (fun e4 => ?_) (fun e4 => ?_)⟩
        · have q := of_decide_eq_true e4
          rw [el] at q
          have e1 : (rowsOf z).length = 1 := by omega
          rw [if_pos (by omega), e1] at ho
          refine ⟨by show 3 ≤ sizeLine; decide, fun p np => k p _ (s02.trans (sNew np)) (s02.free np) ?_⟩
          rw [ho]
          exact .tup (SqT.of upd_same) (.cons (.str _) (.cons (.int _) (.cons (.int _) .nil)))
        · have q := of_decide_eq_false e4
          rw [el] at q
          rw [if_neg (by omega), if_pos (by omega)] at ho
          refine ⟨by show 3 ≤ sizeLine; decide, fun p np => k p _ (s02.trans (sNew np)) (s02.free np) ?_⟩
          rw [ho]
          exact .tup (SqT.of upd_same) (.cons (.str _) (.cons (.int _) (.cons (.int _) .nil)))
      have hl2 : (rowsOf z).length = 2 := by
        by_cases e3 : (rowsOf z).length = 2
        · exact e3
        · exfalso
          have q := of_decide_eq_true e
          injection q with q
          omega
      rw [if_neg (by omega), if_neg (by omega)] at ho
      have t0 := row_good (rs := rowsOf z) (i := 0) (by omega) (hb 0 (by omega))
      have t1 := row_good (rs := rowsOf z) (i := 1) (by omega) (hb 1 (by omega))
      obtain ⟨a0, g0, f0⟩ := R2.at_ 0 (by omega)
      obtain ⟨a1, g1, f1⟩ := R2.at_ 1 (by omega)
      obtain ⟨u1, u2, u3⟩ := tailWrong_none t0
      obtain ⟨w1, w2, w3⟩ := tailWrong_none t1
      generalize (rowsOf z).getD 0 [] = r0 at *
      generalize (rowsOf z).getD 1 [] = r1 at *
      have hx0 : (as.map V.ref)[0]? = some (V.ref a0) := by rw [List.getElem?_map, g0] <;> rfl
      have hx1 : (as.map V.ref)[1]? = some (V.ref a1) := by rw [List.getElem?_map, g1] <;> rfl
      have hy0 : (r0.map V.str)[1]? = some (V.str (r0.getD 1 Str.empty)) := by
        rw [List.getElem?_map, List.getD_eq_getElem?_getD, List.getElem?_eq_getElem (by omega : 1 < r0.length)] <;> rfl
      obtain ⟨n0, n1⟩ := isNum_int (u3 1 (by omega) (by omega))
      refine ⟨_, rfl, D, _, _, _, rfl, rfl, SqL.of h2, atI_nat (j := 0) hx0, a0, _, _, _, rfl, rfl, SqL.of f0, atI_nat (j := 1) hy0, _, _, rfl, n0, n1, ?_⟩
      refine ⟨_, rfl, D, _, _, _, rfl, rfl, SqL.of h2, atI_nat (j := 1) hx1, 1, rfl, a1, _, rfl, SqL.of f1, fun pS nS => ?_⟩
      have eS : cutV (r1.map V.str) (some 1) none = (r1.drop 1).map V.str := by
        unfold cutV
        have e : HT.sIx (r1.map V.str).length 0 (some 1) = min 1 (r1.map V.str).length := HT.sIx_nat _ _ 1
        rw [e, HT.sIx_none, List.length_map, Nat.min_eq_left (by omega), List.take_of_length_le (by simp), List.map_drop]
      rw [eS]
      have s5 : Same H2 (upd H2 pS (.lst ((r1.drop 1).map V.str))) := sNew nS
      have hS : (upd H2 pS (.lst ((r1.drop 1).map V.str))) pS = some (.lst ((r1.drop 1).map V.str)) := upd_same
      generalize upd H2 pS (.lst ((r1.drop 1).map V.str)) = H5 at s5 hS ⊢
      refine ⟨pS, rfl, ⟨_, SqL.of hS⟩, fun D7 hD7 => ?_⟩
      have wl : r1.length ≤ 5 := by unfold moOf at w2; split at w2 <;> omega
      refine lc_mp (walk_list (xs := (r1.drop 1).map V.str) (K := K) (a := pS)) (fun i => .int (numOf ((r1.drop 1).getD i Str.empty))) hD7 (by rw [List.length_map, List.length_drop, sizeLine_eq]; omega) (fun H' s' => SqL.of (s' _ _ hS)) (fun i x H6 H7 Nx hi s6 hacc y hT => ?_) gName_mono (fun H6 s6 hD6 => ?_)
      · obtain ⟨rfl, hx⟩ := y
        obtain ⟨hi2, rfl⟩ := map_at hx Str.empty
        have ed : (r1.drop 1).getD i Str.empty = r1.getD (i + 1) Str.empty := by
          rw [List.getD_eq_getElem?_getD, List.getD_eq_getElem?_getD, List.getElem?_drop, Nat.add_comm]
        rw [ed] at hT ⊢
        rw [List.length_drop] at hi2
        obtain ⟨n2, n3⟩ := isNum_int (w3 (i + 1) (by omega) (by omega))
        exact ⟨rfl, _, rfl, _, _, rfl, n2, n3, hT _ (Same.refl _)⟩
      have em : made (fun _ => true) (fun i => V.int (numOf ((r1.drop 1).getD i Str.empty))) ((r1.drop 1).map V.str).length = ((r1.drop 1).map numOf).map V.int := by
        rw [List.length_map, made_map (fun x => V.int (numOf x)) (r1.drop 1) Str.empty, List.map_map] <;> rfl
      rw [em] at hD6
      have lf : 1 ≤ ((r1.drop 1).map numOf).length ∧ ((r1.drop 1).map numOf).length ≤ 4 := by rw [List.length_map, List.length_drop]; omega
      generalize numOf (r0.getD 1 Str.empty) = sv at *
      generalize (r1.drop 1).map numOf = fs at *
      refine ⟨D7, _, rfl, .inl ⟨SqL.of hD6, fun q nq => ⟨by show 2 ≤ sizeLine; decide, fun P nP => ?_⟩⟩⟩
      have hq := (sNew nP (o := .tup [.int sv, .ref q])) _ _ (upd_same (H := H6) (a := q) (o := .tup (fs.map V.int)))
      have s8 : Same H6 (upd (upd H6 q (.tup (fs.map V.int))) P (.tup [.int sv, .ref q])) := (sNew nq).trans (sNew nP)
      have hP : (upd (upd H6 q (.tup (fs.map V.int))) P (.tup [.int sv, .ref q])) P = some (.tup [.int sv, .ref q]) := upd_same
      refine ⟨P, _, rfl, SqT.of hP, rfl, _, _, rfl, _, _, rfl, rfl, ?_⟩
      generalize (upd (upd H6 q (.tup (fs.map V.int))) P (.tup [.int sv, .ref q])) = H8 at *
      have s08 : Same H H8 := s02.trans (s5.trans (s6.trans s8))
      have bad : ∀ (m : Str) (H9 : Hp), outOf (rowsOf z) = .bad m → Same H H9 → ∀ p, H9 p = none → Q (.ref p) (upd H9 p (.tup [.str "hall", .str m])) := fun m H9 e9 s9 p np => by
        refine k p _ (s9.trans (sNew np)) (s9.free np) ?_
        rw [e9]
        exact .tup (SqT.of upd_same) (.cons (.str _) (.cons (.str _) .nil))
      refine ⟨_, rfl, _, _, rfl, rfl, _, rfl, ifB (fun e1 => ?_) (fun e1 => ?_)⟩
      case refine_2 =>
        have e : inB 1 6 sv = false := by unfold inB; rw [e1, Bool.false_and]
        exact ⟨_, rfl, iteT ⟨by show 2 ≤ sizeLine; decide, bad _ H8 (ho.trans (hallOut_seats e)) s08⟩⟩
      refine ⟨_, _, rfl, rfl, _, rfl, ifN (fun e2 => ?_) (fun e2 => ?_)⟩
      · have e : inB 1 6 sv = false := by unfold inB; rw [e2, Bool.and_false]
        exact ⟨by show 2 ≤ sizeLine; decide, bad _ H8 (ho.trans (hallOut_seats e)) s08⟩
      have hs : inB 1 6 sv = true := by unfold inB; rw [e1, e2]; rfl
      have hlen : inB 1 4 (fs.length : Int) = true := by
        unfold inB
        rw [decide_eq_true (show (1 : Int) ≤ (fs.length : Int) by omega), decide_eq_true (show (fs.length : Int) ≤ 4 by omega)]; rfl
      -- each fare
      refine ⟨_, rfl, q, rfl, ⟨_, SqT.of hq⟩, fun D9 hD9 => ?_⟩
      refine lc_fm (walk_tup (xs := fs.map V.int) (K := K) (a := q)) (fun i => !inB 1 99 (fs.getD i 0)) (fun i => .int (fs.getD i 0)) hD9 (by rw [List.length_map, sizeLine_eq]; omega) (fun H' s' => sTup s' (SqT.of hq)) (fun i x HA HB Nx hi sA hacc y hT hF => ?_) (fun H9 s9 hL9 => ?_)
      · obtain ⟨rfl, hx⟩ := y
        obtain ⟨hi2, rfl⟩ := map_at hx 0
        refine ⟨rfl, _, rfl, _, _, rfl, rfl, _, rfl, ifB (fun e3 => ?_) (fun e3 => ?_)⟩
        · refine ⟨_, _, rfl, rfl, _, rfl, ifN (fun e4 => ?_) (fun e4 => ?_)⟩
          · exact ⟨_, rfl, hT (by unfold inB; rw [e4, Bool.and_false]; rfl) _ (Same.refl _)⟩
          · exact hF (by unfold inB; rw [e3, e4]; rfl) _ (Same.refl _)
        · exact ⟨_, rfl, _, rfl, hT (by unfold inB; rw [e3, Bool.false_and]; rfl) _ (Same.refl _)⟩
      have em2 : made (fun i => !inB 1 99 (fs.getD i 0)) (fun i => V.int (fs.getD i 0)) (fs.map V.int).length = (fs.filter fun x => !inB 1 99 x).map V.int := by
        rw [List.length_map, made_filter (fun x => !inB 1 99 x) V.int fs 0]
      rw [em2] at hL9
      refine ⟨by show 0 ≤ sizeLine; decide, fun pA nA => ?_⟩
      have sA : Same H9 (upd H9 pA (.lst [])) := sNew nA
      refine ⟨.list ((fs.filter fun x => !inB 1 99 x).map PyData.int), .list [], .lst (SqL.of (sA _ _ hL9)) (dp_ints _), .lst (SqL.of upd_same) .nil, shaped_ints _, rfl, _, rfl, ?_⟩
      have s8A : Same H8 (upd H9 pA (.lst [])) := s9.trans sA
      generalize upd H9 pA (.lst []) = HA at *
      rw [eqv_nil, filter_empty]
      refine ifN (fun e3 => ?_) (fun e3 => ?_)
      · exact ⟨by show 2 ≤ sizeLine; decide, bad _ HA (ho.trans (hallOut_all hs hlen e3)) (s08.trans s8A)⟩
      have hqA := s8A _ _ hq
      -- each pair
      refine ⟨_, rfl, q, _, rfl, .inr (SqT.of hqA), 1, _, rfl, ⟨by decide, by decide, by rw [List.length_map]; omega, by rw [List.length_map]; omega⟩, fun DB hDB => ?_⟩
      have en : (((fs.map V.int).length : Int) - 1).toNat = fs.length - 1 := by rw [List.length_map]; omega
      rw [en]
      refine lc_fm (walk_range (lo := 1) (n := fs.length - 1)) (fun i => !decide (fs.getD i 0 < fs.getD (i + 1) 0)) (fun i => .int (1 + (i : Int))) hDB (by rw [sizeLine_eq]; omega) (fun _ _ => trivial) (fun i x HB HC Nx hi sB hacc y hT hF => ?_) (fun HB sB hLB => ?_)
      · obtain ⟨rfl, rfl⟩ := y
        have hqC := sB _ _ hqA
        have i1 : (0 : Int) ≤ 1 + (i : Int) - 1 ∧ 1 + (i : Int) - 1 < fs.length := by omega
        have i2 : (0 : Int) ≤ 1 + (i : Int) ∧ 1 + (i : Int) < fs.length := by omega
        have t1 : (1 + (i : Int) - 1).toNat = i := by omega
        have t2 : (1 + (i : Int)).toNat = i + 1 := by omega
        have a1 := intAt i1.1 i1.2
        have a2 := intAt i2.1 i2.2
        rw [t1] at a1
        rw [t2] at a2
        refine ⟨rfl, _, rfl, _, rfl, _, _, rfl, rfl, q, _, _, _, rfl, rfl, SqT.of hqC, a1, _, rfl, _, rfl, q, _, _, _, rfl, rfl, SqT.of hqC, a2, _, _, rfl, rfl, _, rfl, ifB (fun e4 => ?_) (fun e4 => ?_)⟩
        · have q4 := of_decide_eq_true e4
          exact ⟨_, rfl, hT (by rw [decide_eq_false (by omega)]; rfl) _ (Same.refl _)⟩
        · have q4 := of_decide_eq_false e4
          exact hF (by rw [decide_eq_true (by omega)]; rfl) _ (Same.refl _)
      have em3 : made (fun i => !decide (fs.getD i 0 < fs.getD (i + 1) 0)) (fun i => V.int (1 + (i : Int))) (fs.length - 1) = (((List.range (fs.length - 1)).filter fun i => !decide (fs.getD i 0 < fs.getD (i + 1) 0)).map fun i : Nat => 1 + (i : Int)).map V.int := by
        unfold made
        rw [List.map_map] <;> rfl
      rw [em3] at hLB
      refine ⟨by show 0 ≤ sizeLine; decide, fun pC nC => ?_⟩
      have sC : Same HB (upd HB pC (.lst [])) := sNew nC
      refine ⟨.list ((((List.range (fs.length - 1)).filter fun i => !decide (fs.getD i 0 < fs.getD (i + 1) 0)).map fun i : Nat => 1 + (i : Int)).map PyData.int), .list [], .lst (SqL.of (sC _ _ hLB)) (dp_ints _), .lst (SqL.of upd_same) .nil, shaped_ints _, rfl, _, rfl, ?_⟩
      have s8C : Same H8 (upd HB pC (.lst [])) := s8A.trans (sB.trans sC)
      generalize upd HB pC (.lst []) = HC at *
      rw [eqv_nil, List.map_map, filter_empty]
      refine ifN (fun e4 => ?_) (fun e4 => ?_)
      · exact ⟨by show 2 ≤ sizeLine; decide, bad _ HC (ho.trans (hallOut_asc hs hlen e3 e4)) (s08.trans s8C)⟩
      have hqC := s8C _ _ hq
      refine ⟨_, rfl, _, rfl, by show 2 ≤ sizeLine; decide, fun t nt => ⟨by show 1 ≤ sizeLine; decide, fun p np => ?_⟩⟩
      have sD : Same HC (upd HC t (.tup [.int sv, .ref q])) := sNew nt
      have s0C : Same H HC := s08.trans s8C
      refine k p _ (s0C.trans (sD.trans (sNew np))) ((s0C.trans sD).free np) ?_
      rw [ho.trans (hallOut_yes hs hlen e3 e4)]
      exact .lst (SqL.of upd_same) (.cons (.tup (SqT.of (sNew np _ _ upd_same)) (.cons (.int _) (.cons (.tup (SqT.of (sNew np _ _ (sD _ _ hqC))) (dp_ints _)) .nil))) .nil)
end
end K94
/-! _law_bent. -/
namespace K94
open PySem PySem.Spec PyProof.Rows L2
abbrev sBent : Stmt := top 39
theorem scBent : FnScope ["_law_m", "_law_text_here", "_law_signs", "_law_spot", "_law_pick", "_law_sign", "_law_rows", "_law_k"] ["_law_m", "_law_text_here", "_law_signs"] (defScope sBent) := ⟨rfl, rfl, rfl, by decide +kernel, rfl, by decide +kernel, by decide +kernel⟩
/-- the parts of a text and what parts them are no longer than it -/
theorem spl_sum (S : List Nat) : ∀ (l : List Nat) (k : Nat) (acc : List Nat), ((TL.spl S k acc l).map (·.length)).sum + (TL.spl S k acc l).length ≤ acc.length + l.length + 1
  | [], k, acc => by rw [TL.spl_nil]; simp
  | c :: r, k + 1, acc => by
    have q := TL.spl_pass S (k + 1) acc (c :: r)
    rw [q]
    have e : (c :: r).drop (k + 1) = r.drop k := rfl
    rw [e]
    have z := spl_sum S (r.drop k) 0 acc
    have l : (r.drop k).length ≤ r.length := by simp
    simp only [List.length_cons]
    omega
  | c :: r, 0, acc => by
    cases h : TL.pre S (c :: r) with
    | true =>
      rw [TL.spl_hit h]
      have z := spl_sum S r (S.length - 1) []
      simp only [List.length_cons, List.map_cons, List.sum_cons, List.length_nil] at z ⊢
      omega
    | false =>
      rw [TL.spl_miss h]
      have z := spl_sum S r 0 (acc ++ [c])
      simp only [List.length_cons, List.length_append, List.length_nil] at z ⊢
      omega
  termination_by l => l.length
  decreasing_by all_goals (simp only [List.length_cons, List.length_drop]; omega)
theorem lines_sum (t : Str) : ((Txt.split t lf).map (·.length)).sum + (Txt.split t lf).length ≤ t.length + 1 := by
  have e := TL.split_spl t lf (by decide +kernel) (TL.kind_ok (by decide +kernel))
  have z := spl_sum (TL.tl lf) (TL.tl t) 0 []
  rw [← e] at z
  rw [List.length_map, List.map_map] at z
  have e2 : (Txt.split t lf).map ((fun x : List Nat => x.length) ∘ TL.tl) = (Txt.split t lf).map (·.length) := List.map_congr_left fun x _ => (TL.len_tl x).symm
  rw [e2, List.length_nil, ← TL.len_tl] at z
  omega
theorem cut_to {rs : List Str} {k : Nat} (h : k ≤ rs.length) : cutV (rs.map V.str) none (some (k : Int)) = (rs.take k).map V.str := by
  unfold cutV
  have e : HT.sIx (rs.map V.str).length (rs.map V.str).length (some (k : Int)) = min k (rs.map V.str).length := HT.sIx_nat _ _ k
  rw [HT.sIx_none, e, List.length_map, List.drop_zero, Nat.sub_zero, Nat.min_eq_left h, List.map_take]
theorem cut_from {rs : List Str} {k : Nat} (h : k ≤ rs.length) : cutV (rs.map V.str) (some (k : Int)) none = (rs.drop k).map V.str := by
  unfold cutV
  have e : HT.sIx (rs.map V.str).length 0 (some (k : Int)) = min k (rs.map V.str).length := HT.sIx_nat _ _ k
  rw [HT.sIx_none, e, List.length_map, Nat.min_eq_left h, List.take_of_length_le (by simp), List.map_drop]
theorem cut_mid {rs : List Str} {k : Nat} (h : k + 1 ≤ rs.length) : cutV (rs.map V.str) (some (k : Int)) (some ((k : Int) + 1)) = ((rs.drop k).take 1).map V.str := by
  unfold cutV
  have e : HT.sIx (rs.map V.str).length 0 (some (k : Int)) = min k (rs.map V.str).length := HT.sIx_nat _ _ k
  have e2 : HT.sIx (rs.map V.str).length (rs.map V.str).length (some (((k + 1 : Nat) : Int))) = min (k + 1) (rs.map V.str).length := HT.sIx_nat _ _ (k + 1)
  have e3 : ((k : Int) + 1) = ((k + 1 : Nat) : Int) := by omega
  rw [e3, e, e2, List.length_map, Nat.min_eq_left h, Nat.min_eq_left (by omega), List.map_take, List.map_drop, show k + 1 - k = 1 by omega]
abbrev signsT : Str := "0123456789 \nseatfr-"
def spBent : Sp := fun vs H Q _ => ∃ (m g : Addr) (n : Nat) (z : Str), vs = [.ref m, .str z, .str signsT] ∧ St H m g n ∧ n ≤ 900000 ∧ z.length ≤ 400000 ∧ Asc z ∧ ∀ (t : Str) H', t.length ≤ 2 * z.length + 2 → Asc t → St H' m g (n + 4) → ExtB m g H H' → Q (.str t) H'
section
variable {w : World} {K : PySem.W.Frag} {mg : Str → Option Value} {base : Heap}
theorem ok_bent {f fD fM : Addr} {fd fdD fdM : FuncData} (F : Fun K "_law_bent" "_law_bent" sBent f fd) (B : Bn mg) (FD : Fun K "_law_draw" "_law_draw" sDraw fD fdD) (gD : mg "_law_draw" = some (.ref fD)) (FM : Fun K "_law_mixed" "_law_mixed" sMixed fM fdM) (gM : mg "_law_mixed" = some (.ref fM)) :
    FnOk P0 w K mg base CX0 3 f fd ["_law_m", "_law_text_here", "_law_signs"] spBent := by
  have GD : FnOk P0 w K mg base CX0 2 fD fdD ["_law_m", "_law_limit"] spDraw := ok_draw FD B FM gM
  have bD := FD.binds (ps := ["_law_m", "_law_limit"]) fun _ _ _ _ _ _ us hl => match us, hl with | [_, _], _ => rfl
  refine F.ok scBent (fun vs H Q E h => ?_) (fun cdv A outer s H vs Q E hr h => ?_)
  · obtain ⟨_, _, _, _, rfl, _⟩ := h
    rfl
  · obtain ⟨m, g, n, z, rfl, hS, hn, hz, hA, k⟩ := h
    refine ⟨_, pss_cons (ps_par (i := 3) (j := 4) (by rfl) scBent.nd rfl rfl (by decide) rfl rfl (pa_cons (pe_call GD hr rfl gD FD.kp bD .nil pass0 (pa_cons (pv 0) (pa_cons (pe_op op_add (pe_callB call_len_str (by rfl) B.len (by decide +kernel) (pa_cons (pv 1) pa_nil)) pe_int) pa_nil))) (pa_cons (pe_call GD hr rfl gD FD.kp bD .nil pass0 (pa_cons (pv 0) (pa_cons pe_int pa_nil))) pa_nil)) (by rfl))
      (pss_cons (ps_set (i := 5) scBent.nd rfl (Or.inl rfl) (pe_ix ix_str (pv 2) (pe_call GD hr rfl gD FD.kp bD .nil pass0 (pa_cons (pv 0) (pa_cons (pe_callB call_len_str (by rfl) B.len (by decide +kernel) (pa_cons (pv 2) pa_nil)) pa_nil))) (fun _ _ => rfl)))
      (pss_cons (ps_if (pt_cmpR op_eq (pv 4) pe_int (nomark _)) (pss_one (ps_ret (pe_op op_add_str (pe_op op_add_str (pe_slice sl_str (pv 1) po_none (po_some (pv 3))) (pv 5)) (pe_slice sl_str (pv 1) (po_some (pv 3)) po_none)))) pss_nil)
      (pss_cons (ps_if (pt_cmpR op_eq (pv 4) pe_int (nomark _)) (pss_one (ps_ret (pe_op op_add_str (pe_slice sl_str (pv 1) po_none (po_some (pv 3))) (pe_slice sl_str (pv 1) (po_some (pe_op op_add (pv 3) pe_int)) po_none)))) pss_nil)
      (pss_cons (ps_if (pt_cmpR op_eq (pv 4) pe_int (nomark _)) (pss_one (ps_ret (pe_op op_add_str (pe_op op_add_str (pe_slice sl_str (pv 1) po_none (po_some (pv 3))) (pv 5)) (pe_slice sl_str (pv 1) (po_some (pe_op op_add (pv 3) pe_int)) po_none)))) pss_nil)
      (pss_cons (ps_set (i := 6) scBent.nd rfl (Or.inl rfl) (pe_split (pv 1) pe_str))
      (pss_cons (ps_set (i := 7) scBent.nd rfl (Or.inl rfl) (pe_call GD hr rfl gD FD.kp bD .nil pass0 (pa_cons (pv 0) (pa_cons (pe_callB call_len_seq (by rfl) B.len (by decide +kernel) (pa_cons (pv 6) pa_nil)) pa_nil))))
      (pss_one (ps_ret (pe_ifExp (pt_cmpR op_eq (pv 4) pe_int (nomark _))
        (pe_join pe_str (pe_op op_cat (pe_op op_cat (pe_slice sl_list (pv 6) po_none (po_some (pv 7))) (pe_slice sl_list (pv 6) (po_some (pv 7)) (po_some (pe_op op_add (pv 7) pe_int)))) (pe_slice sl_list (pv 6) (po_some (pv 7)) po_none)))
        (pe_join pe_str (pe_op op_cat (pe_slice sl_list (pv 6) po_none (po_some (pv 7))) (pe_slice sl_list (pv 6) (po_some (pe_op op_add (pv 7) pe_int)) po_none)))))))))))), ?_⟩
    have zL : z.length ≤ sizeLine := by rw [sizeLine_eq]; omega
    refine ⟨_, rfl, _, rfl, _, rfl, zL, _, _, rfl, rfl, m, g, n, _, rfl, ⟨by omega, by omega⟩, hS, by omega, fun r1 H1 r10 r11 S1 x1 => ?_⟩
    refine ⟨_, rfl, m, g, _, 5, rfl, ⟨by decide, by decide⟩, S1, by omega, fun r2 H2 r20 r21 S2 x2 => ?_⟩
    refine ⟨_, _, rfl, ?_⟩
    have sgl : signsT.length = 19 := by decide +kernel
    have sgs : signsT.cps.toList.length = 19 := by decide +kernel
    have sga : ∀ c ∈ signsT.cps.toList, c < 128 := by decide +kernel
    refine ⟨_, rfl, _, rfl, _, rfl, _, rfl, by rw [sgl, sizeLine_eq]; decide, m, g, _, _, rfl, ⟨by rw [sgl]; decide, by rw [sgl]; decide⟩, S2, by omega, fun r3 H3 r30 r31 S3 x3 => ?_⟩
    rw [sgl] at r31
    obtain ⟨j, rfl⟩ := Int.eq_ofNat_of_zero_le r30
    have hj : j < signsT.cps.toList.length := by omega
    have hc : signsT.cps.toList[j]? = some signsT.cps.toList[j] := List.getElem?_eq_getElem hj
    have cA := sga _ (List.getElem_mem hj)
    refine ⟨_, _, _, rfl, rfl, by rw [sgl, sizeLine_eq]; decide, atI_nat hc, ?_⟩
    generalize signsT.cps.toList[j] = c at *
    have x03 : ExtB m g H H3 := x1.trans (x2.trans x3)
    have fin : ∀ t : Str, t.length ≤ 2 * z.length + 2 → Asc t → Q (.str t) H3 := fun t h1 h2 => k t H3 h1 h2 (S3.mono (by omega)) x03
    have sA : Asc (⟨#[c]⟩ : Str) := fun d hd => by
      have hd' : d ∈ [c] := hd
      rw [List.mem_singleton.mp hd']
      exact cA
    have sl : (⟨#[c]⟩ : Str).length = 1 := rfl
    have la : ∀ x y : Str, (x ++ y).length = x.length + y.length := fun x y => by rw [TL.len_tl, TL.tl_append, List.length_append, ← TL.len_tl, ← TL.len_tl]
    have cl := cut_len z
    refine ⟨_, rfl, rfl, _, rfl, ifB (fun e1 => ?_) (fun e1 => ?_)⟩
    · have c1 := cl none (some r1)
      have c2 := cl (some r1) none
      refine ⟨_, rfl, _, rfl, _, rfl, z, rfl, zL, _, rfl, _, _, rfl, rfl, by rw [sl, sizeLine_eq]; omega, _, rfl, _, rfl, _, rfl, z, rfl, zL, _, _, rfl, rfl, by rw [la, sl, sizeLine_eq]; omega, fin _ (by rw [la, la, sl]; omega) (((cut_asc hA _ _).app sA).app (cut_asc hA _ _))⟩
    refine ⟨_, rfl, rfl, _, rfl, ifB (fun e2 => ?_) (fun e2 => ?_)⟩
    · have c1 := cl none (some r1)
      have c2 := cl (some (r1 + 1)) none
      refine ⟨_, rfl, _, rfl, _, rfl, z, rfl, zL, _, rfl, _, rfl, _, _, rfl, rfl, _, rfl, z, rfl, zL, _, _, rfl, rfl, by rw [sizeLine_eq]; omega, fin _ (by rw [la]; omega) ((cut_asc hA _ _).app (cut_asc hA _ _))⟩
    refine ⟨_, rfl, rfl, _, rfl, ifB (fun e3 => ?_) (fun e3 => ?_)⟩
    · have c1 := cl none (some r1)
      have c2 := cl (some (r1 + 1)) none
      refine ⟨_, rfl, _, rfl, _, rfl, z, rfl, zL, _, rfl, _, _, rfl, rfl, by rw [sl, sizeLine_eq]; omega, _, rfl, _, rfl, _, _, rfl, rfl, _, rfl, z, rfl, zL, _, _, rfl, rfl, by rw [la, sl, sizeLine_eq]; omega, fin _ (by rw [la, la, sl]; omega) (((cut_asc hA _ _).app sA).app (cut_asc hA _ _))⟩
    refine ⟨_, rfl, ⟨_, rfl⟩, z, lf, rfl, rfl, by decide +kernel, by rw [sizeLine_eq]; omega, fun L hL => ?_⟩
    have s4 : Same H3 (upd H3 L (.lst ((Txt.split z lf).map V.str))) := sNew hL
    have hL4 := upd_same (H := H3) (a := L) (o := .lst ((Txt.split z lf).map V.str))
    generalize upd H3 L (.lst ((Txt.split z lf).map V.str)) = H4 at *
    have ll := lines_len z
    have lsum := lines_sum z
    have lA := line_asc hA
    have lle : ∀ l ∈ Txt.split z lf, l.length ≤ z.length := fun l hl => line_le hl
    have el : ((Txt.split z lf).map V.str).length = (Txt.split z lf).length := List.length_map ..
    refine ⟨_, rfl, _, rfl, L, _, rfl, .inl (SqL.of hL4), m, g, _, _, rfl, ⟨by rw [el]; omega, by rw [el]; omega⟩, S3.same s4, by omega, fun r5 H5 r50 r51 S5 x5 => ?_⟩
    rw [el] at r51
    obtain ⟨k5, rfl⟩ := Int.eq_ofNat_of_zero_le r50
    have hL5 := x5.at_new S3 hL hL4
    generalize Txt.split z lf = rs at *
    have x05 : ExtB m g H H5 := x03.trans ((ExtB.of s4).trans x5)
    have fin5 : ∀ (t : Str) H', Same H5 H' → t.length ≤ 2 * z.length + 2 → Asc t → Q (.str t) H' := fun t H' s' h1 h2 => k t H' h1 h2 (S5.same s') (x05.trans (ExtB.of s'))
    have kl : k5 + 1 ≤ rs.length := by omega
    have rz : rs.length ≤ 1000000 := by omega
    have lfl : ("\n" : Str).length = 1 := by decide +kernel
    have sumT : ((rs.take k5).map (·.length)).sum + ((rs.drop k5).map (·.length)).sum = (rs.map (·.length)).sum := by
      rw [← List.sum_append, ← List.map_append, List.take_append_drop]
    have asT : ∀ p ∈ rs.take k5, Asc p := fun p hp => lA p (List.mem_of_mem_take hp)
    have asD : ∀ (j : Nat), ∀ p ∈ rs.drop j, Asc p := fun j p hp => lA p (List.mem_of_mem_drop hp)
    have lA2 : Asc ("\n" : Str) := by
      intro d hd
      have hd' : d ∈ [10] := hd
      rw [List.mem_singleton.mp hd']
      decide
    refine ⟨_, rfl, rfl, _, rfl, ifB (fun e4 => ?_) (fun e4 => ?_)⟩
    · refine ⟨⟨_, rfl⟩, _, rfl, _, rfl, _, rfl, L, _, rfl, SqL.of hL5, fun p1 n1 => ?_⟩
      rw [cut_to (by omega : k5 ≤ rs.length)]
      have t1 : Same H5 (upd H5 p1 (.lst ((rs.take k5).map V.str))) := sNew n1
      have h1 := upd_same (H := H5) (a := p1) (o := .lst ((rs.take k5).map V.str))
      generalize upd H5 p1 (.lst ((rs.take k5).map V.str)) = H6 at *
      refine ⟨_, rfl, _, rfl, _, rfl, _, rfl, _, _, rfl, rfl, _, rfl, L, _, rfl, SqL.of (t1 _ _ hL5), fun p2 n2 => ?_⟩
      rw [cut_mid kl]
      have t2 : Same H6 (upd H6 p2 (.lst (((rs.drop k5).take 1).map V.str))) := sNew n2
      have h2 := upd_same (H := H6) (a := p2) (o := .lst (((rs.drop k5).take 1).map V.str))
      generalize upd H6 p2 (.lst (((rs.drop k5).take 1).map V.str)) = H7 at *
      have b1 : (rs.take k5).length ≤ rs.length := by simp; omega
      have b2 : ((rs.drop k5).take 1).length ≤ 1 := by simp; omega
      have b3 : (rs.drop k5).length ≤ rs.length := by simp
      have b4 : (rs.take k5).length + (rs.drop k5).length = rs.length := by rw [← List.length_append, List.take_append_drop]
      refine ⟨p1, p2, _, _, rfl, rfl, t2 _ _ h1, h2, by rw [List.length_map, List.length_map, sizeLine_eq]; omega, fun p3 n3 => ?_⟩
      rw [← List.map_append]
      have t3 : Same H7 (upd H7 p3 (.lst ((rs.take k5 ++ (rs.drop k5).take 1).map V.str))) := sNew n3
      have h3 := upd_same (H := H7) (a := p3) (o := .lst ((rs.take k5 ++ (rs.drop k5).take 1).map V.str))
      generalize upd H7 p3 (.lst ((rs.take k5 ++ (rs.drop k5).take 1).map V.str)) = H8 at *
      refine ⟨_, rfl, _, rfl, _, rfl, L, _, rfl, SqL.of (t3 _ _ (t2 _ _ (t1 _ _ hL5))), fun p4 n4 => ?_⟩
      rw [cut_from (by omega : k5 ≤ rs.length)]
      have t4 : Same H8 (upd H8 p4 (.lst ((rs.drop k5).map V.str))) := sNew n4
      have h4 := upd_same (H := H8) (a := p4) (o := .lst ((rs.drop k5).map V.str))
      generalize upd H8 p4 (.lst ((rs.drop k5).map V.str)) = H9 at *
      refine ⟨p3, p4, _, _, rfl, rfl, t4 _ _ h3, h4, by rw [List.length_map, List.length_map, List.length_append, sizeLine_eq]; omega, fun p5 n5 => ?_⟩
      rw [← List.map_append]
      have t5 : Same H9 (upd H9 p5 (.lst ((rs.take k5 ++ (rs.drop k5).take 1 ++ rs.drop k5).map V.str))) := sNew n5
      have h5 := upd_same (H := H9) (a := p5) (o := .lst ((rs.take k5 ++ (rs.drop k5).take 1 ++ rs.drop k5).map V.str))
      generalize upd H9 p5 (.lst ((rs.take k5 ++ (rs.drop k5).take 1 ++ rs.drop k5).map V.str)) = HA at *
      have mid : (((rs.drop k5).take 1).map (·.length)).sum ≤ z.length := by
        have q := sum_le (((rs.drop k5).take 1).map (·.length)) z.length (fun x hx => by
          obtain ⟨y, hy, rfl⟩ := List.mem_map.mp hx
          exact lle y (List.mem_of_mem_drop (List.mem_of_mem_take hy)))
        rw [List.length_map] at q
        have q2 : ((rs.drop k5).take 1).length * z.length ≤ 1 * z.length := Nat.mul_le_mul_right _ b2
        omega
      have tot : ((rs.take k5 ++ (rs.drop k5).take 1 ++ rs.drop k5).map (·.length)).sum + (rs.take k5 ++ (rs.drop k5).take 1 ++ rs.drop k5).length ≤ 2 * z.length + 2 := by
        rw [List.map_append, List.map_append, List.sum_append, List.sum_append, List.length_append, List.length_append]
        omega
      have jl := join_len "\n" (rs.take k5 ++ (rs.drop k5).take 1 ++ rs.drop k5)
      rw [lfl] at jl
      refine ⟨_, p5, _, rfl, rfl, .inl (SqL.of h5), by rw [lfl]; omega, fin5 _ _ (t1.trans (t2.trans (t3.trans (t4.trans t5)))) (by omega) (join_asc lA2 fun p hp => ?_)⟩
      rcases List.mem_append.mp hp with hp | hp
      · rcases List.mem_append.mp hp with hp | hp
        · exact asT p hp
        · exact asD _ p (List.mem_of_mem_take hp)
      · exact asD _ p hp
    · refine ⟨⟨_, rfl⟩, _, rfl, _, rfl, _, rfl, L, _, rfl, SqL.of hL5, fun p1 n1 => ?_⟩
      rw [cut_to (by omega : k5 ≤ rs.length)]
      have t1 : Same H5 (upd H5 p1 (.lst ((rs.take k5).map V.str))) := sNew n1
      have h1 := upd_same (H := H5) (a := p1) (o := .lst ((rs.take k5).map V.str))
      generalize upd H5 p1 (.lst ((rs.take k5).map V.str)) = H6 at *
      refine ⟨_, rfl, _, rfl, _, _, rfl, rfl, _, rfl, L, _, rfl, SqL.of (t1 _ _ hL5), fun p2 n2 => ?_⟩
      have e1 : ((k5 : Int) + 1) = ((k5 + 1 : Nat) : Int) := by omega
      rw [e1, cut_from kl]
      have t2 : Same H6 (upd H6 p2 (.lst ((rs.drop (k5 + 1)).map V.str))) := sNew n2
      have h2 := upd_same (H := H6) (a := p2) (o := .lst ((rs.drop (k5 + 1)).map V.str))
      generalize upd H6 p2 (.lst ((rs.drop (k5 + 1)).map V.str)) = H7 at *
      have b1 : (rs.take k5).length ≤ k5 := by simp; omega
      have b2 : (rs.drop (k5 + 1)).length = rs.length - (k5 + 1) := by simp
      refine ⟨p1, p2, _, _, rfl, rfl, t2 _ _ h1, h2, by rw [List.length_map, List.length_map, sizeLine_eq]; omega, fun p3 n3 => ?_⟩
      rw [← List.map_append]
      have t3 : Same H7 (upd H7 p3 (.lst ((rs.take k5 ++ rs.drop (k5 + 1)).map V.str))) := sNew n3
      have h3 := upd_same (H := H7) (a := p3) (o := .lst ((rs.take k5 ++ rs.drop (k5 + 1)).map V.str))
      generalize upd H7 p3 (.lst ((rs.take k5 ++ rs.drop (k5 + 1)).map V.str)) = H8 at *
      have dsum : ((rs.drop (k5 + 1)).map (·.length)).sum ≤ ((rs.drop k5).map (·.length)).sum := by
        rw [List.drop_eq_getElem_cons (by omega : k5 < rs.length), List.map_cons, List.sum_cons]
        omega
      have tot : ((rs.take k5 ++ rs.drop (k5 + 1)).map (·.length)).sum + (rs.take k5 ++ rs.drop (k5 + 1)).length ≤ 2 * z.length + 2 := by
        rw [List.map_append, List.sum_append, List.length_append]
        omega
      have jl := join_len "\n" (rs.take k5 ++ rs.drop (k5 + 1))
      rw [lfl] at jl
      refine ⟨_, p3, _, rfl, rfl, .inl (SqL.of h3), by rw [lfl]; omega, fin5 _ _ (t1.trans (t2.trans t3)) (by omega) (join_asc lA2 fun p hp => ?_)⟩
      rcases List.mem_append.mp hp with hp | hp
      · exact asT p hp
      · exact asD _ p hp
end
end K94
/-! The plain law: a hall's text read is the hall; what is told of a text is small data. -/
namespace K94
open PySem PySem.Spec PyProof.Rows L2
/-! ### the text of a hall, read -/
theorem num99 : ∀ n : Nat, n < 100 → isNum (nS (n : Nat)) = true ∧ numOf (nS (n : Nat)) = (n : Nat) := by decide +kernel
theorem num_ok {x : Int} (h : 1 ≤ x ∧ x ≤ 99) : isNum (nS x) = true ∧ numOf (nS x) = x := by
  obtain ⟨n, rfl⟩ := Int.eq_ofNat_of_zero_le (show 0 ≤ x by omega)
  exact num99 n (by omega)
theorem nS_free {x : Int} {c : Nat} (h : 0 ≤ x) (k : c < 48 ∨ 57 < c) : c ∉ TL.tl (nS x) := by
  obtain ⟨n, rfl⟩ := Int.eq_ofNat_of_zero_le h
  rw [nS_tl]
  exact TL.numL_free k
theorem nS_asc {x : Int} (h : 0 ≤ x) : Asc (nS x) := fun c hc => by
  obtain ⟨n, rfl⟩ := Int.eq_ofNat_of_zero_le h
  have hc' : c ∈ TL.tl (nS (n : Int)) := hc
  rw [nS_tl] at hc'
  have z := TL.numL_digits n c hc'
  omega
theorem joinL_out {s : Nat} {S : List Nat} (hS : s ∉ S) : ∀ ps : List (List Nat), (∀ p ∈ ps, s ∉ p) → s ∉ TL.joinL S ps
  | [], _ => fun z => by cases z
  | [p], h => h p (List.mem_singleton.mpr rfl)
  | p :: q :: r, h => fun z => by
    have e : TL.joinL S (p :: q :: r) = p ++ (S ++ TL.joinL S (q :: r)) := by simp [TL.joinL]
    rw [e] at z
    rcases List.mem_append.mp z with z | z
    · exact h p (List.mem_cons_self ..) z
    · rcases List.mem_append.mp z with z | z
      · exact hS z
      · exact joinL_out hS (q :: r) (fun x hx => h x (List.mem_cons_of_mem _ hx)) z
theorem join_out {s : Nat} {y : Str} {ps : List Str} (hS : s ∉ TL.tl y) (h : ∀ p ∈ ps, s ∉ TL.tl p) : s ∉ TL.tl (Txt.join y ps) := by
  rw [TL.join_eq, TL.tl_join]
  refine joinL_out hS _ fun p hp => ?_
  obtain ⟨z, hz, rfl⟩ := List.mem_map.mp hp
  exact h z hz
theorem hallText_join (s : Int) (fs : List Int) : hallText s fs = Txt.join lf [Txt.join blank ["seats", nS s], Txt.join blank ("fares" :: fs.map nS)] := by
  rw [TL.join_eq lf] <;> rfl
theorem hall_rows {s : Int} {fs : List Int} (hs : 0 ≤ s) (hf : ∀ x ∈ fs, 0 ≤ x) : Txt.split (hallText s fs) lf = [Txt.join blank ["seats", nS s], Txt.join blank ("fares" :: fs.map nS)] ∧ rowsOf (hallText s fs) = [[("seats" : Str), nS s], ("fares" : Str) :: fs.map nS] := by
  have f10 : ∀ {x : Int}, 0 ≤ x → 10 ∉ TL.tl (nS x) := fun h => nS_free h (.inl (by omega))
  have f32 : ∀ {x : Int}, 0 ≤ x → 32 ∉ TL.tl (nS x) := fun h => nS_free h (.inl (by omega))
  have b10 : 10 ∉ TL.tl blank := by decide +kernel
  have s10 : 10 ∉ TL.tl "seats" := by decide +kernel
  have a10 : 10 ∉ TL.tl "fares" := by decide +kernel
  have s32 : 32 ∉ TL.tl "seats" := by decide +kernel
  have a32 : 32 ∉ TL.tl "fares" := by decide +kernel
  have e1 : Txt.split (hallText s fs) lf = [Txt.join blank ["seats", nS s], Txt.join blank ("fares" :: fs.map nS)] := by
    rw [hallText_join]
    refine TL.split_join (s := 10) (S := []) (by decide +kernel) (by decide +kernel) (by simp) fun p hp => ?_
    rcases List.mem_cons.mp hp with rfl | hp
    · refine join_out b10 fun q hq => ?_
      rcases List.mem_cons.mp hq with rfl | hq
      · exact s10
      · rw [List.mem_singleton.mp hq]
        exact f10 hs
    · rw [List.mem_singleton.mp hp]
      refine join_out b10 fun q hq => ?_
      rcases List.mem_cons.mp hq with rfl | hq
      · exact a10
      · obtain ⟨x, hx, rfl⟩ := List.mem_map.mp hq
        exact f10 (hf x hx)
  refine ⟨e1, ?_⟩
  unfold rowsOf
  rw [e1, List.map_cons, List.map_cons, List.map_nil]
  have e2 : Txt.split (Txt.join blank ["seats", nS s]) blank = [("seats" : Str), nS s] := by
    refine TL.split_join (s := 32) (S := []) (by decide +kernel) (by decide +kernel) (by simp) fun q hq => ?_
    rcases List.mem_cons.mp hq with rfl | hq
    · exact s32
    · rw [List.mem_singleton.mp hq]
      exact f32 hs
  have e3 : Txt.split (Txt.join blank ("fares" :: fs.map nS)) blank = ("fares" : Str) :: fs.map nS := by
    refine TL.split_join (s := 32) (S := []) (by decide +kernel) (by decide +kernel) (by simp) fun q hq => ?_
    rcases List.mem_cons.mp hq with rfl | hq
    · exact a32
    · obtain ⟨x, hx, rfl⟩ := List.mem_map.mp hq
      exact f32 (hf x hx)
  rw [e2, e3]
theorem tail_ok {h : Str} {ns : List Str} {most : Nat} (h1 : 1 ≤ ns.length) (h2 : ns.length ≤ most) (hn : ∀ x ∈ ns, isNum x = true) : tailWrong (h :: ns) most = none := by
  unfold tailWrong
  have f : (List.range' 1 ((h :: ns).length - 1)).find? (badAt (h :: ns) most) = none := find_end fun k k1 k2 => by
    rw [List.length_cons] at k2
    obtain ⟨j, rfl⟩ : ∃ j, k = j + 1 := ⟨k - 1, by omega⟩
    have hj : j < ns.length := by omega
    unfold badAt
    have e : (h :: ns).getD (j + 1) Str.empty = ns[j] := by
      rw [List.getD_eq_getElem?_getD, List.getElem?_cons_succ, List.getElem?_eq_getElem hj] <;> rfl
    rw [e, hn _ (List.getElem_mem hj), decide_eq_false (by omega)]
    rfl
  rw [f]
  exact if_neg (by rw [List.length_cons]; omega)
theorem read_text {s : Int} {fs : List Int} (h : hallOut s fs = .hall s fs) : outOf (rowsOf (hallText s fs)) = .hall s fs := by
  obtain ⟨fS, fL, fA, _, _⟩ := hall_facts h
  rw [(hall_rows (s := s) (fs := fs) (by omega) fun x hx => by have z := fA x hx; omega).2]
  have n0 := num_ok (x := s) ⟨by omega, by omega⟩
  have t0 : rowWrong [[("seats" : Str), nS s], ("fares" : Str) :: fs.map nS] 0 (hdOf 0) (moOf 0) = none := by
    unfold rowWrong lineWrong
    refine (if_pos (by simp)).trans ((if_pos rfl).trans (tail_ok (by simp) (by simp [moOf]) fun x hx => ?_))
    rw [List.mem_singleton.mp hx]
    exact n0.1
  have t1 : rowWrong [[("seats" : Str), nS s], ("fares" : Str) :: fs.map nS] 1 (hdOf 1) (moOf 1) = none := by
    unfold rowWrong lineWrong
    refine (if_pos (by simp)).trans ((if_pos rfl).trans (tail_ok (by simp; omega) (by simp [moOf]; omega) fun x hx => ?_))
    obtain ⟨y, hy, rfl⟩ := List.mem_map.mp hx
    exact (num_ok (fA y hy)).1
  have oe := out_end (rs := [[("seats" : Str), nS s], ("fares" : Str) :: fs.map nS]) fun j hj => by
    have e : j = 0 ∨ j = 1 := by omega
    rcases e with rfl | rfl
    · exact t0
    · exact t1
  rw [oe]
  refine (if_neg (by simp)).trans ((if_neg (by simp)).trans ?_)
  have eN : numOf (([[("seats" : Str), nS s], ("fares" : Str) :: fs.map nS].getD 0 []).getD 1 Str.empty) = s := n0.2
  have eF : (([[("seats" : Str), nS s], ("fares" : Str) :: fs.map nS].getD 1 []).drop 1).map numOf = fs := by
    show (fs.map nS).map numOf = fs
    rw [List.map_map]
    have e : fs.map (numOf ∘ nS) = fs.map id := List.map_congr_left fun x hx => (num_ok (fA x hx)).2
    rw [e, List.map_id]
  rw [eN, eF]
  exact h
theorem hallText_len {s : Int} {fs : List Int} (h : hallOut s fs = .hall s fs) : (hallText s fs).length ≤ 40 ∧ 1 ≤ (hallText s fs).length := by
  obtain ⟨fS, fL, fA, _, _⟩ := hall_facts h
  have e1 := join_len blank ["seats", nS s]
  have e2 := join_len blank (("fares" : Str) :: fs.map nS)
  have n1 : (nS s).length ≤ 1 := nS_len (by omega) (by decide) (by omega)
  have sm := sum_le ((fs.map nS).map (·.length)) 2 (fun x hx => by
    obtain ⟨y, hy, rfl⟩ := List.mem_map.mp hx
    obtain ⟨u, hu, rfl⟩ := List.mem_map.mp hy
    have b := fA u hu
    exact nS_len (by omega) (by decide) (by omega))
  have b1 : (blank : Str).length = 1 := by decide +kernel
  have l1 : (lf : Str).length = 1 := by decide +kernel
  have s5 : ("seats" : Str).length = 5 := by decide +kernel
  have a5 : ("fares" : Str).length = 5 := by decide +kernel
  have la : ∀ x y : Str, (x ++ y).length = x.length + y.length := fun x y => by rw [TL.len_tl, TL.tl_append, List.length_append, ← TL.len_tl, ← TL.len_tl]
  rw [List.length_map, List.length_map] at sm
  simp only [List.map_cons, List.map_nil, List.sum_cons, List.sum_nil, List.length_cons, List.length_nil, List.length_map, b1, s5, a5] at e1 e2 sm
  unfold hallText
  rw [la, la, l1]
  omega
theorem hallText_asc {s : Int} {fs : List Int} (h : hallOut s fs = .hall s fs) : Asc (hallText s fs) := by
  obtain ⟨fS, fL, fA, _, _⟩ := hall_facts h
  have b1 : Asc blank := by unfold Asc; decide +kernel
  have l1 : Asc lf := by unfold Asc; decide +kernel
  have s5 : Asc "seats" := by unfold Asc; decide +kernel
  have a5 : Asc "fares" := by unfold Asc; decide +kernel
  unfold hallText
  refine ((join_asc b1 fun p hp => ?_).app l1).app (join_asc b1 fun p hp => ?_)
  · rcases List.mem_cons.mp hp with rfl | hp
    · exact s5
    · rw [List.mem_singleton.mp hp]
      exact nS_asc (by omega)
  · rcases List.mem_cons.mp hp with rfl | hp
    · exact a5
    · obtain ⟨x, hx, rfl⟩ := List.mem_map.mp hp
      have z := fA x hx
      exact nS_asc (by omega)
/-! ### small data: its repr fits -/
structure OkD (w h : Nat) (d : PyData) : Prop where
  show_ : d.showable = true
  dict : d.hasDict = false
  short : d.leavesShort 13 = true
  wt : d.weight ≤ w
  dp : d.depth ≤ h
structure OkA (w h : Nat) (ds : List PyData) : Prop where
  show_ : PyData.showableAll ds = true
  dict : PyData.hasDictAll ds = false
  short : PyData.leavesShortAll 13 ds = true
  wt : PyData.weightAll ds ≤ w
  dp : PyData.depthAll ds ≤ h
theorem OkD.mono {w h w' h' : Nat} {d : PyData} (k : OkD w h d) (hw : w ≤ w') (hh : h ≤ h') : OkD w' h' d := ⟨k.show_, k.dict, k.short, Nat.le_trans k.wt hw, Nat.le_trans k.dp hh⟩
theorem OkA.nil {h : Nat} : OkA 0 h [] := ⟨rfl, rfl, rfl, Nat.le_refl _, Nat.zero_le _⟩
theorem OkA.cons {w1 w2 h : Nat} {d : PyData} {ds : List PyData} (a : OkD w1 h d) (b : OkA w2 h ds) : OkA (w1 + 1 + w2) h (d :: ds) := by
  refine ⟨?_, ?_, ?_, ?_, ?_⟩
  · show (d.showable && PyData.showableAll ds) = true
    rw [a.show_, b.show_]; rfl
  · show (d.hasDict || PyData.hasDictAll ds) = false
    rw [a.dict, b.dict]; rfl
  · show (d.leavesShort 13 && PyData.leavesShortAll 13 ds) = true
    rw [a.short, b.short]; rfl
  · show d.weight + 1 + PyData.weightAll ds ≤ _
    have := a.wt
    have := b.wt
    omega
  · show max d.depth (PyData.depthAll ds) ≤ _
    exact Nat.max_le.mpr ⟨a.dp, b.dp⟩
theorem OkA.all {w h : Nat} : ∀ {ds : List PyData}, (∀ d ∈ ds, OkD w h d) → OkA (ds.length * (w + 1)) h ds
  | [], _ => by rw [List.length_nil, Nat.zero_mul]; exact .nil
  | d :: r, k => by
    have z := OkA.cons (k d (List.mem_cons_self ..)) (OkA.all (ds := r) fun x hx => k x (List.mem_cons_of_mem _ hx))
    rw [List.length_cons, Nat.succ_mul, Nat.add_comm]
    exact z
theorem OkD.list {w h : Nat} {ds : List PyData} (a : OkA w h ds) : OkD w (h + 1) (.list ds) := ⟨a.show_, a.dict, a.short, a.wt, by
  show PyData.depthAll ds + 1 ≤ _
  have := a.dp
  omega⟩
theorem OkD.tuple {w h : Nat} {ds : List PyData} (a : OkA w h ds) : OkD w (h + 1) (.tuple ds) := ⟨a.show_, a.dict, a.short, a.wt, by
  show PyData.depthAll ds + 1 ≤ _
  have := a.dp
  omega⟩
theorem OkD.none {h : Nat} : OkD 0 h .none := ⟨rfl, rfl, rfl, Nat.le_refl _, Nat.zero_le _⟩
theorem OkD.int {i : Int} {h : Nat} (h0 : 0 ≤ i) (h1 : i ≤ 100000000) : OkD 27 h (.int i) := by
  refine ⟨decide_eq_true (log2_small h0 h1), rfl, ?_, ?_, Nat.zero_le _⟩
  · show decide ((PyData.shown (.int i)).length ≤ 13) = true
    refine decide_eq_true (PyData.shown_int_le ?_)
    have e : (10 : Nat) ^ 12 = 1000000000000 := by decide
    omega
  · show (if i == 0 then 0 else i.natAbs.log2 + 1) ≤ 27
    split
    · omega
    · rename_i hz
      have hz' : i ≠ 0 := fun z => hz (by rw [z]; rfl)
      have q : i.natAbs.log2 < 27 := (Nat.log2_lt (by omega)).mpr (by
        have e : (2 : Nat) ^ 27 = 134217728 := by decide
        omega)
      omega
theorem OkD.str {z : Str} {h n : Nat} (a : Asc z) (l : z.length ≤ n) : OkD n h (.str z) := by
  refine ⟨rfl, rfl, ?_, l, Nat.zero_le _⟩
  show (z.cps.toList.all fun c => decide (c < 16 ^ 8)) = true
  rw [List.all_eq_true]
  intro c hc
  have q := a c hc
  have e : (16 : Nat) ^ 8 = 4294967296 := by decide
  exact decide_eq_true (by omega)
theorem OkD.shown {w h : Nat} {d : PyData} (k : OkD w h d) (hw : w ≤ 1000000) : d.shown.length ≤ sizeLine := PyData.shown_fits (B := 13) (by decide) (by decide) k.short (by
  have e : (2 : Nat) ^ 20 = 1048576 := by decide
  have := k.wt
  omega)
/-- what is told of a text is small -/
theorem tell_ok {z : Str} (hz : z.length ≤ 900000) : OkD 1000 3 (tellD (outOf (rowsOf z))) := by
  have rl : (rowsOf z).length ≤ z.length + 1 := by rw [rows_len]; exact (lines_len z).2
  have tw : Asc "text" := by unfold Asc; decide +kernel
  have th : Asc "hall" := by unfold Asc; decide +kernel
  have ts : Asc "seats" := by unfold Asc; decide +kernel
  have ta : Asc "fares" := by unfold Asc; decide +kernel
  have text : ∀ l w : Nat, l ≤ 1000000 → w ≤ 1000000 → OkD 1000 3 (tellD (.text l w)) := fun l w h1 h2 =>
    (OkD.tuple (h := 2) (OkA.cons (OkD.str tw (n := 4) (by decide +kernel)) (OkA.cons (OkD.int (i := (l : Nat)) (by omega) (by omega)) (OkA.cons (OkD.int (i := (w : Nat)) (by omega) (by omega)) OkA.nil)))).mono (by decide) (by decide)
  have bad : ∀ m : Str, Asc m → m.length ≤ 5 → OkD 1000 3 (tellD (.bad m)) := fun m h1 h2 =>
    (OkD.tuple (h := 2) (OkA.cons (OkD.str th (n := 4) (by decide +kernel)) (OkA.cons (OkD.str h1 h2) OkA.nil))).mono (by decide) (by decide)
  have row : ∀ (i : Nat) (hd : Str) (mo k : Nat), rowWrong (rowsOf z) i hd mo = some k → k ≤ 1000000 := fun i hd mo k e => by
    unfold rowWrong at e
    by_cases hi : i < (rowsOf z).length
    · rw [if_pos hi] at e
      have f := (row_facts hi).2.1
      unfold lineWrong at e
      split at e
      · unfold tailWrong at e
        split at e
        · rename_i j hj
          cases e
          have q := List.mem_of_find?_eq_some hj
          rw [List.mem_range'_1] at q
          omega
        · split at e
          · cases e
            omega
          · cases e
      · cases e
        omega
    · rw [if_neg hi] at e
      cases e
  unfold outOf
  split
  · rename_i k e
    exact text _ _ (by omega) (row _ _ _ _ e)
  · split
    · rename_i k e
      exact text _ _ (by omega) (row _ _ _ _ e)
    · split
      · exact text _ _ (by omega) (by omega)
      · split
        · exact text _ _ (by omega) (by omega)
        · generalize numOf (((rowsOf z).getD 0 []).getD 1 Str.empty) = s
          generalize (((rowsOf z).getD 1 []).drop 1).map numOf = fs
          cases h1 : inB 1 6 s with
          | false => rw [hallOut_seats h1]; exact bad _ ts (by decide +kernel)
          | true =>
            cases h2 : inB 1 4 (fs.length : Int) with
            | false => rw [hallOut_len h1 h2]; exact bad _ ta (by decide +kernel)
            | true =>
              cases h3 : fs.all (inB 1 99) with
              | false => rw [hallOut_all h1 h2 h3]; exact bad _ ta (by decide +kernel)
              | true =>
                cases h4 : ascB fs with
                | false => rw [hallOut_asc h1 h2 h3 h4]; exact bad _ ta (by decide +kernel)
                | true =>
                  have ho := hallOut_yes h1 h2 h3 h4
                  rw [ho]
                  obtain ⟨fS, fL, fA, _, _⟩ := hall_facts ho
                  have aI : OkA ((fs.map PyData.int).length * 28) 0 (fs.map PyData.int) := OkA.all fun d hd => by
                    obtain ⟨x, hx, rfl⟩ := List.mem_map.mp hd
                    have b := fA x hx
                    exact OkD.int (by omega) (by omega)
                  have e := OkD.list (OkA.cons (OkD.tuple (OkA.cons (OkD.int (i := s) (h := 1) (by omega) (by omega)) (OkA.cons (OkD.tuple aI) OkA.nil))) OkA.nil)
                  exact e.mono (by rw [List.length_map]; omega) (by decide)
end K94
/-! _law_like: of the same data the reprs are the same. No guard is known in FnOk: so a rule for the call alone. -/
namespace K94
open PySem PySem.Spec PyProof.Rows L2
abbrev sLike : Stmt := top 35
abbrev nLike : List Str := ["_law_answer", "_law_due"]
theorem scLike : FnScope nLike nLike (defScope sLike) := ⟨rfl, rfl, rfl, by decide +kernel, rfl, by decide +kernel, by decide +kernel⟩
def tLike (K : PySem.W.Frag) (t : TA) : TE := fun σ H Q => t σ H fun vs H1 => ∃ (p q : Addr) (d : PyData) (wt dp : Nat), vs = [.ref p, .ref q] ∧ Dp K H1 (.ref p) d ∧ Dp K H1 (.ref q) d ∧ OkD wt dp d ∧ wt ≤ 1000000 ∧ dp ≤ 30 ∧ Q (.bl true) H1
section
variable {X : Cx}
theorem pe_like {e1 e2 : Expr} {t : TA} {p pos : Pos} {f : Addr} {fd : FuncData} (F : Fun X.K "_law_like" "_law_like" sLike f fd) (hgd : X.A.guards = some []) (hr : Room 2 X.A) (hg : Gl X "_law_like") (hm : X.mg "_law_like" = some (.ref f)) (hrep : X.mg "repr" = none)
    (ha : PA X [e1, e2] t) (he : starEach [e1, e2] X.env = (false, eval e1 X.env) :: starEach [e2] X.env := by rfl) (hpl : (backTo pos (starEach [e2] X.env)).any (·.1) = false := by rfl) :
    PE X (.Call (.Name "_law_like" p) [e1, e2] [] pos) (tLike X.K t) := by
  have bd := F.binds (ps := nLike) fun _ _ _ _ _ _ us hl => match us, hl with | [_, _], _ => rfl
  refine ⟨fun pins s σ H Q I h => ?_⟩
  refine wpAny_Call_Name_kw (ld_glob I hg hm ?_)
  refine PySem.W.callWith_K (h₀ := X.base) I.ok.mod.kin F.kp (thn (ha.run pos pins s σ H _ I h) fun us s1 hh => ?_) he hpl
  obtain ⟨vs, H1, I1, r, a, b, d, wt, dp, rfl, da, db, hd, hw, hh, q⟩ := hh
  refine ⟨I1.kIn, ?_⟩
  have hl : us.length = nLike.length := by rw [← r.length]; rfl
  have rc : codeAny (model X.prog X.w) X.A (.call (.ref f) ⟨us, []⟩) (CR CX0 X.stack X.prog X.w H1 s1 Q E0) s1 := by
    obtain ⟨oc, od, kV, doc, pm, an, cdv, ct, osl, rfl, lk, hcd⟩ := F.ex
    have bs := bd s1 us I1.kIn (by rw [List.append_nil]; exact hl)
    rw [List.append_nil] at bs
    refine LamX.run_ofS (N := nLike) (ps := nLike) (us := us) (vs := [.ref a, .ref b]) lk hcd scLike hr I1.env0 bs r rfl fun hr' => ?_
    refine ⟨_, pss_one (ps_ret (pe_cmpR op_eq (pe_callB (call_repr_data hgd hr'.units) (by rfl) hrep (by decide +kernel) (pa_cons (pv 0) pa_nil)) (pe_callB (call_repr_data hgd hr'.units) (by rfl) hrep (by decide +kernel) (pa_cons (pv 1) pa_nil)) (nomark _))), ?_⟩
    have hz := hd.shown hw
    have hp := hd.dp
    refine ⟨_, rfl, a, d, rfl, da, hd.show_, hd.dict, by omega, hz, _, rfl, b, d, rfl, db, hd.show_, hd.dict, by omega, hz, rfl, ?_⟩
    rw [decide_eq_true rfl]
    exact q
  refine wpAny_call (codeAny_mono rc fun r s' hq => ?_)
  cases r with
  | error e => exact (show False from hq).elim
  | ok fl =>
    cases fl with
    | ret u => exact I1.after hq
    | next => exact False.elim hq
    | brk => exact False.elim hq
    | cont => exact False.elim hq
end
end K94
/-! Heaps in the law: what a lambda's making leaves; what _law_said makes of the lambdas. -/
namespace K94
open PySem PySem.Spec PyProof.Rows L2
open LamX (ExtN Tabs TabS CodeO)
theorem extN_seqL {K : PySem.W.Frag} {H H' : Hp} {a : Addr} {xs : List V} (e : ExtN H H') (h : SqL K H a xs) : SqL K H' a xs := by
  rcases h with (h | ⟨o, h⟩) | h
  · exact .inl (.inl (e _ _ h (fun _ z => by cases z)))
  · exact .inl (.inr ⟨o, e _ _ h (fun _ z => by cases z)⟩)
  · exact .inr h
theorem extN_seqT {K : PySem.W.Frag} {H H' : Hp} {a : Addr} {xs : List V} (e : ExtN H H') (h : SqT K H a xs) : SqT K H' a xs := by
  rcases h with (h | ⟨o, h⟩) | h
  · exact .inl (.inl (e _ _ h (fun _ z => by cases z)))
  · exact .inl (.inr ⟨o, e _ _ h (fun _ z => by cases z)⟩)
  · exact .inr h
mutual
theorem dp_keep {K : PySem.W.Frag} {H H' : Hp} (e : ExtN H H') : ∀ (d : PyData) (v : V), Dp K H v d → Dp K H' v d
  | .none, _, h => by cases h; exact .non
  | .bool b, _, h => by cases h; exact .bl b
  | .int i, _, h => by cases h; exact .int i
  | .str x, _, h => by cases h; exact .str x
  | .list ds, _, h => by
    cases h with
    | lst s a => exact .lst (extN_seqL e s) (dpA_keep e ds _ a)
  | .tuple ds, _, h => by
    cases h with
    | tup s a => exact .tup (extN_seqT e s) (dpA_keep e ds _ a)
  | .dict kvs, _, h => by cases h
theorem dpA_keep {K : PySem.W.Frag} {H H' : Hp} (e : ExtN H H') : ∀ (ds : List PyData) (vs : List V), DpAll K H vs ds → DpAll K H' vs ds
  | [], _, h => by cases h; exact .nil
  | d :: ds, _, h => by
    cases h with
    | cons h1 h2 => exact .cons (dp_keep e d _ h1) (dpA_keep e ds _ h2)
end
theorem dpA_snoc {K : PySem.W.Frag} {H : Hp} : ∀ {vs : List V} {ds : List PyData} {v : V} {d : PyData}, DpAll K H vs ds → Dp K H v d → DpAll K H (vs ++ [v]) (ds ++ [d])
  | _, _, _, _, .nil, h => .cons h .nil
  | _, _, _, _, .cons a b, h => .cons a (dpA_snoc b h)
theorem dpA_app {K : PySem.W.Frag} {H : Hp} : ∀ {vs ws : List V} {ds es : List PyData}, DpAll K H vs ds → DpAll K H ws es → DpAll K H (vs ++ ws) (ds ++ es)
  | _, _, _, _, .nil, h => h
  | _, _, _, _, .cons a b, h => .cons a (dpA_app b h)
theorem dpA_len {K : PySem.W.Frag} {H : Hp} : ∀ {vs : List V} {ds : List PyData}, DpAll K H vs ds → vs.length = ds.length
  | _, _, .nil => rfl
  | _, _, .cons a b => by rw [List.length_cons, List.length_cons, dpA_len b]
/-- without what stands at D -/
def del (H : Hp) (D : Addr) : Hp := fun b => if b = D then none else H b
theorem del_ne {H : Hp} {D b : Addr} (h : b ≠ D) : del H D b = H b := if_neg h
theorem del_upd (H : Hp) (D : Addr) (o : HO) : del (upd H D o) D = del H D := funext fun b => by
  by_cases h : b = D
  · unfold del
    rw [if_pos h, if_pos h]
  · rw [del_ne h, del_ne h, upd_ne h]
theorem del_sub (H : Hp) (D : Addr) : ExtN (del H D) H := fun b o e _ => by
  by_cases h : b = D
  · unfold del at e
    rw [if_pos h] at e
    cases e
  · rw [del_ne h] at e
    exact e
theorem del_ext {H H' : Hp} {D : Addr} (e : ExtN H H') : ExtN (del H D) (del H' D) := fun b o z n => by
  by_cases h : b = D
  · unfold del at z
    rw [if_pos h] at z
    cases z
  · rw [del_ne h] at z ⊢
    exact e b o z n
/-! ### tables and the state of the draws -/
theorem codeO_dK {c : Addr} {q : Str} (kvs : List (Key × V)) : CodeO c q ≠ .dK kvs := fun z => by
  unfold CodeO at z
  cases z
theorem codeO_lst {c : Addr} {q : Str} (xs : List V) : CodeO c q ≠ .lst xs := fun z => by
  unfold CodeO at z
  cases z
theorem tab_ext {H H' : Hp} {P : Addr} {q : Str} (t : TabS H P q) (e : ∀ b o, H b = some o → (∀ kvs, o ≠ .dK kvs) → (∀ xs, o ≠ .lst xs) → H' b = some o) : TabS H' P q := by
  obtain ⟨ps, h1, h2, h3⟩ := t
  refine ⟨ps, e _ _ h1 (fun _ z => by cases z) (fun _ z => by cases z), h2, fun pos cv hc => ?_⟩
  obtain ⟨c, e1, e2⟩ := h3 pos cv hc
  exact ⟨c, e1, e _ _ e2 codeO_dK codeO_lst⟩
theorem tabs_extB {T : List (Addr × Str)} {H H' : Hp} {m g : Addr} {n : Nat} (t : Tabs T H) (S : St H m g n) (x : ExtB m g H H') : Tabs T H' := fun p hp => tab_ext (t p hp) fun b o e n1 n2 => by
  obtain ⟨kvs, h1⟩ := S.mOk
  obtain ⟨gs, h2⟩ := S.gOk
  refine x b o (fun z => ?_) (fun z => ?_) e
  · rw [z, h1] at e
    exact n1 _ (Option.some.inj e).symm
  · rw [z, h2] at e
    exact n2 _ (Option.some.inj e).symm
theorem tabs_put {T : List (Addr × Str)} {H : Hp} {L : Addr} {xs : List V} {o : HO} (t : Tabs T H) (hL : H L = some (.lst xs)) : Tabs T (upd H L o) := fun p hp => tab_ext (t p hp) fun b o e n1 n2 => by
  rw [upd_ne fun z => ?_]
  · exact e
  · rw [z, hL] at e
    exact n2 _ (Option.some.inj e).symm
theorem tabs_same {T : List (Addr × Str)} {H H' : Hp} (t : Tabs T H) (s : Same H H') : Tabs T H' := t.ext s
theorem St.extN {H H' : Hp} {m g : Addr} {n : Nat} (h : St H m g n) (s : ExtN H H') : St H' m g n := by
  obtain ⟨kvs, c, cs, gs, sp, h1, h2, h3, h4, h5, h6, h7, h8, h9, h10, h11⟩ := h.ex
  exact ⟨kvs, c, cs, gs, sp, s _ _ h1 (fun _ z => by cases z), h2, h3, h4, h5, h6, h7, s _ _ h8 (fun _ z => by cases z), h9, s _ _ h10 (fun _ z => by cases z), h11⟩
/-- a list of texts that is not empty is none of the lists of the state -/
theorem strs_ints {x : Str} {r : List V} {cs : List Int} (h : V.str x :: r = cs.map V.int) : False := by
  cases cs with
  | nil => cases h
  | cons a b =>
    rw [List.map_cons] at h
    injection h with h1 h2
    cases h1
theorem St.ne_strs {H : Hp} {m g L : Addr} {n : Nat} {x : Str} {r : List V} (h : St H m g n) (hL : H L = some (.lst (V.str x :: r))) : L ≠ m ∧ L ≠ g := by
  obtain ⟨kvs, h1⟩ := h.mOk
  obtain ⟨gs, h2⟩ := h.gOk
  refine ⟨ne_of hL h1 (by intro z; cases z), fun z => ?_⟩
  rw [z, h2] at hL
  injection hL with hL
  injection hL with hL
  exact strs_ints hL.symm
theorem St.put_strs {H : Hp} {m g L : Addr} {n : Nat} {x : Str} {r ys : List V} (h : St H m g n) (hL : H L = some (.lst (V.str x :: r))) : St (upd H L (.lst ys)) m g n := by
  obtain ⟨k1, k2⟩ := h.ne_strs hL
  obtain ⟨kvs, c, cs, gs, sp, h1, h2, h3, h4, h5, h6, h7, h8, h9, h10, h11⟩ := h.ex
  have k3 : c ≠ L := fun z => by
    rw [z, hL] at h8
    injection h8 with h8
    injection h8 with h8
    exact strs_ints h8
  exact ⟨kvs, c, cs, gs, sp, by rw [upd_ne k1.symm]; exact h1, h2, h3, h4, h5, h6, h7, by rw [upd_ne k3]; exact h8, h9, by rw [upd_ne k2.symm]; exact h10, h11⟩
/-! ### the odd ones -/
def OddV (H : Hp) (v : V) : Prop := v = .non ∨ v = .int 5 ∨ v = .bl true ∨ (∃ p, v = .ref p ∧ H p = some (.tup [])) ∨ (∃ p xs, v = .ref p ∧ H p = some (.lst xs)) ∨ ∃ p, v = .ref p ∧ H p = some (.dK [])
theorem OddV.extN {H H' : Hp} {v : V} (h : OddV H v) (e : ExtN H H') : OddV H' v := by
  rcases h with h | h | h | ⟨p, h, k⟩ | ⟨p, xs, h, k⟩ | ⟨p, h, k⟩
  · exact .inl h
  · exact .inr (.inl h)
  · exact .inr (.inr (.inl h))
  · exact .inr (.inr (.inr (.inl ⟨p, h, e _ _ k (fun _ z => by cases z)⟩)))
  · exact .inr (.inr (.inr (.inr (.inl ⟨p, xs, h, e _ _ k (fun _ z => by cases z)⟩))))
  · exact .inr (.inr (.inr (.inr (.inr ⟨p, h, e _ _ k (fun _ z => by cases z)⟩))))
theorem OddV.same {H H' : Hp} {v : V} (h : OddV H v) (e : Same H H') : OddV H' v := h.extN (ExtN.of e)
theorem OddV.noStr {H : Hp} {v : V} (h : OddV H v) : NoStr H v := by
  rcases h with rfl | rfl | rfl | ⟨p, rfl, k⟩ | ⟨p, xs, rfl, k⟩ | ⟨p, rfl, k⟩
  · exact ⟨_, fun K => .base .non, by decide +kernel⟩
  · exact ⟨_, fun K => .base (.int 5), by decide +kernel⟩
  · exact ⟨_, fun K => .base (.bl true), by decide +kernel⟩
  · exact ⟨_, fun K => .base (.tup k), by decide +kernel⟩
  · exact ⟨_, fun K => .base (.lst k), by decide +kernel⟩
  · exact ⟨_, fun K => .base (.dK k), by decide +kernel⟩
theorem OddV.noHall {H : Hp} {v : V} {CH : Addr} {Q : VK} {E : XK} (h : OddV H v) (e : erH CH "form" H E) : spText CH [v] H Q E := by
  rcases h with rfl | rfl | rfl | ⟨p, rfl, k⟩ | ⟨p, xs, rfl, k⟩ | ⟨p, rfl, k⟩
  · exact .inl ⟨_, _, rfl, fun K => .base .non, by decide +kernel, e⟩
  · exact .inl ⟨_, _, rfl, fun K => .base (.int 5), by decide +kernel, e⟩
  · exact .inl ⟨_, _, rfl, fun K => .base (.bl true), by decide +kernel, e⟩
  · exact .inr (.inl ⟨p, rfl, k, e⟩)
  · exact .inl ⟨_, _, rfl, fun K => .base (.lst k), by decide +kernel, e⟩
  · exact .inl ⟨_, _, rfl, fun K => .base (.dK k), by decide +kernel, e⟩
/-! ### what _law_said makes of the lambdas -/
section
variable {K : PySem.W.Frag} {CH CT : Addr} {H : Hp} {Q : VK} {σ : L2.St} {i : Nat}
theorem said_read {z : Str} (hσ : σ[i]? = some (some (.str z))) (hz : z.length ≤ 900000)
    (k : ∀ q H', Same H H' → H q = none → Dp K H' (.ref q) (tellD (outOf (rowsOf z))) → (∀ D xs, H D = some (.lst xs) → Dp K (del H' D) (.ref q) (tellD (outOf (rowsOf z)))) → Q (.ref q) H') :
    TSaid CH CT (fun E H' Q' => tCall (spRead CH CT) [] E (tCons (tVar i) tNil) σ H' Q') H Q := by
  intro p np
  refine ⟨_, hσ, .inr ⟨z, rfl, hz, ?_⟩⟩
  have sp : Same H (upd H p (.lst [])) := sNew np
  generalize upd H p (.lst []) = H1 at sp ⊢
  cases e : outOf (rowsOf z) with
  | hall s fs =>
    rw [e] at k
    intro P q H2 s2 nP hP hq r nr
    have s3 : Same H2 (upd H2 r (.lst [.ref P])) := sNew nr
    have hr := upd_same (H := H2) (a := r) (o := .lst [.ref P])
    have hP3 := s3 _ _ hP
    have hq3 := s3 _ _ hq
    have s03 : Same H (upd H2 r (.lst [.ref P])) := sp.trans (s2.trans s3)
    have n0 : H r = none := (sp.trans s2).free nr
    refine k r _ s03 n0 (.lst (SqL.of hr) (.cons (.tup (SqT.of hP3) (.cons (.int s) (.cons (.tup (SqT.of hq3) (dp_ints fs)) .nil))) .nil)) fun D xs hD => ?_
    have hD3 := s03 _ _ hD
    have d1 : r ≠ D := (ne_of_none hD n0).symm
    have d2 : P ≠ D := ne_of hP3 hD3 (by intro z; cases z)
    have d3 : q ≠ D := ne_of hq3 hD3 (by intro z; cases z)
    exact .lst (SqL.of ((del_ne d1).trans hr)) (.cons (.tup (SqT.of ((del_ne d2).trans hP3)) (.cons (.int s) (.cons (.tup (SqT.of ((del_ne d3).trans hq3)) (dp_ints fs)) .nil))) .nil)
  | bad m =>
    rw [e] at k
    intro d H2 s2 nd
    refine .inl ⟨rfl, d, _, rfl, upd_same, fun r nr => ?_⟩
    have s3 : Same H2 (upd (upd H2 d (.xd [(("part" : Str), .str m)])) r (.tup [.str "hall", .str m])) := (sNew nd).trans (sNew nr)
    have hr := upd_same (H := upd H2 d (.xd [(("part" : Str), .str m)])) (a := r) (o := .tup [.str "hall", .str m])
    have s03 := sp.trans (s2.trans s3)
    have n0 : H r = none := (sp.trans (s2.trans (sNew nd))).free nr
    refine k r _ s03 n0 (.tup (SqT.of hr) (.cons (.str _) (.cons (.str _) .nil))) fun D xs hD => ?_
    have d1 : r ≠ D := (ne_of_none hD n0).symm
    exact .tup (SqT.of ((del_ne d1).trans hr)) (.cons (.str _) (.cons (.str _) .nil))
  | text l w =>
    rw [e] at k
    intro d H2 s2 nd
    refine .inr ⟨rfl, d, _, _, rfl, upd_same, fun r nr => ?_⟩
    have s3 : Same H2 (upd (upd H2 d (.xd [(("word" : Str), .int (w : Nat)), (("line" : Str), .int (l : Nat))])) r (.tup [.str "text", .int (l : Nat), .int (w : Nat)])) := (sNew nd).trans (sNew nr)
    have hr := upd_same (H := upd H2 d (.xd [(("word" : Str), .int (w : Nat)), (("line" : Str), .int (l : Nat))])) (a := r) (o := .tup [.str "text", .int (l : Nat), .int (w : Nat)])
    have s03 := sp.trans (s2.trans s3)
    have n0 : H r = none := (sp.trans (s2.trans (sNew nd))).free nr
    refine k r _ s03 n0 (.tup (SqT.of hr) (.cons (.str _) (.cons (.int _) (.cons (.int _) .nil)))) fun D xs hD => ?_
    have d1 : r ≠ D := (ne_of_none hD n0).symm
    exact .tup (SqT.of ((del_ne d1).trans hr)) (.cons (.str _) (.cons (.int _) (.cons (.int _) .nil)))
theorem said_odd {v : V} (hσ : σ[i]? = some (some v)) (ho : OddV H v)
    (k : ∀ q H', Same H H' → H' q = some (.tup [.str "text", .non, .non]) → Q (.ref q) H') :
    TSaid CH CT (fun E H' Q' => tCall (spRead CH CT) [] E (tCons (tVar i) tNil) σ H' Q') H Q := by
  intro p np
  have sp : Same H (upd H p (.lst [])) := sNew np
  refine ⟨_, hσ, .inl ⟨v, rfl, (ho.same sp).noStr, ?_⟩⟩
  generalize upd H p (.lst []) = H1 at sp ⊢
  intro d H2 s2 nd
  refine .inr ⟨rfl, d, _, _, rfl, upd_same, fun r nr => ?_⟩
  exact k r _ (sp.trans (s2.trans ((sNew nd).trans (sNew nr)))) upd_same
theorem said_odd2 {v : V} (hσ : σ[i]? = some (some v)) (ho : OddV H v)
    (k : ∀ q H', Same H H' → H' q = some (.tup [.str "hall", .str "form"]) → Q (.ref q) H') :
    TSaid CH CT (fun E H' Q' => tCall (spText CH) [] E (tCons (tVar i) tNil) σ H' Q') H Q := by
  intro p np
  have sp : Same H (upd H p (.lst [])) := sNew np
  unfold tCall tCons tVar tNil
  refine ⟨v, hσ, ?_⟩
  show spText CH [v] _ _ _
  refine (ho.same sp).noHall ?_
  generalize upd H p (.lst []) = H1 at sp ⊢
  intro d H2 s2 nd
  refine .inl ⟨rfl, d, _, rfl, upd_same, fun r nr => ?_⟩
  exact k r _ (sp.trans (s2.trans ((sNew nd).trans (sNew nr)))) upd_same
end
end K94
/-! A def as it stands behind the top with its promise; _law_said(lambda: f(y)). -/
namespace K94
open PySem PySem.Spec PyProof.Rows L2
open LamX (ExtN Tabs TabS CodeO TabB LamS tLam lamCx)
structure Callee (P : Program) (w : World) (K : PySem.W.Frag) (mg : Str → Option Value) (base : Heap) (CX : CXT) (k : Nat) (x : Str) (ps : List Str) (sp : Sp) : Prop where
  ex : ∃ (f : Addr) (fd : FuncData), FnOk P w K mg base CX k f fd ps sp ∧ mg x = some (.ref f) ∧ PySem.W.keepIn K (.ref f) = true ∧ Binds K fd ps []
structure D1 (K : PySem.W.Frag) (mg : Str → Option Value) (x : Str) (st : Stmt) : Prop where
  ex : ∃ (f : Addr) (fd : FuncData), Fun K x x st f fd ∧ mg x = some (.ref f)
section
variable {X : Cx}
theorem pe_cl {CX : CXT} {k : Nat} {x : Str} {ps : List Str} {sp : Sp} {E : XK} {e : Expr} {es : List Expr} {t : TA} {p pos : Pos} (C : Callee X.prog X.w X.K X.mg X.base CX k x ps sp) (hr : Room k X.A) (hg : Gl X x) (hx : Passes CX X E) (ha : PA X (e :: es) t)
    (hdb : (x == ("__debug__" : Str)) = false := by decide) (he : starEach (e :: es) X.env = (false, eval e X.env) :: starEach es X.env := by rfl) (hpl : (backTo pos (starEach es X.env)).any (·.1) = false := by rfl) :
    PE X (.Call (.Name x p) (e :: es) [] pos) (tCall sp [] E t) := by
  obtain ⟨f, fd, G, m, kp, b⟩ := C.ex
  exact pe_call G hr hg m kp b .nil hx ha hdb he hpl
theorem pe_said {CH CT c P : Addr} {x y : Str} {i : Nat} {ps : List Str} {sp : Sp} {params : Arguments} {scope : Scope} {p p1 p2 p3 lpos pos : Pos} (D : D1 X.K X.mg "_law_said" sSaid) (S : SaidT X.K X.mg CH CT) (C : Callee X.prog X.w X.K X.mg X.base (L2.CX X.prog X.w) 4 x ps sp)
    (TB : TabB X.base X.mg c P) (hcode : X.env.code = .ref c) (hr : Room 6 X.A) (L : LamS X.env.scope scope) (hN : X.N[i]? = some y) (hv : Vis scope y) (hgx : scope.names.lookup x = some .globalImplicit) (hg : Gl X "_law_said") (hdef : defaultsOf params X.env = ([], []))
    (hbind : ∀ (q : Str) (bd : Expr) (cl : List (Str × Addr)) (pm cv ctv : Value), bindArgs (PySem.W.kla_fn "<lambda>" q params bd scope cl pm cv ctv) ⟨[], []⟩ = pure [])
    (hxd : (x == ("__debug__" : Str)) = false := by decide) (hyd : (y == ("__debug__" : Str)) = false := by decide) (hyc : (y == ("__classdict__" : Str)) = false := by decide) :
    PE X (.Call (.Name "_law_said" p) [.Lambda params (.Call (.Name x p1) [.Name y p2] [] p3) scope lpos] [] pos) (tLam [(P, X.env.qual ++ "<lambda>")] (TSaid CH CT) fun E => tCall sp [] E (tCons (tVar i) tNil)) := by
  obtain ⟨g, fd, F, hm⟩ := D.ex
  have bS := F.binds (ps := ["_law_call"]) fun _ _ _ _ _ _ us hl => match us, hl with | [_], _ => rfl
  have hk := F.kp
  obtain ⟨oc, od, kV, doc, pm, an, cdv, ct, osl, rfl, lk, hcg⟩ := F.ex
  refine LamX.pe_lamcall hg hm hk lk hcg bS scSaid rfl (.inl rfl) (said_gives S) TB hcode (List.mem_singleton.mpr rfl) (fun q hq _ => by rw [List.mem_singleton.mp hq]) (k := 4) hr L hdef (fun q cl pm cv ctv => hbind q _ cl pm cv ctv) (fun A outer s H E f c' hr2 => ?_)
  have C' : Callee (lamCx X A outer s H E scope f c').prog (lamCx X A outer s H E scope f c').w (lamCx X A outer s H E scope f c').K (lamCx X A outer s H E scope f c').mg (lamCx X A outer s H E scope f c').base (L2.CX X.prog X.w) 4 x ps sp := C
  exact pe_cl (X := lamCx X A outer s H E scope f c') C' hr2 hgx (passes_call (takes_of rfl rfl rfl rfl) (E := E) (fun _ _ _ _ h => h)) (pa_cons (pe_var hN hv hyd hyc) pa_nil) hxd
end
end K94
/-! law: the loop over the texts of a turn. -/
namespace K94
open PySem PySem.Spec PyProof.Rows L2
open LamX (ExtN Tabs TabS CodeO TabB LamS tLam lamCx)
abbrev sLaw : Stmt := top 44
abbrev nLaw : List Str := ["_law_script", "_law_m", "_law_turn", "_law_hall_so", "_law_sheet", "_law_told_so", "_law_some", "_law_again", "_law_due", "_law_one", "_law_odd"]
theorem scLaw : FnScope nLaw ["_law_script"] (defScope sLaw) := ⟨rfl, rfl, rfl, by decide +kernel, rfl, by decide +kernel, by decide +kernel⟩
abbrev forBody : Stmt → List Stmt
  | .For _ _ b _ _ => b
  | _ => []
abbrev stL (i : Nat) : Stmt := (defBody sLaw).getD i (.Pass ⟨0, 0, 0, 0⟩)
abbrev stT (i : Nat) : Stmt := (forBody (stL 1)).getD i (.Pass ⟨0, 0, 0, 0⟩)
/-- the defs that the law calls -/
structure LC (w : World) (K : PySem.W.Frag) (mg : Str → Option Value) (base : Heap) (CH CT : Addr) : Prop where
  B : Bn mg
  S : SaidT K mg CH CT
  begun : Callee P0 w K mg base CX0 2 "_law_begun" ["_law_script"] (spBegun K)
  hall : Callee P0 w K mg base CX0 4 "_law_hall" ["_law_m", "_law_seats", "_law_fares_here"] spHall
  text : Callee P0 w K mg base CX0 1 "_law_text" ["_law_hall_so"] spLText
  draw : Callee P0 w K mg base CX0 2 "_law_draw" ["_law_m", "_law_limit"] spDraw
  bent : Callee P0 w K mg base CX0 3 "_law_bent" ["_law_m", "_law_text_here", "_law_signs"] spBent
  lread : Callee P0 w K mg base CX0 3 "_law_read" ["_law_sheet"] (spLRead K)
  htext : Callee P0 w K mg base (L2.CX P0 w) 4 "hall_text" ["hall"] (spText CH)
  hread : Callee P0 w K mg base (L2.CX P0 w) 4 "read_hall" ["text"] (spRead CH CT)
  said : D1 K mg "_law_said" sSaid
  like : D1 K mg "_law_like" sLike
abbrev XL (w : World) (K : PySem.W.Frag) (mg : Str → Option Value) (base : Heap) (f c : Addr) (A : Around) (outer : List Env) (s : Shared) (H : Hp) : Cx := (cxOf CX0 P0 w K mg base nLaw "law" (defScope sLaw) f (.ref c) A outer s H E0).nox
/-- what the law's lambdas are called -/
abbrev qL : Str := ("law" : Str) ++ ".<locals>." ++ "<lambda>"
section
variable {w : World} {K : PySem.W.Frag} {mg : Str → Option Value} {base : Heap} {f c P CH CT : Addr} {A : Around} {outer : List Env} {s : Shared} {H0 : Hp}
theorem st_one (C : LC w K mg base CH CT) (TB : TabB base mg c P) (hgd : A.guards = some []) (hr : Room 6 (XL w K mg base f c A outer s H0).A) :
    ∃ t, PS (XL w K mg base f c A outer s H0) (stT 6) t ∧ ∀ (D : Ends) (H : Hp) (L : Addr) (ts : List Str) (v0 v1 v2 v3 v4 v5 v7 v8 v9 v10 : Option V), H L = some (.lst (ts.map V.str)) → (∀ z ∈ ts, z.length ≤ 100000 ∧ Asc z) → Tabs [(P, qL)] H →
      (∀ v H', ExtN H H' → Tabs [(P, qL)] H' → D.nx [v0, v1, v2, v3, v4, v5, some (.ref L), v7, v8, v, v10] H') → t D [v0, v1, v2, v3, v4, v5, some (.ref L), v7, v8, v9, v10] H := by
  obtain ⟨fK, fdK, FK, gK⟩ := C.like.ex
  refine ⟨_, ps_for PassesOwn.never rfl (pi_list (pv 6)) (pg_name (i := 9) scLaw.nd rfl (Or.inr rfl))
    (pss_one (ps_if (pt_not (pt_val (pe_like FK hgd (hr.mono (by decide)) rfl gK C.B.repr (pa_cons (pe_said (i := 9) C.said C.S C.hread TB rfl hr (show LamS (defScope sLaw) _ from LamX.lamS_by (by decide +kernel)) rfl (.inr (.inr rfl)) rfl rfl rfl (fun _ _ _ _ _ _ => rfl)) (pa_cons (pe_cl C.lread (hr.mono (by decide)) rfl pass0 (pa_cons (pv 9) pa_nil)) pa_nil))))) (pss_one (ps_ret pe_bl)) pss_nil)), ?_⟩
  intro D H L ts v0 v1 v2 v3 v4 v5 v7 v8 v9 v10 hL ht hT k
  refine ⟨_, rfl, L, rfl, ⟨_, SqL.of hL⟩, ?_⟩
  refine for_list (K := K) (a := L) (xs := ts.map V.str) (fun i σ H2 => ExtN H H2 ∧ Tabs [(P, qL)] H2 ∧ ∃ v, σ = [v0, v1, v2, v3, v4, v5, some (.ref L), v7, v8, v, v10])
    ⟨ExtN.refl H, hT, _, rfl⟩ (fun i σ H2 _ hP => extN_seqL hP.1 (SqL.of hL)) (fun i x σ H2 hx hP => ?_) (fun σ H2 hP => ?_)
  · obtain ⟨e2, T2, v, rfl⟩ := hP
    obtain ⟨hi, rfl⟩ := map_at hx Str.empty
    have hz : ts.getD i Str.empty ∈ ts := by
      rw [List.getD_eq_getElem?_getD, List.getElem?_eq_getElem hi]
      exact List.getElem_mem hi
    obtain ⟨z1, z2⟩ := ht _ hz
    generalize ts.getD i Str.empty = z at *
    refine ⟨T2, fun H3 e3 T3 => said_read (K := K) (z := z) (i := 9) rfl (by omega) fun q H4 s4 nq dq _ => ?_⟩
    refine ⟨_, rfl, z, rfl, by omega, z2, fun p H5 s5 np dp => ?_⟩
    refine ⟨q, p, _, _, _, rfl, dp_keep (ExtN.of s5) _ _ dq, dp, tell_ok (by omega), by decide, by decide, true, rfl, iteF ?_⟩
    exact ⟨e2.trans (e3.trans (ExtN.of (s4.trans s5))), T3.ext (s4.trans s5), _, rfl⟩
  · obtain ⟨e2, T2, v, rfl⟩ := hP
    exact k v H2 e2 T2
end
end K94
/-! law: the loop that bends texts. -/
namespace K94
open PySem PySem.Spec PyProof.Rows L2
open LamX (ExtN Tabs TabS CodeO TabB LamS tLam lamCx)
section
variable {w : World} {K : PySem.W.Frag} {mg : Str → Option Value} {base : Heap} {f c P CH CT : Addr} {A : Around} {outer : List Env} {s : Shared} {H0 : Hp}
theorem st_again (C : LC w K mg base CH CT) (hr : Room 6 (XL w K mg base f c A outer s H0).A) :
    ∃ t, PS (XL w K mg base f c A outer s H0) (stT 5) t ∧ ∀ (D : Ends) (H : Hp) (m g L : Addr) (n : Nat) (ts : List Str) (v0 v2 v3 v4 v5 v7 v8 v9 v10 : Option V), St H m g n → n ≤ 800000 → H L = some (.lst (ts.map V.str)) → ts.length = 7 → (∀ z ∈ ts, z.length ≤ 41 ∧ Asc z) → Tabs [(P, qL)] H →
      (∀ (v : Option V) (H' : Hp) (ts' : List Str), St H' m g (n + 40) → H' L = some (.lst (ts'.map V.str)) → (∀ z ∈ ts', z.length ≤ 100000 ∧ Asc z) → Tabs [(P, qL)] H' → D.nx [v0, some (.ref m), v2, v3, v4, v5, some (.ref L), v, v8, v9, v10] H') →
      t D [v0, some (.ref m), v2, v3, v4, v5, some (.ref L), v7, v8, v9, v10] H := by
  refine ⟨_, ps_for PassesOwn.never rfl (pi_range1 (by rfl) C.B.range (pa_cons pe_int pa_nil)) (pg_name (i := 7) scLaw.nd rfl (Or.inl rfl))
    (pss_one (ps_expr (pe_bm PySem.F.plainAttrs_list PySem.F.slot_list_append PySem.F.type_list_append mt_append (pv 6) (pa_cons (pe_cl C.bent (hr.mono (by decide)) rfl pass0 (pa_cons (pv 1) (pa_cons (pe_ix ix_list (pv 6) (pe_cl C.draw (hr.mono (by decide)) rfl pass0 (pa_cons (pv 1) (pa_cons (pe_callB call_len_seq (by rfl) C.B.len (by decide +kernel) (pa_cons (pv 6) pa_nil)) pa_nil))) (fun _ _ => rfl)) (pa_cons pe_str pa_nil)))) pa_nil)))), ?_⟩
  intro D H m g L n ts v0 v2 v3 v4 v5 v7 v8 v9 v10 hS hn hL hl ht hT k
  refine ⟨8, rfl, by decide, by decide, ?_⟩
  refine for_range (lo := 0) (n := 8) (fun i σ H2 => St H2 m g (n + 5 * i) ∧ Tabs [(P, qL)] H2 ∧ ∃ (us : List Str) (v : Option V), H2 L = some (.lst (us.map V.str)) ∧ us.length = 7 + i ∧ (∀ z ∈ us, z.length + 2 ≤ 43 * 2 ^ i ∧ Asc z) ∧ σ = [v0, some (.ref m), v2, v3, v4, v5, some (.ref L), v, v8, v9, v10])
    ⟨hS, hT, ts, _, hL, hl, fun z hz => ⟨by have q := (ht z hz).1; omega, (ht z hz).2⟩, rfl⟩ (fun i σ H2 hi hP => ?_) (fun σ H2 hP => ?_)
  · obtain ⟨S2, T2, us, v, h2, l2, t2, rfl⟩ := hP
    have el : ((us.map V.str).length : Int) = ((7 + i : Nat) : Int) := by rw [List.length_map, l2]
    obtain ⟨x0, r0, eu⟩ : ∃ x r, us.map V.str = V.str x :: r := by
      cases us with
      | nil => simp at l2; omega
      | cons a b => exact ⟨a, _, rfl⟩
    have p8 : 2 ^ i ≤ 128 := by
      have q : 2 ^ i ≤ 2 ^ 7 := Nat.pow_le_pow_right (by decide) (by omega)
      exact q
    obtain ⟨nm, ng⟩ := S2.ne_strs (x := x0) (r := r0) (by rw [← eu]; exact h2)
    refine ⟨_, rfl, .inl ⟨rfl, _, SqL.of h2⟩, _, rfl, _, rfl, _, rfl, _, rfl, L, _, rfl, .inl (SqL.of h2), m, g, _, _, rfl, ⟨by omega, by omega⟩, S2, by omega, fun r H3 r1 r2 S3 x3 => ?_⟩
    obtain ⟨j, rfl⟩ := Int.eq_ofNat_of_zero_le r1
    have hj : j < us.length := by omega
    have h3 := x3 _ _ nm ng h2
    have T3 := tabs_extB T2 S2 x3
    have hx : (us.map V.str)[j]? = some (V.str us[j]) := by rw [List.getElem?_map, List.getElem?_eq_getElem hj] <;> rfl
    obtain ⟨z1, z2⟩ := t2 _ (List.getElem_mem hj)
    generalize us[j] = z at *
    refine ⟨L, _, _, _, rfl, rfl, SqL.of h3, atI_nat hx, m, g, _, z, rfl, S3, by omega, by omega, z2, fun t H4 t1 tA S4 x4 => ?_⟩
    have h4 := x4 _ _ nm ng h3
    have T4 := tabs_extB T3 S3 x4
    refine ⟨L, _, _, rfl, rfl, h4, by rw [List.length_map, sizeLine_eq]; omega, ?_⟩
    have e1 : us.map V.str ++ [V.str t] = (us ++ [t]).map V.str := by rw [List.map_append] <;> rfl
    have pw : 43 * 2 ^ (i + 1) = 2 * (43 * 2 ^ i) := by rw [Nat.pow_succ]; omega
    refine ⟨(S4.put_strs (x := x0) (r := r0) (by rw [← eu]; exact h4)).mono (by omega), tabs_put T4 h4, us ++ [t], _, by rw [upd_same, e1], by rw [List.length_append, l2]; rfl, fun y hy => ?_, rfl⟩
    rw [pw]
    rcases List.mem_append.mp hy with hy | hy
    · have q := t2 y hy
      exact ⟨by omega, q.2⟩
    · rw [List.mem_singleton.mp hy]
      exact ⟨by omega, tA⟩
  · obtain ⟨S2, T2, us, v, h2, l2, t2, rfl⟩ := hP
    exact k v H2 us S2 h2 (fun z hz => ⟨by have q := (t2 z hz).1; omega, (t2 z hz).2⟩) T2
end
end K94
/-! law: the turns over drawn halls. -/
namespace K94
open PySem PySem.Spec PyProof.Rows L2
open LamX (ExtN Tabs TabS CodeO TabB LamS tLam lamCx)
section
variable {w : World} {K : PySem.W.Frag} {mg : Str → Option Value} {base : Heap} {f c P CH CT : Addr} {A : Around} {outer : List Env} {s : Shared} {H0 : Hp}
theorem st_turns (C : LC w K mg base CH CT) (TB : TabB base mg c P) (hgd : A.guards = some []) (hr : Room 6 (XL w K mg base f c A outer s H0).A) :
    ∃ t, PS (XL w K mg base f c A outer s H0) (stL 1) t ∧ ∀ (D : Ends) (H : Hp) (a m g : Addr) (ns : List Int) (v2 v3 v4 v5 v6 v7 v8 v9 v10 : Option V), St H m g 0 → Tabs [(P, qL)] H → SqL K H a (ns.map V.int) → ns.length ≤ 63 →
      (∀ (v2 v3 v4 v5 v6 v7 v8 v9 v10 : Option V) (H' : Hp), Tabs [(P, qL)] H' → D.nx [some (.ref a), some (.ref m), v2, v3, v4, v5, v6, v7, v8, v9, v10] H') →
      t D [some (.ref a), some (.ref m), v2, v3, v4, v5, v6, v7, v8, v9, v10] H := by
  obtain ⟨fK, fdK, FK, gK⟩ := C.like.ex
  obtain ⟨t5, p5, r5⟩ := st_again (w := w) (K := K) (mg := mg) (base := base) (f := f) (c := c) (P := P) (A := A) (outer := outer) (s := s) (H0 := H0) C hr
  obtain ⟨t6, p6, r6⟩ := st_one (w := w) (K := K) (mg := mg) (base := base) (f := f) (c := c) (P := P) (A := A) (outer := outer) (s := s) (H0 := H0) C TB hgd hr
  refine ⟨_, ps_for PassesOwn.never rfl (pi_range1 (by rfl) C.B.range (pa_cons (pe_op op_add pe_int (pe_callB (call_min2 rfl) (by rfl) C.B.min (by decide +kernel) (pa_cons pe_int (pa_cons (pe_callB call_len_seq (by rfl) C.B.len (by decide +kernel) (pa_cons (pv 0) pa_nil)) pa_nil)))) pa_nil)) (pg_name (i := 2) scLaw.nd rfl (Or.inl rfl))
    (pss_cons (ps_set (i := 3) scLaw.nd rfl (Or.inl rfl) (pe_cl C.hall (hr.mono (by decide)) rfl pass0 (pa_cons (pv 1) (pa_cons pe_int (pa_cons pe_int pa_nil)))))
    (pss_cons (ps_set (i := 4) scLaw.nd rfl (Or.inl rfl) (pe_cl C.text (hr.mono (by decide)) rfl pass0 (pa_cons (pv 3) pa_nil)))
    (pss_cons (ps_set (i := 5) scLaw.nd rfl (Or.inl rfl) (pe_lst (pa_cons (pe_cl C.htext (hr.mono (by decide)) rfl passL (pa_cons (pv 3) pa_nil)) (pa_cons (pe_cl C.hread (hr.mono (by decide)) rfl passL (pa_cons (pv 4) pa_nil)) (pa_cons (pe_cl C.htext (hr.mono (by decide)) rfl passL (pa_cons (pv 3) pa_nil)) pa_nil)))))
    (pss_cons (ps_if (pt_not (pt_val (pe_like FK hgd (hr.mono (by decide)) rfl gK C.B.repr (pa_cons (pv 5) (pa_cons (pe_lst (pa_cons (pv 4) (pa_cons (pv 3) (pa_cons (pv 4) pa_nil)))) pa_nil))))) (pss_one (ps_ret pe_bl)) pss_nil)
    (pss_cons (ps_set (i := 6) scLaw.nd rfl (Or.inl rfl) (pe_lst (pa_cons (pv 4) (pa_cons (pe_op op_add_str (pv 4) pe_str) (pa_cons (pe_op op_add_str pe_str (pv 4)) (pa_cons (pe_op op_add_str (pv 4) pe_str) (pa_cons (pe_slice sl_str (pv 4) po_none (po_some (pe_un un_neg pe_int))) (pa_cons (pe_ix ix_list (pe_split (pv 4) pe_str) pe_int (fun _ _ => rfl)) (pa_cons pe_str pa_nil)))))))))
    (pss_cons p5 (pss_one p6))))))), ?_⟩
  intro D H a m g ns v2 v3 v4 v5 v6 v7 v8 v9 v10 hS hT hA hl k
  have el : ((ns.map V.int).length : Int) = (ns.length : Int) := by rw [List.length_map]
  refine ⟨_, rfl, a, _, rfl, .inl hA, _, _, rfl, _, _, rfl, rfl, _, rfl, ?_, ?_, ?_⟩
  · split <;> omega
  · split <;> omega
  have hb : ((3 + if ((ns.map V.int).length : Int) < 8 then ((ns.map V.int).length : Int) else 8) : Int).toNat ≤ 11 := by split <;> omega
  refine for_range (lo := 0) (n := ((3 + if ((ns.map V.int).length : Int) < 8 then ((ns.map V.int).length : Int) else 8) : Int).toNat) (fun i σ H2 => St H2 m g (60 * i) ∧ Tabs [(P, qL)] H2 ∧ ∃ (v2 v3 v4 v5 v6 v7 v8 v9 v10 : Option V), σ = [some (.ref a), some (.ref m), v2, v3, v4, v5, v6, v7, v8, v9, v10])
    ⟨hS, hT, _, _, _, _, _, _, _, _, _, rfl⟩ (fun i σ H2 hi hP => ?_) (fun σ H2 hP => ?_)
  · obtain ⟨S2, T2, w2, w3, w4, w5, w6, w7, w8, w9, w10, rfl⟩ := hP
    refine ⟨_, rfl, m, g, _, rfl, S2, by omega, fun p q sv fs H3 hp hq ho S3 x3 => ?_⟩
    have T3 := tabs_extB T2 S2 x3
    refine ⟨_, rfl, p, q, sv, fs, rfl, hp, hq, ho, ?_⟩
    have zl := hallText_len ho
    have zA := hallText_asc ho
    have zR := read_text ho
    have zS : (hallText sv fs).length ≤ sizeLine := by rw [sizeLine_eq]; omega
    refine ⟨_, rfl, .inr (.inr ⟨p, q, sv, fs, rfl, hp, hq, ho, fun H4 s4 => ?_⟩)⟩
    refine ⟨_, rfl, .inr ⟨hallText sv fs, rfl, by omega, ?_⟩⟩
    rw [zR]
    intro p' q' H5 s5 nP hp' hq'
    have s35 : Same H3 H5 := s4.trans s5
    refine ⟨_, rfl, .inr (.inr ⟨p, q, sv, fs, rfl, s35 _ _ hp, s35 _ _ hq, ho, fun H6 s6 => ?_⟩)⟩
    have s36 : Same H3 H6 := s35.trans s6
    refine ⟨by show 3 ≤ sizeLine; decide, fun L nL => ?_⟩
    have t7 : Same H6 (upd H6 L (.lst [.str (hallText sv fs), .ref p', .str (hallText sv fs)])) := sNew nL
    have hL := upd_same (H := H6) (a := L) (o := .lst [.str (hallText sv fs), .ref p', .str (hallText sv fs)])
    generalize upd H6 L (.lst [.str (hallText sv fs), .ref p', .str (hallText sv fs)]) = H7 at *
    refine ⟨_, rfl, _, rfl, _, rfl, _, rfl, by show 3 ≤ sizeLine; decide, fun L2 nL2 => ?_⟩
    have t8 : Same H7 (upd H7 L2 (.lst [.str (hallText sv fs), .ref p, .str (hallText sv fs)])) := sNew nL2
    have hL2 := upd_same (H := H7) (a := L2) (o := .lst [.str (hallText sv fs), .ref p, .str (hallText sv fs)])
    generalize upd H7 L2 (.lst [.str (hallText sv fs), .ref p, .str (hallText sv fs)]) = H8 at *
    have s68 : Same H6 H8 := t7.trans t8
    have s38 : Same H3 H8 := s36.trans s68
    obtain ⟨fS, fL, fA, _, _⟩ := hall_facts ho
    have dI : OkA ((fs.map PyData.int).length * 28) 0 (fs.map PyData.int) := OkA.all fun d hd => by
      obtain ⟨x, hx, rfl⟩ := List.mem_map.mp hd
      have b := fA x hx
      exact OkD.int (by omega) (by omega)
    have dk : OkD 1000 3 (.list [.str (hallText sv fs), .tuple [.int sv, .tuple (fs.map PyData.int)], .str (hallText sv fs)]) :=
      (OkD.list (OkA.cons (OkD.str zA zl.1) (OkA.cons (OkD.tuple (OkA.cons (OkD.int (i := sv) (h := 1) (by omega) (by omega)) (OkA.cons (OkD.tuple dI) OkA.nil))) (OkA.cons (OkD.str zA zl.1) OkA.nil)))).mono (by rw [List.length_map]; omega) (by decide)
    have dp : ∀ (l u v : Addr), H8 l = some (.lst [.str (hallText sv fs), .ref u, .str (hallText sv fs)]) → H8 u = some (.tup [.int sv, .ref v]) → H8 v = some (.tup (fs.map V.int)) → Dp K H8 (.ref l) (.list [.str (hallText sv fs), .tuple [.int sv, .tuple (fs.map PyData.int)], .str (hallText sv fs)]) := fun l u v h1 h2 h3 =>
      .lst (SqL.of h1) (.cons (.str _) (.cons (.tup (SqT.of h2) (.cons (.int _) (.cons (.tup (SqT.of h3) (dp_ints fs)) .nil))) (.cons (.str _) .nil)))
    refine ⟨L, L2, _, _, _, rfl, dp L p' q' (t8 _ _ hL) (s68 _ _ (s6 _ _ hp')) (s68 _ _ (s6 _ _ hq')), dp L2 p q hL2 (s38 _ _ hp) (s38 _ _ hq), dk, by decide, by decide, true, rfl, iteF ?_⟩
    -- the texts
    have T8 := tabs_same T3 s38
    have S8 := S3.same s38
    have nl1 : ("\n" : Str).length = 1 := by decide +kernel
    have sp1 : (" " : Str).length = 1 := by decide +kernel
    have nlA : Asc ("\n" : Str) := by unfold Asc; decide +kernel
    have spA : Asc (" " : Str) := by unfold Asc; decide +kernel
    have la : ∀ x y : Str, (x ++ y).length = x.length + y.length := fun x y => by rw [TL.len_tl, TL.tl_append, List.length_append, ← TL.len_tl, ← TL.len_tl]
    have e0 := hall_rows (s := sv) (fs := fs) (by omega) fun x hx => by have z := fA x hx; omega
    refine ⟨_, rfl, _, rfl, _, _, rfl, rfl, by rw [nl1, sizeLine_eq]; omega, _, rfl, _, _, rfl, rfl, by rw [nl1, sizeLine_eq]; omega, _, rfl, _, _, rfl, rfl, by rw [sp1, sizeLine_eq]; omega, _, rfl, _, rfl, _, rfl, _, rfl, zS, ?_⟩
    refine ⟨_, rfl, ⟨_, rfl⟩, hallText sv fs, lf, rfl, rfl, by decide +kernel, by rw [sizeLine_eq]; omega, fun Ls nLs => ?_⟩
    have t9 : Same H8 (upd H8 Ls (.lst ((Txt.split (hallText sv fs) lf).map V.str))) := sNew nLs
    have hLs := upd_same (H := H8) (a := Ls) (o := .lst ((Txt.split (hallText sv fs) lf).map V.str))
    generalize upd H8 Ls (.lst ((Txt.split (hallText sv fs) lf).map V.str)) = H9 at *
    have l0 : Txt.join blank [("seats" : Str), nS sv] ∈ Txt.split (hallText sv fs) lf := by
      rw [e0.1]
      exact List.mem_cons_self ..
    have l0A := line_asc zA _ l0
    have l0z := line_le l0
    have hx0 : ((Txt.split (hallText sv fs) lf).map V.str)[0]? = some (V.str (Txt.join blank [("seats" : Str), nS sv])) := by rw [e0.1] <;> rfl
    refine ⟨Ls, _, _, _, rfl, rfl, SqL.of hLs, atI_nat (j := 0) hx0, by show 7 ≤ sizeLine; decide, fun L3 nL3 => ?_⟩
    generalize Txt.join blank [("seats" : Str), nS sv] = y0 at *
    have y1A := cut_asc zA none (some (-1))
    have y1z := cut_len (hallText sv fs) none (some (-1))
    generalize hallText sv fs = z at *
    generalize cutS z none (some (-1)) = y1 at *
    have tA : Same H9 (upd H9 L3 (.lst ([z, z ++ "\n", "\n" ++ z, z ++ " ", y1, y0, Str.ofString ""].map V.str))) := sNew nL3
    have hL3 := upd_same (H := H9) (a := L3) (o := .lst ([z, z ++ "\n", "\n" ++ z, z ++ " ", y1, y0, Str.ofString ""].map V.str))
    have s8A := t9.trans tA
    refine r5 _ _ m g L3 _ [z, z ++ "\n", "\n" ++ z, z ++ " ", y1, y0, Str.ofString ""] _ _ _ _ _ _ _ _ _ (S8.same s8A) (by omega) hL3 rfl (fun y hy => ?_) (tabs_same T8 s8A) (fun v HB us SB hB uB TB' => ?_)
    · have q1 := la z "\n"
      have q2 := la "\n" z
      have q3 := la z " "
      rw [nl1] at q1 q2
      rw [sp1] at q3
      simp only [List.mem_cons, List.not_mem_nil, or_false] at hy
      rcases hy with rfl | rfl | rfl | rfl | rfl | rfl | rfl
      · exact ⟨by omega, zA⟩
      · exact ⟨by omega, zA.app nlA⟩
      · exact ⟨by omega, nlA.app zA⟩
      · exact ⟨by omega, zA.app spA⟩
      · exact ⟨by omega, y1A⟩
      · exact ⟨by omega, l0A⟩
      · exact ⟨by decide +kernel, by unfold Asc; decide +kernel⟩
    · refine r6 _ _ L3 us _ _ _ _ _ _ _ _ _ _ hB uB TB' (fun v' HC eC TC => ?_)
      exact ⟨(SB.extN eC).mono (by omega), TC, _, _, _, _, _, _, _, _, _, rfl⟩
  · obtain ⟨S2, T2, w2, w3, w4, w5, w6, w7, w8, w9, w10, rfl⟩ := hP
    exact k _ _ _ _ _ _ _ _ _ H2 T2
end
end K94
/-! law: the odd ones. -/
namespace K94
open PySem PySem.Spec PyProof.Rows L2
open LamX (ExtN Tabs TabS CodeO TabB LamS tLam lamCx)
section
variable {w : World} {K : PySem.W.Frag} {mg : Str → Option Value} {base : Heap} {f c P CH CT : Addr} {A : Around} {outer : List Env} {s : Shared} {H0 : Hp}
theorem st_odd (C : LC w K mg base CH CT) (TB : TabB base mg c P) (hgd : A.guards = some []) (hr : Room 6 (XL w K mg base f c A outer s H0).A) :
    ∃ t, PS (XL w K mg base f c A outer s H0) (stL 2) t ∧ ∀ (D : Ends) (H : Hp) (v0 v1 v2 v3 v4 v5 v6 v7 v8 v9 v10 : Option V), Tabs [(P, qL)] H →
      (∀ (v : Option V) (H' : Hp), Tabs [(P, qL)] H' → D.nx [v0, v1, v2, v3, v4, v5, v6, v7, v8, v9, v] H') → t D [v0, v1, v2, v3, v4, v5, v6, v7, v8, v9, v10] H := by
  obtain ⟨fK, fdK, FK, gK⟩ := C.like.ex
  refine ⟨_, ps_for PassesOwn.never rfl (pi_tup (pe_tup (pa_cons pe_non (pa_cons pe_int (pa_cons (pe_tup pa_nil) (pa_cons (pe_lst (pa_cons pe_str pa_nil)) (pa_cons pe_bl (pa_cons pe_dnewK pa_nil)))))))) (pg_name (i := 10) scLaw.nd rfl (Or.inr rfl))
    (pss_cons (ps_if (pt_not (pt_val (pe_like FK hgd (hr.mono (by decide)) rfl gK C.B.repr (pa_cons (pe_said (i := 10) C.said C.S C.hread TB rfl hr (show LamS (defScope sLaw) _ from LamX.lamS_by (by decide +kernel)) rfl (.inr (.inr rfl)) rfl rfl rfl (fun _ _ _ _ _ _ => rfl)) (pa_cons (pe_tup (pa_cons pe_str (pa_cons pe_non (pa_cons pe_non pa_nil)))) pa_nil))))) (pss_one (ps_ret pe_bl)) pss_nil)
    (pss_one (ps_if (pt_not (pt_val (pe_like FK hgd (hr.mono (by decide)) rfl gK C.B.repr (pa_cons (pe_said (i := 10) C.said C.S C.htext TB rfl hr (show LamS (defScope sLaw) _ from LamX.lamS_by (by decide +kernel)) rfl (.inr (.inr rfl)) rfl rfl rfl (fun _ _ _ _ _ _ => rfl)) (pa_cons (pe_tup (pa_cons pe_str (pa_cons pe_str pa_nil))) pa_nil))))) (pss_one (ps_ret pe_bl)) pss_nil))), ?_⟩
  intro D H v0 v1 v2 v3 v4 v5 v6 v7 v8 v9 v10 hT k
  refine ⟨by show 0 ≤ sizeLine; decide, fun p0 n0 => ⟨by show 1 ≤ sizeLine; decide, fun p1 n1 => fun p2 n2 => ⟨by show 6 ≤ sizeLine; decide, fun t nt => ⟨t, rfl, ⟨_, SqT.of upd_same⟩, ?_⟩⟩⟩⟩
  have sA := sNew (o := .tup []) n0
  have sB := sNew (o := .lst [.str "seats 1"]) n1
  have sC := sNew (o := .dK []) n2
  have sD := sNew (o := .tup [.non, .int 5, .ref p0, .ref p1, .bl true, .ref p2]) nt
  have h0 := sD _ _ (sC _ _ (sB _ _ (upd_same (H := H) (a := p0) (o := .tup []))))
  have h1 := sD _ _ (sC _ _ (upd_same (H := upd H p0 (.tup [])) (a := p1) (o := .lst [.str "seats 1"])))
  have h2 := sD _ _ (upd_same (H := upd (upd H p0 (.tup [])) p1 (.lst [.str "seats 1"])) (a := p2) (o := .dK []))
  have ht := upd_same (H := upd (upd (upd H p0 (.tup [])) p1 (.lst [.str "seats 1"])) p2 (.dK [])) (a := t) (o := .tup [.non, .int 5, .ref p0, .ref p1, .bl true, .ref p2])
  have T1 := tabs_same hT (sA.trans (sB.trans (sC.trans sD)))
  generalize upd (upd (upd (upd H p0 (.tup [])) p1 (.lst [.str "seats 1"])) p2 (.dK [])) t (.tup [.non, .int 5, .ref p0, .ref p1, .bl true, .ref p2]) = H1 at *
  have odd : ∀ (i : Nat) (x : V), ([.non, .int 5, .ref p0, .ref p1, .bl true, .ref p2] : List V)[i]? = some x → OddV H1 x := fun i x hx => by
    have hm := List.mem_of_getElem? hx
    simp only [List.mem_cons, List.not_mem_nil, or_false] at hm
    rcases hm with rfl | rfl | rfl | rfl | rfl | rfl
    · exact .inl rfl
    · exact .inr (.inl rfl)
    · exact .inr (.inr (.inr (.inl ⟨p0, rfl, h0⟩)))
    · exact .inr (.inr (.inr (.inr (.inl ⟨p1, _, rfl, h1⟩))))
    · exact .inr (.inr (.inl rfl))
    · exact .inr (.inr (.inr (.inr (.inr ⟨p2, rfl, h2⟩))))
  have tw : Asc "text" := by unfold Asc; decide +kernel
  have th : Asc "hall" := by unfold Asc; decide +kernel
  have tf : Asc "form" := by unfold Asc; decide +kernel
  have d1 : OkD 1000 3 (.tuple [.str "text", .none, .none]) := (OkD.tuple (h := 2) (OkA.cons (OkD.str tw (n := 4) (by decide +kernel)) (OkA.cons OkD.none (OkA.cons OkD.none OkA.nil)))).mono (by decide) (by decide)
  have d2 : OkD 1000 3 (.tuple [.str "hall", .str "form"]) := (OkD.tuple (h := 2) (OkA.cons (OkD.str th (n := 4) (by decide +kernel)) (OkA.cons (OkD.str tf (n := 4) (by decide +kernel)) OkA.nil))).mono (by decide) (by decide)
  refine for_tup (K := K) (a := t) (xs := [.non, .int 5, .ref p0, .ref p1, .bl true, .ref p2]) (fun i σ H2 => ExtN H1 H2 ∧ Tabs [(P, qL)] H2 ∧ ∃ v, σ = [v0, v1, v2, v3, v4, v5, v6, v7, v8, v9, v])
    ⟨ExtN.refl H1, T1, _, rfl⟩ (fun i σ H2 _ hP => extN_seqT hP.1 (SqT.of ht)) (fun i x σ H2 hx hP => ?_) (fun σ H2 hP => ?_)
  · obtain ⟨e2, T2, v, rfl⟩ := hP
    have ox := odd i x hx
    refine ⟨T2, fun H3 e3 T3 => said_odd (i := 10) rfl (ox.extN (e2.trans e3)) fun q H4 s4 hq => ?_⟩
    refine ⟨by show 3 ≤ sizeLine; decide, fun u nu => ?_⟩
    have s5 : Same H4 (upd H4 u (.tup [.str "text", .non, .non])) := sNew nu
    have hu := upd_same (H := H4) (a := u) (o := .tup [.str "text", .non, .non])
    generalize upd H4 u (.tup [.str "text", .non, .non]) = H5 at *
    refine ⟨q, u, _, _, _, rfl, .tup (SqT.of (s5 _ _ hq)) (.cons (.str _) (.cons .non (.cons .non .nil))), .tup (SqT.of hu) (.cons (.str _) (.cons .non (.cons .non .nil))), d1, by decide, by decide, true, rfl, iteF ?_⟩
    have e25 : ExtN H2 H5 := e3.trans (ExtN.of (s4.trans s5))
    have T5 := T3.ext (s4.trans s5)
    refine ⟨T5, fun H6 e6 T6 => said_odd2 (i := 10) rfl (ox.extN (e2.trans (e25.trans e6))) fun q2 H7 s7 hq2 => ?_⟩
    refine ⟨by show 2 ≤ sizeLine; decide, fun u2 nu2 => ?_⟩
    have s8 : Same H7 (upd H7 u2 (.tup [.str "hall", .str "form"])) := sNew nu2
    have hu2 := upd_same (H := H7) (a := u2) (o := .tup [.str "hall", .str "form"])
    generalize upd H7 u2 (.tup [.str "hall", .str "form"]) = H8 at *
    refine ⟨q2, u2, _, _, _, rfl, .tup (SqT.of (s8 _ _ hq2)) (.cons (.str _) (.cons (.str _) .nil)), .tup (SqT.of hu2) (.cons (.str _) (.cons (.str _) .nil)), d2, by decide, by decide, true, rfl, iteF ?_⟩
    exact ⟨e2.trans (e25.trans (e6.trans (ExtN.of (s7.trans s8)))), T6.ext (s7.trans s8), _, rfl⟩
  · obtain ⟨e2, T2, v, rfl⟩ := hP
    exact k v H2 T2
end
end K94
/-! law: the texts by hand. -/
namespace K94
open PySem PySem.Spec PyProof.Rows L2
open LamX (ExtN Tabs TabS CodeO TabB LamS tLam lamCx)
/-! ### displays of data -/
def GA (K : PySem.W.Frag) (tr : TA) (ds : List PyData) : Prop := ∀ (σ : L2.St) (H : Hp) (Q : List V → Hp → Prop), (∀ xs H', Same H H' → DpAll K H' xs ds → Q xs H') → tr σ H Q
def GE (K : PySem.W.Frag) (te : TE) (d : PyData) : Prop := ∀ (σ : L2.St) (H : Hp) (Q : VK), (∀ x H', Same H H' → Dp K H' x d → Q x H') → te σ H Q
section
variable {K : PySem.W.Frag}
theorem GA.nil : GA K tNil [] := fun σ H Q k => k [] H (Same.refl H) .nil
theorem GA.cons {te : TE} {tr : TA} {d : PyData} {ds : List PyData} (a : GE K te d) (b : GA K tr ds) : GA K (tCons te tr) (d :: ds) := fun σ H Q k =>
  a σ H _ fun x H1 s1 d1 => b σ H1 _ fun xs H2 s2 d2 => k (x :: xs) H2 (s1.trans s2) (.cons (dp_keep (ExtN.of s2) _ _ d1) d2)
theorem GE.str {z : Str} : GE K (tC (.str z)) (.str z) := fun σ H Q k => k _ H (Same.refl H) (.str z)
theorem GE.int {i : Int} : GE K (tC (.int i)) (.int i) := fun σ H Q k => k _ H (Same.refl H) (.int i)
theorem GE.tup {ta : TA} {ds : List PyData} (a : GA K ta ds) (h : ds.length ≤ 1000) : GE K (tTup ta) (.tuple ds) := fun σ H Q k =>
  a σ H _ fun xs H1 s1 d1 => ⟨by rw [dpA_len d1, sizeLine_eq]; omega, fun p np => k _ _ (s1.trans (sNew np)) (.tup (SqT.of upd_same) (dpA_keep (ExtN.of (sNew np)) _ _ d1))⟩
theorem lst_read {ta : TA} {ds : List PyData} {σ : L2.St} {H : Hp} {Q : VK} (a : GA K ta ds) (h : ds.length ≤ 1000) (k : ∀ p xs H', Same H H' → H' p = some (.lst xs) → DpAll K H' xs ds → Q (.ref p) H') : tLst ta σ H Q :=
  a σ H _ fun xs H1 s1 d1 => ⟨by rw [dpA_len d1, sizeLine_eq]; omega, fun p np => k p xs _ (s1.trans (sNew np)) upd_same (dpA_keep (ExtN.of (sNew np)) _ _ d1)⟩
end
/-! ### displays of written values -/
def GV (tr : TA) (xs : List V) : Prop := ∀ (σ : L2.St) (H : Hp) (Q : List V → Hp → Prop), Q xs H → tr σ H Q
theorem GV.nil : GV tNil [] := fun σ H Q k => k
theorem GV.cons {v : V} {tr : TA} {xs : List V} (b : GV tr xs) : GV (tCons (tC v) tr) (v :: xs) := fun σ H Q k => b σ H _ k
theorem lstV {ta : TA} {xs : List V} {σ : L2.St} {H : Hp} {Q : VK} (a : GV ta xs) (h : xs.length ≤ sizeLine) (k : ∀ p H', Same H H' → H' p = some (.lst xs) → Q (.ref p) H') : tLst ta σ H Q :=
  a σ H _ ⟨h, fun p np => k p _ (sNew np) upd_same⟩
theorem catV {l b : Addr} {xs zs : List V} {H : Hp} {Q : VK} (h1 : H l = some (.lst xs)) (h2 : H b = some (.lst zs)) (h : xs.length + zs.length ≤ sizeLine) (k : ∀ p H', Same H H' → H' p = some (.lst (xs ++ zs)) → Q (.ref p) H') : rCat (.ref l) (.ref b) H Q :=
  ⟨l, b, xs, zs, rfl, rfl, h1, h2, h, fun p np => k p _ (sNew np) upd_same⟩
theorem seq_set {te : TE} {u : TS} {i : Nat} {D : Ends} {σ : L2.St} {H : Hp} (h : te σ H fun x H1 => u D (σ.set i (some x)) H1) : tSeq (tAsg te (gName i)) u D σ H := h
theorem op_var {r : R2} {tb : TE} {i : Nat} {x : V} {σ : L2.St} {H : Hp} {Q : VK} (hv : σ[i]? = some (some x)) (h : tb σ H fun y H1 => r x y H1 Q) : tOp r (tVar i) tb σ H Q := ⟨x, hv, h⟩
abbrev tx (l w : Int) : PyData := .tuple [.str "text", .int l, .int w]
abbrev hx (p : Str) : PyData := .tuple [.str "hall", .str p]
section
variable {K : PySem.W.Frag}
theorem ge_tx {l w : Int} : GE K (tTup (tCons (tC (.str "text")) (tCons (tC (.int l)) (tCons (tC (.int w)) tNil)))) (tx l w) := GE.tup (GA.cons GE.str (GA.cons GE.int (GA.cons GE.int GA.nil))) (by show 3 ≤ 1000; decide)
theorem ge_hx {p : Str} : GE K (tTup (tCons (tC (.str "hall")) (tCons (tC (.str p)) tNil))) (hx p) := GE.tup (GA.cons GE.str (GA.cons GE.str GA.nil)) (by show 2 ≤ 1000; decide)
end
abbrev handT : List Str := ["seats 06\nfares 1", "seats 7\nfares 1", "seats 6\nfares 1 2 3 4 5", "seats 6\nfares", "seats 6 6\nfares 1", "seats 9999999\nfares 1", "seats 10000000\nfares 1",
  "seats 6\nfares 0", "seats 6\nfares  1", "seats 6\nfares 1 100", "seats 6\nfares 2 2", "seats\nfares 1", "Seats 6\nfares 1", "seats 6\nfares 1\n\n"]
abbrev handD : List PyData := [tx 0 1, hx "seats", tx 1 5, tx 1 1, tx 0 2, hx "seats", tx 0 1, hx "fares", tx 1 1, hx "fares", hx "fares", tx 0 1, tx 0 0, tx 2 0]
theorem hand_ok : handT.map (fun z => tellD (outOf (rowsOf z))) = handD := by kernel_rfl
theorem hand_len : ∀ z ∈ handT, z.length ≤ 100 := by decide +kernel
abbrev scC : Scope := { kind := .function, names := [(".0", .local), ("_law_one", .cell), ("_law_said", .globalImplicit)], isGenerator := false, isCoroutine := false, more := [] }
abbrev scM : Scope := { kind := .function, names := [("_law_one", .free), ("read_hall", .globalImplicit)], isGenerator := false, isCoroutine := false, more := [] }
section
variable {w : World} {K : PySem.W.Frag} {mg : Str → Option Value} {base : Heap} {f c P CH CT : Addr} {A : Around} {outer : List Env} {s : Shared} {H0 : Hp}
theorem st_hand (C : LC w K mg base CH CT) (TB : TabB base mg c P) (hgd : A.guards = some []) (hr : Room 6 (XL w K mg base f c A outer s H0).A) :
    ∃ t, PSs (XL w K mg base f c A outer s H0) ((defBody sLaw).drop 3) t ∧ ∀ (D : Ends) (H : Hp) (v0 v1 v2 v3 v4 v5 v6 v7 v8 v9 v10 : Option V), Tabs [(P, qL)] H → (∀ H', D.rt (.bl true) H') → t D [v0, v1, v2, v3, v4, v5, v6, v7, v8, v9, v10] H := by
  obtain ⟨fK, fdK, FK, gK⟩ := C.like.ex
  refine ⟨_, pss_cons (ps_set (i := 6) scLaw.nd rfl (Or.inl rfl) (pe_lst (pa_cons pe_str (pa_cons pe_str (pa_cons pe_str (pa_cons pe_str pa_nil))))))
    (pss_cons (ps_set (i := 6) scLaw.nd rfl (Or.inl rfl) (pe_op op_cat (pv 6) (pe_lst (pa_cons pe_str (pa_cons pe_str (pa_cons pe_str pa_nil))))))
    (pss_cons (ps_set (i := 6) scLaw.nd rfl (Or.inl rfl) (pe_op op_cat (pv 6) (pe_lst (pa_cons pe_str (pa_cons pe_str (pa_cons pe_str pa_nil))))))
    (pss_cons (ps_expr (pe_bm PySem.F.plainAttrs_list PySem.F.slot_list_append PySem.F.type_list_append mt_append (pv 6) (pa_cons pe_str pa_nil)))
    (pss_cons (ps_set (i := 6) scLaw.nd rfl (Or.inl rfl) (pe_op op_cat (pv 6) (pe_lst (pa_cons pe_str (pa_cons pe_str (pa_cons pe_str pa_nil))))))
    (pss_cons (ps_set (i := 8) scLaw.nd rfl (Or.inl rfl) (pe_lst (pa_cons (pe_tup (pa_cons pe_str (pa_cons pe_int (pa_cons pe_int pa_nil)))) (pa_cons (pe_tup (pa_cons pe_str (pa_cons pe_str pa_nil))) (pa_cons (pe_tup (pa_cons pe_str (pa_cons pe_int (pa_cons pe_int pa_nil)))) (pa_cons (pe_tup (pa_cons pe_str (pa_cons pe_int (pa_cons pe_int pa_nil)))) (pa_cons (pe_tup (pa_cons pe_str (pa_cons pe_int (pa_cons pe_int pa_nil)))) pa_nil)))))))
    (pss_cons (ps_set (i := 8) scLaw.nd rfl (Or.inl rfl) (pe_op op_cat (pv 8) (pe_lst (pa_cons (pe_tup (pa_cons pe_str (pa_cons pe_str pa_nil))) (pa_cons (pe_tup (pa_cons pe_str (pa_cons pe_int (pa_cons pe_int pa_nil)))) (pa_cons (pe_tup (pa_cons pe_str (pa_cons pe_str pa_nil))) (pa_cons (pe_tup (pa_cons pe_str (pa_cons pe_int (pa_cons pe_int pa_nil)))) pa_nil)))))))
    (pss_cons (ps_set (i := 8) scLaw.nd rfl (Or.inl rfl) (pe_op op_cat (pv 8) (pe_lst (pa_cons (pe_tup (pa_cons pe_str (pa_cons pe_str pa_nil))) (pa_cons (pe_tup (pa_cons pe_str (pa_cons pe_str pa_nil))) (pa_cons (pe_tup (pa_cons pe_str (pa_cons pe_int (pa_cons pe_int pa_nil)))) (pa_cons (pe_tup (pa_cons pe_str (pa_cons pe_int (pa_cons pe_int pa_nil)))) (pa_cons (pe_tup (pa_cons pe_str (pa_cons pe_int (pa_cons pe_int pa_nil)))) pa_nil))))))))
    (pss_one (ps_ret (pe_like FK hgd (hr.mono (by decide)) rfl gK C.B.repr (pa_cons (pe_lc (own := [("_law_one", 9)]) (g := gName 9) (tt := tYes) (te := tLam [(P, qL)] (TSaid CH CT) fun E => tCall (spRead CH CT) [] E (tCons (tVar 9) tNil)) rfl scLaw.nd (pi_list (pv 6)) (blkOk_by (own := [("_law_one", 9)]) (N := nLaw) (sc := defScope sLaw) (by decide +kernel)) (fun _ _ _ _ _ => pg_name (i := 9) scLaw.nd rfl (Or.inr rfl)) (fun _ _ _ _ _ => pts_nil)
        (fun s1 H1 C1 cl fp => pe_said (X := (XL w K mg base f c A outer s H0).blk s1 H1 scC (compEnvC scC cl C1 (XL w K mg base f c A outer s H0).env) fp) (scope := scM) (i := 9) C.said C.S C.hread TB rfl hr (LamX.lamS_by (by rfl)) rfl (.inr (.inr rfl)) rfl rfl rfl (fun _ _ _ _ _ _ => rfl))) (pa_cons (pv 8) pa_nil)))))))))))), ?_⟩
  intro D H v0 v1 v2 v3 v4 v5 v6 v7 v8 v9 v10 hT k
  refine seq_set (lstV (GV.cons (GV.cons (GV.cons (GV.cons GV.nil)))) (by show 4 ≤ sizeLine; decide) fun L1 H1 s1 h1 => ?_)
  refine seq_set (op_var rfl (lstV (GV.cons (GV.cons (GV.cons GV.nil))) (by show 3 ≤ sizeLine; decide) fun L2 H2 s2 h2 => catV (s2 _ _ h1) h2 (by show 7 ≤ sizeLine; decide) fun L3 H3 s3 h3 => ?_))
  refine seq_set (op_var rfl (lstV (GV.cons (GV.cons (GV.cons GV.nil))) (by show 3 ≤ sizeLine; decide) fun L4 H4 s4 h4 => catV (s4 _ _ h3) h4 (by show 10 ≤ sizeLine; decide) fun L5 H5 s5 h5 => ?_))
  have T5 := tabs_same hT (s1.trans (s2.trans (s3.trans (s4.trans s5))))
  refine ⟨_, rfl, .inl ⟨rfl, _, SqL.of h5⟩, L5, _, _, rfl, rfl, h5, by show 10 < sizeLine; decide, ?_⟩
  refine seq_set (op_var rfl (lstV (GV.cons (GV.cons (GV.cons GV.nil))) (by show 3 ≤ sizeLine; decide) fun L6 H6 s6 h6 => catV (s6 _ _ upd_same) h6 (by show 14 ≤ sizeLine; decide) fun L7 H7 s7 h7' => ?_))
  have h7 : H7 L7 = some (.lst (handT.map V.str)) := h7'
  have T7 := tabs_same (tabs_put T5 h5) (s6.trans s7)
  -- what is due
  refine seq_set (lst_read (K := K) (GA.cons ge_tx (GA.cons ge_hx (GA.cons ge_tx (GA.cons ge_tx (GA.cons ge_tx GA.nil))))) (by show 5 ≤ 1000; decide) fun M1 xs1 H8 s8 m1 d1 => ?_)
  refine seq_set (op_var rfl (lst_read (K := K) (GA.cons ge_hx (GA.cons ge_tx (GA.cons ge_hx (GA.cons ge_tx GA.nil)))) (by show 4 ≤ 1000; decide) fun M2 xs2 H9 s9 m2 d2 => catV (s9 _ _ m1) m2 (by rw [dpA_len d1, dpA_len d2]; show 5 + 4 ≤ sizeLine; decide) fun M3 HA sA m3 => ?_))
  have d3 := dpA_app (dpA_keep (ExtN.of (s9.trans sA)) _ _ d1) (dpA_keep (ExtN.of sA) _ _ d2)
  refine seq_set (op_var rfl (lst_read (K := K) (GA.cons ge_hx (GA.cons ge_hx (GA.cons ge_tx (GA.cons ge_tx (GA.cons ge_tx GA.nil))))) (by show 5 ≤ 1000; decide) fun M4 xs4 HB sB m4 d4 => catV (sB _ _ m3) m4 (by rw [dpA_len d3, dpA_len d4]; show 9 + 5 ≤ sizeLine; decide) fun M5 HC sC m5 => ?_))
  have d5 := dpA_app (dpA_keep (ExtN.of (sB.trans sC)) _ _ d3) (dpA_keep (ExtN.of sC) _ _ d4)
  have dd : Dp K HC (.ref M5) (.list handD) := .lst (SqL.of m5) d5
  have s7C := s8.trans (s9.trans (sA.trans (sB.trans sC)))
  have hC := s7C _ _ h7
  have TC := tabs_same T7 s7C
  refine ⟨_, rfl, L7, rfl, ⟨_, SqL.of hC⟩, fun D1 hD1 => ?_⟩
  refine lc_it (walk_list (xs := handT.map V.str) (K := K) (a := L7)) (fun i H => ExtN HC H ∧ Tabs [(P, qL)] H ∧ ∃ acc, H D1 = some (.lst acc) ∧ acc.length = i ∧ DpAll K (del H D1) acc ((handT.take i).map fun z => tellD (outOf (rowsOf z))))
    ⟨ExtN.of (sNew hD1), tabs_same TC (sNew hD1), [], upd_same, rfl, .nil⟩ (fun i H _ hP => extN_seqL hP.1 (SqL.of hC)) (fun i x H H' hi hP hY => ?_) (fun H hP => ?_)
  · obtain ⟨rfl, hx⟩ := hY
    obtain ⟨e1, T1, acc, a1, a2, a3⟩ := hP
    obtain ⟨hi2, rfl⟩ := map_at hx Str.empty
    have hz := hand_len _ (by rw [List.getD_eq_getElem?_getD, List.getElem?_eq_getElem hi2]; exact List.getElem_mem hi2 : handT.getD i Str.empty ∈ handT)
    have et : handT.take (i + 1) = handT.take i ++ [handT.getD i Str.empty] := by
      rw [List.getD_eq_getElem?_getD, List.take_succ, List.getElem?_eq_getElem hi2] <;> rfl
    have hn : acc.length < sizeLine := by
      rw [a2, sizeLine_eq]
      have e : handT.length = 14 := rfl
      omega
    generalize handT.getD i Str.empty = z at *
    refine ⟨rfl, yesI ⟨T1, fun H3 e3 T3 => said_read (K := K) (z := z) (i := 9) rfl (by omega) fun q H4 s4 nq dq dqD => ?_⟩⟩
    have a13 := e3 _ _ a1 (fun _ z => by cases z)
    have a14 := s4 _ _ a13
    have e14 : ExtN HC H4 := e1.trans (e3.trans (ExtN.of s4))
    refine ⟨acc, a14, hn, fun b o e n => ?_, tabs_put (T3.ext s4) a14, acc ++ [.ref q], upd_same, by rw [List.length_append, a2]; rfl, ?_⟩
    · rw [upd_ne (ne_of_none e hD1)]
      exact e14 b o e n
    · rw [del_upd, et, List.map_append]
      exact dpA_snoc (dpA_keep (del_ext (e3.trans (ExtN.of s4))) _ _ a3) (dqD D1 acc a13)
  · obtain ⟨e1, T1, acc, a1, a2, a3⟩ := hP
    rw [List.length_map, List.take_length, hand_ok] at a3
    have ok : OkD 14014 4 (.list handD) := by
      rw [← hand_ok]
      exact OkD.list (OkA.all fun d hd => by
        obtain ⟨z, hz, rfl⟩ := List.mem_map.mp hd
        exact tell_ok (z := z) (by have q := hand_len z hz; omega))
    exact ⟨_, rfl, D1, M5, .list handD, _, _, rfl, .lst (SqL.of a1) (dpA_keep (del_sub _ D1) _ _ a3), dp_keep e1 _ _ dd, ok, by decide, by decide, k _⟩
end
end K94
/-! law, run by its caller. -/
namespace K94
open PySem PySem.Spec PyProof.Rows L2
open LamX (ExtN Tabs TabS CodeO TabB LamS tLam lamCx)
section
variable {w : World} {K : PySem.W.Frag} {mg : Str → Option Value} {base : Heap} {f c P CH CT : Addr} {A : Around} {outer : List Env} {s : Shared} {H0 : Hp}
theorem law_body (C : LC w K mg base CH CT) (TB : TabB base mg c P) (hgd : A.guards = some []) (hr : Room 6 (XL w K mg base f c A outer s H0).A) :
    ∃ t, PSs (XL w K mg base f c A outer s H0) (defBody sLaw) t ∧ ∀ (D : Ends) (H : Hp) (a : Addr) (ns : List Int), Tabs [(P, qL)] H → SqL K H a (ns.map V.int) → ns.length ≤ 63 → (∀ H', D.rt (.bl true) H') → t D (L2.start nLaw [.ref a]) H := by
  obtain ⟨t1, p1, r1⟩ := st_turns (w := w) (K := K) (mg := mg) (base := base) (f := f) (c := c) (P := P) (A := A) (outer := outer) (s := s) (H0 := H0) C TB hgd hr
  obtain ⟨t2, p2, r2⟩ := st_odd (w := w) (K := K) (mg := mg) (base := base) (f := f) (c := c) (P := P) (A := A) (outer := outer) (s := s) (H0 := H0) C TB hgd hr
  obtain ⟨t3, p3, r3⟩ := st_hand (w := w) (K := K) (mg := mg) (base := base) (f := f) (c := c) (P := P) (A := A) (outer := outer) (s := s) (H0 := H0) C TB hgd hr
  refine ⟨_, pss_cons (ps_set (i := 1) scLaw.nd rfl (Or.inl rfl) (pe_cl C.begun (hr.mono (by decide)) rfl pass0 (pa_cons (pv 0) pa_nil))) (pss_cons p1 (pss_cons p2 p3)), ?_⟩
  intro D H a ns hT hA hl k
  refine ⟨_, rfl, a, ns, rfl, hA, by omega, fun m g H1 s1 nm ng S1 => ?_⟩
  refine r1 _ _ a m g ns _ _ _ _ _ _ _ _ _ S1 (tabs_same hT s1) (s1.seq hA) hl (fun _ _ _ _ _ _ _ _ _ H2 T2 => ?_)
  refine r2 _ _ _ _ _ _ _ _ _ _ _ _ _ T2 (fun _ H3 T3 => ?_)
  exact r3 _ _ _ _ _ _ _ _ _ _ _ _ _ T3 k
theorem law_run {fa a : Addr} {ns : List Int} {oc kV doc pm ct : Value} {od an : Option Addr} {osl : Array (Option Value)} {H : Hp}
    (lk : K.lookup fa = some ⟨oc, od, .func (PySem.W.fnOf "law" "law" (defArgs sLaw) (defBody sLaw) (defScope sLaw) .none kV doc pm an (.ref c) ct), osl⟩) (hcd : PySem.W.codeIn K (.ref c) "law" = true)
    (C : LC w K mg base CH CT) (TB : TabB base mg c P) (e0 : Env0 P0 w K mg base callerA [] s H) (hA : SqL K H a (ns.map V.int)) (hl : ns.length ≤ 63) (hT : H P = some (.tbl #[])) :
    codeAny (model P0 w) callerA (.call (.ref fa) ⟨[.ref a], []⟩) (CR CX0 [] P0 w H s (fun v _ => v = .bl true) E0) s := by
  refine LamX.run_ofS (k := 6) (N := nLaw) (ps := ["_law_script"]) (us := [.ref a]) (vs := [.ref a]) lk hcd scLaw ⟨rfl, by decide, by decide⟩ e0 (.of_eq rfl) (.cons rfl .nil) rfl fun hr => ?_
  obtain ⟨t, p, r⟩ := law_body (w := w) (K := K) (mg := mg) (base := base) (f := fa) (c := c) (P := P) (A := callerA) (outer := []) (s := s) (H0 := H) C TB rfl hr
  refine ⟨t, p.nox, r _ H a ns (fun q hq => ?_) hA hl fun _ => rfl⟩
  rw [List.mem_singleton.mp hq]
  exact LamX.TabS.nil hT
end
end K94
/-! The end: the law's call by its caller, whose guards are known; the script and the one table are tracked. -/
namespace K94
open PySem PySem.Spec PyProof.Rows L2
open LamX (TabB)
/-- what is tracked at the call: the table at P, and the script at a where the written part does not hold it -/
def trackAt (K : PySem.W.Frag) (a P : Addr) (ob : Obj) (xs : List V) : Hp := fun b =>
  if b = P then some (.tbl #[]) else if b = a ∧ K.lookup a = none then some (.frz ob (.lst xs)) else none
structure CallAt (K : PySem.W.Frag) (mg mb : Str → Option Value) (st : Shared) (a P c : Addr) (us : List Value) (ns : List Int) : Prop where
  kin : K.In st.heap
  glob : st.heap.Ns mainGlobals mg
  blt : st.heap.Ns builtinsNs mb
  boot : ∀ x : Str, x ≠ "__name__" → mb x = bootBuiltins x
  lim : st.heap.NoLimit
  gens : st.gens = #[]
  mod : ∃ (bm : Addr) (ob : Obj), mg "__builtins__" = some (.ref bm) ∧ bm ≠ builtinsNs ∧ st.heap.get? bm = some ob ∧ ob.cls = .type "module" ∧ ob.dict = some builtinsNs ∧ ob.data = .plain
  tab : st.heap.get? P = some { cls := .none, data := .fields #[] }
  noP : K.lookup P = none
  code : PySem.W.CodeHd st.heap c P
  scr : st.heap.get? a = some { cls := .type "list", data := .seq us.toArray }
  nums : IntsAre us ns
  few : ns.length ≤ 63
section
variable {w : World} {K : PySem.W.Frag} {mg mb : Str → Option Value} {st : Shared} {a P c : Addr} {us : List Value} {ns : List Int}
abbrev scrO (us : List Value) : Obj := { cls := .type "list", data := .seq us.toArray }
theorem CallAt.ne (X : CallAt K mg mb st a P c us ns) : a ≠ P := fun z => by
  have q := X.scr
  rw [z, X.tab] at q
  cases q
theorem track_P {ob : Obj} {xs : List V} : trackAt K a P ob xs P = some (.tbl #[]) := if_pos rfl
theorem track_cases {ob : Obj} {xs : List V} {b : Addr} {u : HO} (h : trackAt K a P ob xs b = some u) : (b = P ∧ u = .tbl #[]) ∨ (b = a ∧ K.lookup a = none ∧ u = .frz ob (.lst xs)) := by
  unfold trackAt at h
  by_cases h1 : b = P
  · rw [if_pos h1] at h
    exact .inl ⟨h1, (Option.some.inj h).symm⟩
  · rw [if_neg h1] at h
    by_cases h2 : b = a ∧ K.lookup a = none
    · rw [if_pos h2] at h
      exact .inr ⟨h2.1, h2.2, (Option.some.inj h).symm⟩
    · rw [if_neg h2] at h
      cases h
/-- of an object that is neither a table nor a list nothing is tracked -/
theorem CallAt.free (X : CallAt K mg mb st a P c us ns) {xs : List V} {b : Addr} {o : Obj} (e : st.heap.get? b = some o) (n1 : o.data ≠ .fields #[]) (n2 : o.data ≠ .seq us.toArray) : trackAt K a P (scrO us) xs b = none := by
  cases q : trackAt K a P (scrO us) xs b with
  | none => rfl
  | some u =>
    exfalso
    rcases track_cases q with ⟨rfl, _⟩ | ⟨rfl, _, _⟩
    · rw [X.tab] at e
      cases e
      exact n1 rfl
    · rw [X.scr] at e
      cases e
      exact n2 rfl
theorem CallAt.seen (X : CallAt K mg mb st a P c us ns) {xs : List V} {b : Addr} {o : Obj} (e : st.heap.get? b = some o) (n1 : o.data ≠ .fields #[]) (n2 : o.data ≠ .seq us.toArray) : (hidT st.heap (trackAt K a P (scrO us) xs)).get? b = some o := hidT_get e (X.free e n1 n2)
theorem CallAt.ns_ (X : CallAt K mg mb st a P c us ns) {xs : List V} {b : Addr} {m : Str → Option Value} (h : st.heap.Ns b m) : (hidT st.heap (trackAt K a P (scrO us) xs)).Ns b m := by
  obtain ⟨o, es, ep, e, d, r⟩ := h
  exact ⟨o, es, ep, X.seen e (fun z => by rw [d] at z; cases z) (fun z => by rw [d] at z; cases z), d, r⟩
theorem CallAt.kin_ (X : CallAt K mg mb st a P c us ns) {xs : List V} : K.In (hidT st.heap (trackAt K a P (scrO us) xs)) := fun b o e => hidT_get (X.kin b o e) (by
  cases q : trackAt K a P (scrO us) xs b with
  | none => rfl
  | some u =>
    exfalso
    rcases track_cases q with ⟨rfl, _⟩ | ⟨rfl, k, _⟩
    · rw [X.noP] at e
      cases e
    · rw [k] at e
      cases e)
theorem CallAt.tabB (X : CallAt K mg mb st a P c us ns) {xs : List V} : TabB (hidT st.heap (trackAt K a P (scrO us) xs)) mg c P := by
  obtain ⟨o, vs, fl, t1, n1, t2, b1, n2, t3, e, cl, d, v11, r⟩ := X.code
  obtain ⟨bm, ob, m1, m2, m3, m4, m5, m6⟩ := X.mod
  obtain ⟨og, es, ep, eg, dg, _⟩ := X.glob
  refine ⟨⟨o, vs, fl, t1, n1, t2, b1, n2, t3, X.seen e (fun z => ?_) (fun z => by rw [d] at z; cases z), cl, d, v11, r⟩, ⟨bm, ob, m1, m2, fun z => ?_, fun z => ?_, X.seen m3 (fun z => by rw [m6] at z; cases z) (fun z => by rw [m6] at z; cases z), m4, m5, m6⟩, fun z => ?_⟩
  · rw [d] at z
    injection z with z
    rw [z] at v11
    cases v11
  · rw [z, eg] at m3
    injection m3 with m3
    rw [m3, m6] at dg
    cases dg
  · rw [z, X.tab] at m3
    injection m3 with m3
    rw [← m3] at m6
    cases m6
  · rw [z, X.tab] at eg
    injection eg with eg
    rw [← eg] at dg
    cases dg
theorem CallAt.hok (X : CallAt K mg mb st a P c us ns) : HOk P0 w (trackAt K a P (scrO us) (ns.map V.int)) st.heap := fun b u q => by
  have l := X.few
  rcases track_cases q with ⟨rfl, rfl⟩ | ⟨rfl, _, rfl⟩
  · exact X.tab
  · exact ⟨X.scr, by rw [List.length_map, sizeLine_eq]; omega, us, _, vals_ints X.nums, X.scr⟩
theorem CallAt.env (X : CallAt K mg mb st a P c us ns) : Env0 P0 w K mg (hidT st.heap (trackAt K a P (scrO us) (ns.map V.int))) callerA [] st (trackAt K a P (scrO us) (ns.map V.int)) where
  frames := rfl
  mod := ⟨X.kin_, X.ns_ X.glob, ⟨mb, X.ns_ X.blt, X.boot⟩, by obtain ⟨m, h1, h2⟩ := X.lim; exact ⟨m, X.ns_ h1, h2⟩⟩
  bs := fun b o e => of_hidT e
  bsz := Nat.le_of_eq (hidT_size _ _)
  funs := trivial
  frf := fun b hb => by cases hb
  hok := X.hok
  bare := .of_eq X.gens
theorem CallAt.list (X : CallAt K mg mb st a P c us ns) : SqL K (trackAt K a P (scrO us) (ns.map V.int)) a (ns.map V.int) := by
  cases q : K.lookup a with
  | none => exact .inl (.inr ⟨_, (if_neg X.ne).trans (if_pos ⟨rfl, q⟩)⟩)
  | some o =>
    have e := X.kin a o q
    rw [X.scr] at e
    cases e
    have lv := X.nums.length
    have l := X.few
    exact .inr ⟨_, us.toArray, _, q, rfl, rfl, rfl, by rw [List.size_toArray, sizeLine_eq]; omega, by simpa using vals_ints X.nums⟩
/-- what stood at the call stands behind it; the table may have grown -/
theorem CallAt.old (X : CallAt K mg mb st a P c us ns) {s' : Shared} {H' : Hp} (un : Un (frs ([] : List Env)) [] (trackAt K a P (scrO us) (ns.map V.int)) H' st.heap s'.heap) (ok : HOk P0 w H' s'.heap) : OldK st.heap s'.heap := by
  obtain ⟨more, hm⟩ := un.tbls P #[] track_P
  have grown : s'.heap.get? P = some { cls := .none, data := .fields (#[] ++ more) } := ok P _ hm
  have stay : ∀ b o, b ≠ P → st.heap.get? b = some o → s'.heap.get? b = some o := fun b o nb e => by
    cases q : trackAt K a P (scrO us) (ns.map V.int) b with
    | none => exact un.keep b o e q (fun z => by cases z) (fun z => by cases z)
    | some u =>
      rcases track_cases q with ⟨z, _⟩ | ⟨rfl, k, rfl⟩
      · exact absurd z nb
      · have z := (ok _ _ (un.frzs _ _ _ q)).1
        rw [X.scr] at e
        rw [← e]
        exact z
  refine ⟨fun b o e => ?_, fun b o e => ?_⟩
  · by_cases hb : b = P
    · rw [hb] at e ⊢
      rw [X.tab] at e
      cases e
      exact .inr (.inl ⟨((X.code).tab X.tab).isCodeTable, rfl, #[], more, rfl, grown⟩)
    · exact .inl (stay b o hb e)
  · by_cases hb : b = P
    · rw [hb]
      exact ⟨_, grown⟩
    · exact ⟨o, stay b o hb e⟩
theorem law_end {fa CH CT : Addr} {oc kV doc pm ct : Value} {od an : Option Addr} {osl : Array (Option Value)} (X : CallAt K mg mb st a P c us ns)
    (lk : K.lookup fa = some ⟨oc, od, .func (PySem.W.fnOf "law" "law" (defArgs sLaw) (defBody sLaw) (defScope sLaw) .none kV doc pm an (.ref c) ct), osl⟩) (hcd : PySem.W.codeIn K (.ref c) "law" = true)
    (C : ∀ base, LC w K mg base CH CT) : codeAny (model P0 w) callerA (.call (.ref fa) ⟨[.ref a], []⟩) (fun r s' => r = .ok (.ret (.bool true)) ∧ OldK st.heap s'.heap ∧ s'.os = st.os ∧ AllBare s'.gens) st := by
  refine codeAny_mono (law_run (H := trackAt K a P (scrO us) (ns.map V.int)) lk hcd (C _) X.tabB X.env X.list X.few track_P) fun r s' q => ?_
  match r, q with
  | .ok (.ret u), ⟨v, H', os, bare, un, ok, rv, hv⟩ =>
    subst hv
    have eu : u = Value.bool true := rv
    exact ⟨by rw [eu], X.old un ok, os, bare⟩
end
/-- the facts of the law's own function -/
structure LawF (w : World) (K : PySem.W.Frag) (mg : Str → Option Value) (fa : Addr) : Prop where
  ex : ∃ (c P CH CT : Addr) (oc kV doc pm ct : Value) (od an : Option Addr) (osl : Array (Option Value)) (e : Value) (dd : Option Addr) (vs : Array Value) (sl : Array (Option Value)),
    K.lookup fa = some ⟨oc, od, .func (PySem.W.fnOf "law" "law" (defArgs sLaw) (defBody sLaw) (defScope sLaw) .none kV doc pm an (.ref c) ct), osl⟩ ∧ PySem.W.codeIn K (.ref c) "law" = true ∧
    K.lookup c = some ⟨e, dd, .fields vs, sl⟩ ∧ vs[11]? = some (.ref P) ∧ PySem.W.codeHdIn K c P = true ∧ K.lookup P = none ∧ ∀ base, LC w K mg base CH CT
theorem walk_k94 {q : Program} {loose : List Str} {XP : (Str → Option Value) → Heap → Prop} {YP : World → Heap → Prop} {d : DefRec} {K : Params → PySem.W.Frag} (hdf : d.params.defaults = []) (hrec : ((recsOf q).any fun e => e.name == d.name) = true)
    (hY : ∀ (w : World) (h : Heap), YP w h → (K w.params).In h) (F : ∀ (w : World) (mg : Str → Option Value) (fa : Addr) (h : Heap), (K w.params).In h → h.Ns mainGlobals mg → mg d.name = some (.ref fa) → LawF w (K w.params) mg fa) :
    PySem.W.WalkO q loose XP YP PySem.Challenge.rw_booklimits_k94_whole_texts_of_halls.row.toRowW d [] (fun f vs => PySem.call f vs) := by
  refine Att.attach_callB (l := PySem.Challenge.rw_booklimits_k94_whole_texts_of_halls) (n := 63) rfl hdf fun w s0 st mg mb fa _ _ _ _ a us ns G Y _ _ _ hm hscr hints hlen _ hgen => ?_
  have kin := hY w _ Y
  obtain ⟨c, P, CH, CT, oc, kV, doc, pm, ct, od, an, osl, e, dd, vs, sl, lk, hcd, lc, v11, hd, noP, C⟩ := (F w mg fa _ kin G.T.g hm).ex
  -- the law's own table is empty yet
  have tab : st.heap.get? P = some { cls := .none, data := .fields #[] } := by
    obtain ⟨r, hr, er⟩ := List.any_eq_true.mp hrec
    obtain ⟨f1, o1, d1, c1, P1, g1, g2, g3, g4, g5, g6⟩ := G.T.tab r hr
    rw [beq_iff_eq.mp er, hm] at g1
    cases g1
    have k1 := kin _ _ lk
    rw [k1] at g2
    cases g2
    cases g3
    cases g4
    obtain ⟨⟨o2, v2, h1, _, h3, h4⟩, h5⟩ := g6
    have k2 := kin _ _ lc
    rw [k2] at h1
    cases h1
    cases h3
    rw [v11] at h4
    cases h4
    exact h5
  exact law_end ⟨kin, G.T.g, G.T.b, G.T.builtins, G.T.nolimit, hgen, G.T.bmain, tab, noP, PySem.W.codeHd_of_K kin hd, hscr, hints, hlen⟩ lk hcd C
end K94
/-! The facts of the top, gathered. -/
namespace K94
open PySem PySem.Spec PyProof.Rows L2
theorem fun_df {K : PySem.W.Frag} {h : Heap} {mg : Str → Option Value} (X : K.In h) (G : h.Ns mainGlobals mg) {x : Str} {st : Stmt} {f : Addr} {od an : Option Addr} {sl : Array (Option Value)} {oc kV dc pm cd ct : Value}
    (a : PySem.W.nsIn K mainGlobals x = some (some (.ref f))) (l : K.lookup f = some ⟨oc, od, .func (PySem.W.fnOf x x (defArgs st) (defBody st) (defScope st) .none kV dc pm an cd ct), sl⟩) (c : PySem.W.codeIn K cd x = true) (k : PySem.W.keepIn K (.ref f) = true) : D1 K mg x st :=
  ⟨f, _, fun_mk l c k, PySem.W.mg_of X G a⟩
/-- the defs, as they stand behind the top -/
structure AllD (K : PySem.W.Frag) (mg : Str → Option Value) : Prop where
  whole : D1 K mg "is_whole" sWhole
  need : D1 K mg "need_hall" sNeed
  join : D1 K mg "joined" sJoin
  text : D1 K mg "hall_text" sText
  num : D1 K mg "is_number" sNum
  lines : D1 K mg "lines_of" sLines
  nn : D1 K mg "needed_numbers" sNN
  ne : D1 K mg "needed_end" sNE
  read : D1 K mg "read_hall" sRead
  mixed : D1 K mg "_law_mixed" sMixed
  folded : D1 K mg "_law_folded" sFolded
  draw : D1 K mg "_law_draw" sDraw
  begun : D1 K mg "_law_begun" sBegun
  like : D1 K mg "_law_like" sLike
  fares : D1 K mg "_law_fares" sFares
  hall : D1 K mg "_law_hall" sHall
  said : D1 K mg "_law_said" sSaid
  bent : D1 K mg "_law_bent" sBent
  lnum : D1 K mg "_law_is_number" sLNum
  ltext : D1 K mg "_law_text" sLText
  wrong : D1 K mg "_law_line_wrong" sWrong
  lread : D1 K mg "_law_read" sLRead
theorem lc_mk {w : World} {K : PySem.W.Frag} {mg : Str → Option Value} {CH fH CT fT : Addr} (B : Bn mg) (T : ErrT K mg CH fH CT fT) (S : SaidT K mg CH CT) (A : AllD K mg) (base : Heap) : LC w K mg base CH CT := by
  obtain ⟨fW, dW, FW, gW⟩ := A.whole.ex
  obtain ⟨fN, dN, FN, gN⟩ := A.need.ex
  obtain ⟨fJ, dJ, FJ, gJ⟩ := A.join.ex
  obtain ⟨fX, dX, FX, gX⟩ := A.text.ex
  obtain ⟨fU, dU, FU, gU⟩ := A.num.ex
  obtain ⟨fL, dL, FL, gL⟩ := A.lines.ex
  obtain ⟨fA, dA, FA, gA⟩ := A.nn.ex
  obtain ⟨fE, dE, FE, gE⟩ := A.ne.ex
  obtain ⟨fR, dR, FR, gR⟩ := A.read.ex
  obtain ⟨fM, dM, FM, gM⟩ := A.mixed.ex
  obtain ⟨fF, dF, FF, gF⟩ := A.folded.ex
  obtain ⟨fD, dD, FD, gD⟩ := A.draw.ex
  obtain ⟨fB, dB, FB, gB⟩ := A.begun.ex
  obtain ⟨fS, dS, FS, gS⟩ := A.fares.ex
  obtain ⟨fH2, dH, FH, gH⟩ := A.hall.ex
  obtain ⟨fO, dO, FO, gO⟩ := A.bent.ex
  obtain ⟨fP, dP, FP, gP⟩ := A.lnum.ex
  obtain ⟨fQ, dQ, FQ, gQ⟩ := A.ltext.ex
  obtain ⟨fV, dV, FV, gV⟩ := A.wrong.ex
  obtain ⟨fZ, dZ, FZ, gZ⟩ := A.lread.ex
  exact {
    B := B
    S := S
    begun := ⟨fB, dB, ok_begun FB B FF gF, gB, FB.kp, FB.binds (ps := ["_law_script"]) fun _ _ _ _ _ _ us hl => match us, hl with | [_], _ => rfl⟩
    hall := ⟨fH2, dH, ok_hall FH B FS gS FD gD FM gM, gH, FH.kp, FH.binds (ps := ["_law_m", "_law_seats", "_law_fares_here"]) fun _ _ _ _ _ _ us hl => match us, hl with | [_, _, _], _ => rfl⟩
    text := ⟨fQ, dQ, ok_ltext FQ B, gQ, FQ.kp, FQ.binds (ps := ["_law_hall_so"]) fun _ _ _ _ _ _ us hl => match us, hl with | [_], _ => rfl⟩
    draw := ⟨fD, dD, ok_draw FD B FM gM, gD, FD.kp, FD.binds (ps := ["_law_m", "_law_limit"]) fun _ _ _ _ _ _ us hl => match us, hl with | [_, _], _ => rfl⟩
    bent := ⟨fO, dO, ok_bent FO B FD gD FM gM, gO, FO.kp, FO.binds (ps := ["_law_m", "_law_text_here", "_law_signs"]) fun _ _ _ _ _ _ us hl => match us, hl with | [_, _, _], _ => rfl⟩
    lread := ⟨fZ, dZ, ok_lread FZ B FV gV FP gP, gZ, FZ.kp, FZ.binds (ps := ["_law_sheet"]) fun _ _ _ _ _ _ us hl => match us, hl with | [_], _ => rfl⟩
    htext := ⟨fX, dX, ok_text FX B T FW gW FN gN FJ gJ, gX, FX.kp, FX.binds (ps := ["hall"]) fun _ _ _ _ _ _ us hl => match us, hl with | [_], _ => rfl⟩
    hread := ⟨fR, dR, ok_read FR B T FL gL FU gU FA gA FE gE FW gW FN gN, gR, FR.kp, FR.binds (ps := ["text"]) fun _ _ _ _ _ _ us hl => match us, hl with | [_], _ => rfl⟩
    said := A.said
    like := A.like }
theorem bn_mk {K : PySem.W.Frag} {h : Heap} {mg : Str → Option Value} (X : K.In h) (G : h.Ns mainGlobals mg) {t0 t1 t2 t3 t4 t5 t6 : Tok} (z0 : PySem.W.nsIn K mainGlobals "isinstance" = some none) (z1 : PySem.W.nsIn K mainGlobals "int" = some none) (z2 : PySem.W.nsIn K mainGlobals "bool" = some none) (z3 : PySem.W.nsIn K mainGlobals "tuple" = some none) (z4 : PySem.W.nsIn K mainGlobals "str" = some none) (z5 : PySem.W.nsIn K mainGlobals "len" = some none) (z6 : PySem.W.nsIn K mainGlobals "all" = some none) (z7 : PySem.W.nsIn K mainGlobals "zip" = some none) (z8 : PySem.W.nsIn K mainGlobals "range" = some none) (z9 : PySem.W.nsIn K mainGlobals "enumerate" = some none) (z10 : PySem.W.nsIn K mainGlobals "min" = some none) (z11 : PySem.W.nsIn K mainGlobals "repr" = some none)
    (c0 : PySem.W.nsIn K mainGlobals "MOST_SEATS" = some (some (.int 6 t0))) (c1 : PySem.W.nsIn K mainGlobals "MOST_FARES" = some (some (.int 4 t1))) (c2 : PySem.W.nsIn K mainGlobals "MOST_FARE" = some (some (.int 99 t2))) (c3 : PySem.W.nsIn K mainGlobals "FIGURES" = some (some (.str figs t3))) (c4 : PySem.W.nsIn K mainGlobals "MOST_FIGURES" = some (some (.int 7 t4))) (c5 : PySem.W.nsIn K mainGlobals "SEATS" = some (some (.str "seats" t5))) (c6 : PySem.W.nsIn K mainGlobals "FARES" = some (some (.str "fares" t6))) : Bn mg :=
  ⟨PySem.W.mg_none_of X G z0, PySem.W.mg_none_of X G z1, PySem.W.mg_none_of X G z2, PySem.W.mg_none_of X G z3, PySem.W.mg_none_of X G z4, PySem.W.mg_none_of X G z5, PySem.W.mg_none_of X G z6, PySem.W.mg_none_of X G z7, PySem.W.mg_none_of X G z8, PySem.W.mg_none_of X G z9, PySem.W.mg_none_of X G z10, PySem.W.mg_none_of X G z11, ⟨_, PySem.W.mg_of X G c0⟩, ⟨_, PySem.W.mg_of X G c1⟩, ⟨_, PySem.W.mg_of X G c2⟩, ⟨_, PySem.W.mg_of X G c3⟩, ⟨_, PySem.W.mg_of X G c4⟩, ⟨_, PySem.W.mg_of X G c5⟩, ⟨_, PySem.W.mg_of X G c6⟩⟩
theorem exc_mk {K : PySem.W.Frag} {mg : Str → Option Value} {C fI N cda cc : Addr} {qual : Str} {params : Arguments} {body : List Stmt} {scope : Scope} {nm q : Str} {bs bm sub : List Value} {sn : List Str} {ab : Bool} {col : Option Bool} {dd od an cdd cld : Option Addr} {k0 k1 k2 k3 k5 : Option Value}
    {oc kV doc pm ct ccl cl : Value} {osl ccs csl : Array (Option Value)} {vs : Array Value} {tf : Tok}
    (l1 : K.lookup C = some (PySem.excClassObj nm q C N bs bm true sn sub ab col dd k0 k1 k2 k3 k5 "ValueError.__new__")) (r1 : PySem.HandSPX.refsVE bm = true) (a1 : PySem.W.alongIn K "__init__" bm = some (some (.builtin "ValueError.__init__")))
    (sa : PySem.W.findIn K (.ref C) "__setattr__" = some (some (.builtin "object.__setattr__"))) (iC : PySem.W.findIn K (.ref C) "__init__" = some (some (.ref fI))) (tI : PySem.W.typeIn K (.ref fI) = some (.type "function")) (kC : PySem.W.keepIn K (.ref C) = true)
    (exC : PySem.W.subIn K (.ref C) (.type "BaseException") = some true) (veC : PySem.W.subIn K (.ref C) (.type "ValueError") = some true) (slf : PySem.W.mroIn K C (.ref C) = some true) (tyC : PySem.W.typeIn K (.ref C) = some (.type "type")) (opq : PySem.W.nsIn K cStatics "thirdparty.any" = some none)
    (l2 : K.lookup fI = some ⟨oc, od, .func (PySem.W.ksFn "__init__" qual params body scope .none kV doc pm an (.ref cda) ct cc), osl⟩) (c2 : PySem.W.codeIn K (.ref cda) qual = true) (l3 : K.lookup cda = some ⟨ccl, cdd, .fields vs, ccs⟩) (v2 : vs[2]? = some (.str mf tf)) (l4 : K.lookup cc = some ⟨cl, cld, .cell (some (.ref C)), csl⟩) :
    KxM.ExCls K mg mf C fI qual params body scope :=
  ⟨⟨_, _, _, _, _, _, _, _, _, _, _, _, _, _, _, l1, r1, a1⟩, sa, iC, tI, kC, exC, veC, slf, tyC, opq, ⟨_, _, _, _, _, _, _, _, _, _, _, _, _, _, _, _, _, _, l2, c2, l3, v2, l4⟩⟩
theorem said_mk {K : PySem.W.Frag} {h : Heap} {mg : Str → Option Value} (X : K.In h) (G : h.Ns mainGlobals mg) {CH CT C0 C1 C2 C3 C4 C5 C6 CG : Addr} (gH : PySem.W.nsIn K mainGlobals "BadHall" = some (some (.ref CH))) (gT : PySem.W.nsIn K mainGlobals "BadText" = some (some (.ref CT)))
    (g0 : PySem.W.nsIn K mainGlobals "BadRule" = some (some (.ref C0))) (t0 : PySem.W.exmOne K (.ref CT) (.ref C0) = some false) (g1 : PySem.W.nsIn K mainGlobals "BadCall" = some (some (.ref C1))) (t1 : PySem.W.exmOne K (.ref CT) (.ref C1) = some false) (g2 : PySem.W.nsIn K mainGlobals "BadNumber" = some (some (.ref C2))) (t2 : PySem.W.exmOne K (.ref CT) (.ref C2) = some false) (g3 : PySem.W.nsIn K mainGlobals "BadPlan" = some (some (.ref C3))) (t3 : PySem.W.exmOne K (.ref CT) (.ref C3) = some false) (g4 : PySem.W.nsIn K mainGlobals "BadShare" = some (some (.ref C4))) (t4 : PySem.W.exmOne K (.ref CT) (.ref C4) = some false) (g5 : PySem.W.nsIn K mainGlobals "BadLog" = some (some (.ref C5))) (t5 : PySem.W.exmOne K (.ref CT) (.ref C5) = some false) (g6 : PySem.W.nsIn K mainGlobals "BadPaper" = some (some (.ref C6))) (t6 : PySem.W.exmOne K (.ref CT) (.ref C6) = some false)
    (gG : PySem.W.nsIn K mainGlobals "TooGreat" = some (some (.ref CG))) (hh : PySem.W.exmOne K (.ref CH) (.ref CH) = some true) (th : PySem.W.exmOne K (.ref CT) (.ref CH) = some false) (tt : PySem.W.exmOne K (.ref CT) (.ref CT) = some true) (xH : xfB K CH = true) (xT : xfB K CT = true)
    (nP : PySem.W.findIn K (.ref CH) "part" = some none) (nL : PySem.W.findIn K (.ref CT) "line" = some none) (nW : PySem.W.findIn K (.ref CT) "word" = some none) : SaidT K mg CH CT := by
  refine ⟨PySem.W.mg_of X G gH, PySem.W.mg_of X G gT, fun x hx => ?_, ⟨_, PySem.W.mg_of X G gG⟩, hh, th, tt, xfB_ok xH, xfB_ok xT, nP, nL, nW⟩
  simp only [List.mem_cons, List.not_mem_nil, or_false] at hx
  rcases hx with rfl | rfl | rfl | rfl | rfl | rfl | rfl
  · exact ⟨_, PySem.W.mg_of X G g0, t0⟩
  · exact ⟨_, PySem.W.mg_of X G g1, t1⟩
  · exact ⟨_, PySem.W.mg_of X G g2, t2⟩
  · exact ⟨_, PySem.W.mg_of X G g3, t3⟩
  · exact ⟨_, PySem.W.mg_of X G g4, t4⟩
  · exact ⟨_, PySem.W.mg_of X G g5, t5⟩
  · exact ⟨_, PySem.W.mg_of X G g6, t6⟩
theorem law_mk {w : World} {K : PySem.W.Frag} {h : Heap} {mg : Str → Option Value} (X : K.In h) (G : h.Ns mainGlobals mg) {fa f2 c P CH CT : Addr} {oc kV doc pm ct e : Value} {od an dd : Option Addr} {osl sl : Array (Option Value)} {vs : Array Value} (hfa : mg "law" = some (.ref fa))
    (a2 : PySem.W.nsIn K mainGlobals "law" = some (some (.ref f2))) (l2 : K.lookup f2 = some ⟨oc, od, .func (PySem.W.fnOf "law" "law" (defArgs sLaw) (defBody sLaw) (defScope sLaw) .none kV doc pm an (.ref c) ct), osl⟩) (c2 : PySem.W.codeIn K (.ref c) "law" = true)
    (l3 : K.lookup c = some ⟨e, dd, .fields vs, sl⟩) (v : vs[11]? = some (.ref P)) (hd : PySem.W.codeHdIn K c P = true) (nP : K.lookup P = none) (C : ∀ base, LC w K mg base CH CT) : LawF w K mg fa := by
  have z := hfa.symm.trans (PySem.W.mg_of X G a2)
  cases z
  exact ⟨c, P, CH, CT, _, _, _, _, _, _, _, _, _, _, _, _, l2, c2, l3, v, hd, nP, C⟩
theorem fin_mk {w : World} {K : PySem.W.Frag} {h : Heap} {mg : Str → Option Value} (X : K.In h) (G : h.Ns mainGlobals mg) {fa f2 c P CH fH CT fT : Addr} {oc kV doc pm ct e : Value} {od an dd : Option Addr} {osl sl : Array (Option Value)} {vs : Array Value} (hfa : mg "law" = some (.ref fa))
    (S : SaidT K mg CH CT) (T : ErrT K mg CH fH CT fT) (B : Bn mg) (A : AllD K mg)
    (a2 : PySem.W.nsIn K mainGlobals "law" = some (some (.ref f2))) (l2 : K.lookup f2 = some ⟨oc, od, .func (PySem.W.fnOf "law" "law" (defArgs sLaw) (defBody sLaw) (defScope sLaw) .none kV doc pm an (.ref c) ct), osl⟩) (c2 : PySem.W.codeIn K (.ref c) "law" = true)
    (l3 : K.lookup c = some ⟨e, dd, .fields vs, sl⟩) (v : vs[11]? = some (.ref P)) (hd : PySem.W.codeHdIn K c P = true) (nP : K.lookup P = none) : LawF w K mg fa :=
  law_mk X G hfa a2 l2 c2 l3 v hd nP fun base => lc_mk B T S A base
end K94
open PySem PySem.W PyProof.Rows
set_option maxHeartbeats 0 in
theorem PySem.Challenge.cw_booklimits_k94_whole_texts_of_halls_holds : PySem.Challenge.rw_booklimits_k94_whole_texts_of_halls.Holds := by
  w_on; o_law; k_head; (case hw => w_witness2)
  k_fill
  refine K94.walk_k94 rfl (by kernel_rfl) (fun w h Y => PySem.W.km_in_of Y) ?F
  case F =>
    intro w mg fa h KX G hmg
    refine' K94.fin_mk KX G hmg ?S ?T ?B ?A ?a2 ?l2 ?c2 ?l3 ?v ?hd ?nP
    case S =>
      refine' K94.said_mk KX G ?qsgH ?qsgT ?qsg0 ?qst0 ?qsg1 ?qst1 ?qsg2 ?qst2 ?qsg3 ?qst3 ?qsg4 ?qst4 ?qsg5 ?qst5 ?qsg6 ?qst6 ?qsgG ?qshh ?qsth ?qstt ?qsxH ?qsxT ?qsnP ?qsnL ?qsnW
      (case qsgH => k_is)
      (case qsgT => k_is)
      (case qsg0 => k_is)
      (case qst0 => kernel_rfl)
      (case qsg1 => k_is)
      (case qst1 => kernel_rfl)
      (case qsg2 => k_is)
      (case qst2 => kernel_rfl)
      (case qsg3 => k_is)
      (case qst3 => kernel_rfl)
      (case qsg4 => k_is)
      (case qst4 => kernel_rfl)
      (case qsg5 => k_is)
      (case qst5 => kernel_rfl)
      (case qsg6 => k_is)
      (case qst6 => kernel_rfl)
      (case qsgG => k_is)
      (case qshh => kernel_rfl)
      (case qsth => kernel_rfl)
      (case qstt => kernel_rfl)
      (case qsxH => kernel_rfl)
      (case qsxT => kernel_rfl)
      (case qsnP => k_is)
      (case qsnL => k_is)
      (case qsnW => k_is)
    case T =>
      refine' ⟨K94.exc_mk ?qhl1 ?qhr1 ?qha1 ?qhsa ?qhiC ?qhtI ?qhkC ?qhexC ?qhveC ?qhslf ?qhtyC ?qhopq ?qhl2 ?qhc2 ?qhl3 ?qhv2 ?qhl4, K94.exc_mk ?qxl1 ?qxr1 ?qxa1 ?qxsa ?qxiC ?qxtI ?qxkC ?qxexC ?qxveC ?qxslf ?qxtyC ?qxopq ?qxl2 ?qxc2 ?qxl3 ?qxv2 ?qxl4, PySem.W.mg_of KX G ?qtH, PySem.W.mg_of KX G ?qtT, ?qtP, ?qtL, ?qtW, PySem.W.mg_none_of KX G ?qtS, ?qtN⟩
      (case qtH => k_is)
      (case qtT => k_is)
      (case qhl1 => k_is)
      (case qhr1 => kernel_rfl)
      (case qha1 => kernel_rfl)
      (case qhsa => k_is)
      (case qhiC => k_is)
      (case qhtI => k_is)
      (case qhkC => k_is)
      (case qhexC => k_is)
      (case qhveC => k_is)
      (case qhslf => k_is)
      (case qhtyC => k_is)
      (case qhopq => k_is)
      (case qhl2 => k_is)
      (case qhc2 => k_is)
      (case qhl3 => k_is)
      (case qhv2 => exact rfl)
      (case qhl4 => k_is)
      (case qxl1 => k_is)
      (case qxr1 => kernel_rfl)
      (case qxa1 => kernel_rfl)
      (case qxsa => k_is)
      (case qxiC => k_is)
      (case qxtI => k_is)
      (case qxkC => k_is)
      (case qxexC => k_is)
      (case qxveC => k_is)
      (case qxslf => k_is)
      (case qxtyC => k_is)
      (case qxopq => k_is)
      (case qxl2 => k_is)
      (case qxc2 => k_is)
      (case qxl3 => k_is)
      (case qxv2 => exact rfl)
      (case qxl4 => k_is)
      (case qtP => k_is)
      (case qtL => k_is)
      (case qtW => k_is)
      (case qtS => k_is)
      (case qtN => decide)
    case B =>
      refine' K94.bn_mk KX G ?qbz0 ?qbz1 ?qbz2 ?qbz3 ?qbz4 ?qbz5 ?qbz6 ?qbz7 ?qbz8 ?qbz9 ?qbz10 ?qbz11 ?qbc0 ?qbc1 ?qbc2 ?qbc3 ?qbc4 ?qbc5 ?qbc6
      (case qbz0 => k_is)
      (case qbz1 => k_is)
      (case qbz2 => k_is)
      (case qbz3 => k_is)
      (case qbz4 => k_is)
      (case qbz5 => k_is)
      (case qbz6 => k_is)
      (case qbz7 => k_is)
      (case qbz8 => k_is)
      (case qbz9 => k_is)
      (case qbz10 => k_is)
      (case qbz11 => k_is)
      (case qbc0 => k_is)
      (case qbc1 => k_is)
      (case qbc2 => k_is)
      (case qbc3 => k_is)
      (case qbc4 => k_is)
      (case qbc5 => k_is)
      (case qbc6 => k_is)
    case A =>
      refine' ⟨K94.fun_df KX G ?qa0 ?ql0 ?qc0 ?qk0, K94.fun_df KX G ?qa1 ?ql1 ?qc1 ?qk1, K94.fun_df KX G ?qa2 ?ql2 ?qc2 ?qk2, K94.fun_df KX G ?qa3 ?ql3 ?qc3 ?qk3, K94.fun_df KX G ?qa4 ?ql4 ?qc4 ?qk4, K94.fun_df KX G ?qa5 ?ql5 ?qc5 ?qk5, K94.fun_df KX G ?qa6 ?ql6 ?qc6 ?qk6, K94.fun_df KX G ?qa7 ?ql7 ?qc7 ?qk7, K94.fun_df KX G ?qa8 ?ql8 ?qc8 ?qk8, K94.fun_df KX G ?qa9 ?ql9 ?qc9 ?qk9, K94.fun_df KX G ?qa10 ?ql10 ?qc10 ?qk10, K94.fun_df KX G ?qa11 ?ql11 ?qc11 ?qk11, K94.fun_df KX G ?qa12 ?ql12 ?qc12 ?qk12, K94.fun_df KX G ?qa13 ?ql13 ?qc13 ?qk13, K94.fun_df KX G ?qa14 ?ql14 ?qc14 ?qk14, K94.fun_df KX G ?qa15 ?ql15 ?qc15 ?qk15, K94.fun_df KX G ?qa16 ?ql16 ?qc16 ?qk16, K94.fun_df KX G ?qa17 ?ql17 ?qc17 ?qk17, K94.fun_df KX G ?qa18 ?ql18 ?qc18 ?qk18, K94.fun_df KX G ?qa19 ?ql19 ?qc19 ?qk19, K94.fun_df KX G ?qa20 ?ql20 ?qc20 ?qk20, K94.fun_df KX G ?qa21 ?ql21 ?qc21 ?qk21⟩
      (case qa0 => k_is); (case ql0 => k_is); (case qc0 => k_is); (case qk0 => k_is)
      (case qa1 => k_is); (case ql1 => k_is); (case qc1 => k_is); (case qk1 => k_is)
      (case qa2 => k_is); (case ql2 => k_is); (case qc2 => k_is); (case qk2 => k_is)
      (case qa3 => k_is); (case ql3 => k_is); (case qc3 => k_is); (case qk3 => k_is)
      (case qa4 => k_is); (case ql4 => k_is); (case qc4 => k_is); (case qk4 => k_is)
      (case qa5 => k_is); (case ql5 => k_is); (case qc5 => k_is); (case qk5 => k_is)
      (case qa6 => k_is); (case ql6 => k_is); (case qc6 => k_is); (case qk6 => k_is)
      (case qa7 => k_is); (case ql7 => k_is); (case qc7 => k_is); (case qk7 => k_is)
      (case qa8 => k_is); (case ql8 => k_is); (case qc8 => k_is); (case qk8 => k_is)
      (case qa9 => k_is); (case ql9 => k_is); (case qc9 => k_is); (case qk9 => k_is)
      (case qa10 => k_is); (case ql10 => k_is); (case qc10 => k_is); (case qk10 => k_is)
      (case qa11 => k_is); (case ql11 => k_is); (case qc11 => k_is); (case qk11 => k_is)
      (case qa12 => k_is); (case ql12 => k_is); (case qc12 => k_is); (case qk12 => k_is)
      (case qa13 => k_is); (case ql13 => k_is); (case qc13 => k_is); (case qk13 => k_is)
      (case qa14 => k_is); (case ql14 => k_is); (case qc14 => k_is); (case qk14 => k_is)
      (case qa15 => k_is); (case ql15 => k_is); (case qc15 => k_is); (case qk15 => k_is)
      (case qa16 => k_is); (case ql16 => k_is); (case qc16 => k_is); (case qk16 => k_is)
      (case qa17 => k_is); (case ql17 => k_is); (case qc17 => k_is); (case qk17 => k_is)
      (case qa18 => k_is); (case ql18 => k_is); (case qc18 => k_is); (case qk18 => k_is)
      (case qa19 => k_is); (case ql19 => k_is); (case qc19 => k_is); (case qk19 => k_is)
      (case qa20 => k_is); (case ql20 => k_is); (case qc20 => k_is); (case qk20 => k_is)
      (case qa21 => k_is); (case ql21 => k_is); (case qc21 => k_is); (case qk21 => k_is)
    (case a2 => k_is); (case l2 => k_is); (case c2 => k_is); (case l3 => k_is); (case v => exact rfl); (case hd => kernel_rfl); (case nP => kernel_rfl)
