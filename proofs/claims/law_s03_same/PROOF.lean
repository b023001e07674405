import PyProof.Rows.All
import Wide.All
import OpenK.AllK
import Wide.FinOn
import Open.SpecLaws
import KE.OsGo
import HandS.ForMost
import HandS.ForSpec
import HandS.More
import HandS.SetKeys
import HandS.NoneIn
import HandS.Walk
import HandS.WideBits
import PySem.Challenge.RW_gatenets_s03_same
import KE.KDictList
set_option Elab.async false
set_option linter.all false
set_option maxRecDepth 100000
set_option maxHeartbeats 4000000
/-! # The text: signs, lines, words, names (plain Lean) -/
namespace Gn
open Sf33 (Bytes Net Gate Kind)
/-- the sign that a byte is told by -/
def sg (c : UInt8) : Nat := if (97 ≤ c.toNat ∧ c.toNat ≤ 122) ∨ (48 ≤ c.toNat ∧ c.toNat ≤ 57) ∨ c.toNat = 95 ∨ c.toNat = 61 then c.toNat else 63
theorem sg_eq {c : UInt8} (h : sg c ≠ 63) : sg c = c.toNat := by
  unfold sg at h ⊢
  split
  · rfl
  · rename_i k
    rw [if_neg k] at h
    exact absurd rfl h
theorem u8_ext {a b : UInt8} (h : a.toNat = b.toNat) : a = b := UInt8.toNat_inj.mp h
theorem sg_inj {a b : UInt8} (h : sg a = sg b) (k : sg b ≠ 63) : a = b := by
  have k' : sg a ≠ 63 := by rw [h]; exact k
  exact u8_ext (by rw [← sg_eq k, ← sg_eq k', h])
/-- a word's codes -/
def cd (w : Bytes) : List Nat := w.map sg
theorem cd_inj : ∀ {a b : Bytes}, cd a = cd b → (∀ c ∈ b, sg c ≠ 63) → a = b
  | [], [], _, _ => rfl
  | [], _ :: _, h, _ => by cases h
  | _ :: _, [], h, _ => by cases h
  | x :: a, y :: b, h, k => by
    have h1 : sg x = sg y := (List.cons.inj h).1
    have h2 : cd a = cd b := (List.cons.inj h).2
    rw [sg_inj h1 (k y (List.mem_cons_self ..)), cd_inj h2 (fun c hc => k c (List.mem_cons_of_mem _ hc))]
theorem cd_nil {w : Bytes} : cd w = [] ↔ w = [] := by
  unfold cd
  exact List.map_eq_nil_iff
theorem cd_length (w : Bytes) : (cd w).length = w.length := List.length_map _
/-! ### names -/
theorem inName_sg (c : UInt8) : Sf33.inName c = (decide (sg c ≠ 61) && decide (sg c ≠ 63)) := by
  have e95 : (c == 95) = decide (c.toNat = 95) := by
    by_cases h : c = 95
    · subst h; rfl
    · have h2 : ¬ c.toNat = 95 := fun q => h (u8_ext q)
      rw [decide_eq_false h2]
      exact beq_eq_false_iff_ne.mpr h
  unfold Sf33.inName Sf33.small
  rw [e95]
  unfold sg
  rw [Bool.eq_iff_iff]
  simp only [Bool.or_eq_true, Bool.and_eq_true, decide_eq_true_eq]
  split <;> omega
theorem small_sg (c : UInt8) : Sf33.small c = decide (97 ≤ sg c ∧ sg c ≤ 122) := by
  unfold Sf33.small sg
  rw [Bool.eq_iff_iff]
  simp only [Bool.and_eq_true, decide_eq_true_eq]
  split <;> omega
theorem small_inName {c : UInt8} (h : Sf33.small c = true) : Sf33.inName c = true := by
  unfold Sf33.inName
  rw [h, Bool.true_or]
/-- a name as the program looks at it -/
theorem isName_cons (c : UInt8) (r : Bytes) : Sf33.isName (c :: r) =
    (decide ((c :: r).length ≤ 15) && (decide (97 ≤ sg c ∧ sg c ≤ 122) && (decide (c :: r ≠ Sf33.txt "in" ∧ c :: r ≠ Sf33.txt "out") && (c :: r).all fun x => decide (sg x ≠ 61) && decide (sg x ≠ 63)))) := by
  have e1 : (c :: r).all (fun x => decide (sg x ≠ 61) && decide (sg x ≠ 63)) = (c :: r).all Sf33.inName := by
    congr 1
    funext x
    exact (inName_sg x).symm
  rw [e1, ← small_sg]
  show (Sf33.small c && (r.all Sf33.inName && (decide (r.length ≤ 14) && (c :: r != Sf33.txt "in" && c :: r != Sf33.txt "out")))) = _
  rw [Bool.eq_iff_iff]
  simp only [Bool.and_eq_true, decide_eq_true_eq, bne_iff_ne, List.all_cons, List.length_cons]
  constructor
  · rintro ⟨h1, h2, h3, h4, h5⟩
    exact ⟨by omega, h1, ⟨h4, h5⟩, small_inName h1, h2⟩
  · rintro ⟨h1, h2, ⟨h3, h4⟩, _, h5⟩
    exact ⟨h2, h5, by omega, h3, h4⟩
theorem isName_nil : Sf33.isName [] = false := rfl
theorem isName_ne {w : Bytes} (h : Sf33.isName w = true) : w ≠ [] := by
  intro e; subst e; cases h
theorem isName_sg {w : Bytes} (h : Sf33.isName w = true) : ∀ c ∈ w, sg c ≠ 63 := by
  cases w with
  | nil => intro c hc; cases hc
  | cons c r =>
    rw [isName_cons] at h
    simp only [Bool.and_eq_true, List.all_eq_true, decide_eq_true_eq] at h
    exact fun x hx => (h.2.2.2 x hx).2
theorem isName_len {w : Bytes} (h : Sf33.isName w = true) : w.length ≤ 15 := by
  cases w with
  | nil => exact Nat.zero_le _
  | cons c r =>
    rw [isName_cons] at h
    simp only [Bool.and_eq_true, decide_eq_true_eq] at h
    exact h.1
/-- names are told apart by their codes -/
theorem name_inj {a b : Bytes} (h : cd a = cd b) (hb : Sf33.isName b = true) : a = b := cd_inj h (isName_sg hb)
/-! ### lines -/
/-- one byte of lines_of: lines ended, the line at hand, behind a remark's sign -/
def lstep (s : List Bytes × Bytes × Bool) (c : UInt8) : List Bytes × Bytes × Bool :=
  if c = 10 then (s.1 ++ [s.2.1], [], false) else if c = 35 ∨ s.2.2 = true then (s.1, s.2.1, true) else (s.1, s.2.1 ++ [c], s.2.2)
def lrun (b : Bytes) : List Bytes × Bytes × Bool := b.foldl lstep ([], [], false)
def cutR (l : Bytes) : Bytes := l.takeWhile fun c => c != 35
theorem cutR_snoc (w : Bytes) (c : UInt8) : cutR (w ++ [c]) = if c = 35 ∨ (w.any fun x => x == 35) = true then cutR w else cutR w ++ [c] := by
  unfold cutR
  induction w with
  | nil =>
    by_cases h : c = 35
    · subst h; rfl
    · have h1 : (c != 35) = true := bne_iff_ne.mpr h
      simp [h, List.takeWhile]
  | cons x w ih =>
    by_cases hx : x = 35
    · subst hx
      simp [List.takeWhile]
    · have h1 : (x != 35) = true := bne_iff_ne.mpr hx
      have h2 : (x == 35) = false := beq_eq_false_iff_ne.mpr hx
      rw [List.cons_append, List.takeWhile_cons, List.takeWhile_cons, h1, List.any_cons, h2, Bool.false_or]
      simp only [if_true]
      rw [ih]
      split <;> rfl
theorem lrun_split : ∀ (b : Bytes) (done : List Bytes) (w : Bytes),
    (b.foldl lstep (done, cutR w, w.any fun x => x == 35)).1 ++ [(b.foldl lstep (done, cutR w, w.any fun x => x == 35)).2.1] = done ++ (Sf33.split (fun c => c == 10) b w).map cutR
  | [], done, w => by
    unfold Sf33.split
    rfl
  | c :: r, done, w => by
    rw [List.foldl_cons]
    unfold Sf33.split
    by_cases hc : c = 10
    · subst hc
      have e : lstep (done, cutR w, w.any fun x => x == 35) 10 = (done ++ [cutR w], cutR [], ([] : Bytes).any fun x => x == 35) := by
        unfold lstep
        rw [if_pos rfl]
        rfl
      rw [e, lrun_split r]
      rw [if_pos (show ((10 : UInt8) == 10) = true from rfl), List.map_cons, List.append_assoc]
      rfl
    · have h1 : (c == 10) = false := beq_eq_false_iff_ne.mpr hc
      have e : lstep (done, cutR w, w.any fun x => x == 35) c = (done, cutR (w ++ [c]), (w ++ [c]).any fun x => x == 35) := by
        unfold lstep
        rw [if_neg hc, cutR_snoc]
        by_cases hr : c = 35 ∨ (w.any fun x => x == 35) = true
        · rw [if_pos hr, if_pos hr]
          have : ((w ++ [c]).any fun x => x == 35) = true := by
            rw [List.any_append]
            rcases hr with h | h
            · subst h; simp
            · rw [h]; rfl
          rw [this]
        · rw [if_neg hr, if_neg hr]
          have h2 : (w.any fun x => x == 35) = false := by
            cases q : (w.any fun x => x == 35) with
            | false => rfl
            | true => exact absurd (Or.inr q) hr
          have h3 : (c == 35) = false := beq_eq_false_iff_ne.mpr fun z => hr (.inl z)
          rw [List.any_append, h2]
          simp [h3]
      rw [e, lrun_split r]
      simp only [h1]
      rfl
/-- the lines, without what stands behind a remark's sign -/
def rows (b : Bytes) : List Bytes := (Sf33.split (fun c => c == 10) b []).map cutR
theorem lrun_rows (b : Bytes) : (lrun b).1 ++ [(lrun b).2.1] = rows b := by
  have := lrun_split b [] []
  rw [List.nil_append] at this
  exact this
/-! ### words -/
def wstep (s : List Bytes × Bytes) (c : UInt8) : List Bytes × Bytes :=
  if Sf33.blank c = false then (s.1, s.2 ++ [c]) else if s.2 = [] then s else (s.1 ++ [s.2], [])
def wrun (l : Bytes) : List Bytes × Bytes := (l ++ [32]).foldl wstep ([], [])
theorem wrun_split : ∀ (l : Bytes) (found : List Bytes) (w : Bytes), ((l ++ [32]).foldl wstep (found, w)).1 = found ++ (Sf33.split Sf33.blank l w).filter fun x => x != []
  | [], found, w => by
    show (wstep (found, w) 32).1 = _
    unfold wstep Sf33.split
    rw [if_neg (by decide)]
    cases w with
    | nil => simp
    | cons x w => simp
  | c :: r, found, w => by
    rw [List.cons_append, List.foldl_cons]
    unfold Sf33.split
    cases hb : Sf33.blank c with
    | false =>
      have e : wstep (found, w) c = (found, w ++ [c]) := by
        unfold wstep
        rw [if_pos hb]
      rw [e, wrun_split r]
      simp
    | true =>
      cases w with
      | nil =>
        have e : wstep (found, ([] : Bytes)) c = (found, []) := by
          unfold wstep
          rw [if_neg (by rw [hb]; simp), if_pos rfl]
        rw [e, wrun_split r]
        simp
      | cons x w =>
        have e : wstep (found, x :: w) c = (found ++ [x :: w], []) := by
          unfold wstep
          rw [if_neg (by rw [hb]; simp), if_neg (by simp)]
        rw [e, wrun_split r]
        simp
def words (l : Bytes) : List Bytes := (Sf33.split Sf33.blank l []).filter fun w => w != []
theorem wrun_words (l : Bytes) : (wrun l).1 = words l := by
  have := wrun_split l [] []
  rw [List.nil_append] at this
  exact this
theorem words_ne {l : Bytes} : ∀ w ∈ words l, w ≠ [] := fun w hw => bne_iff_ne.mp (List.mem_filter.mp hw).2
theorem lines_eq (b : Bytes) : Sf33.lines b = (rows b).map words := by
  unfold Sf33.lines rows
  rw [List.map_map]
  rfl
/-! ### how many -/
def total (l : List Bytes) : Nat := (l.map List.length).sum
theorem total_nil : total [] = 0 := rfl
theorem total_cons (x : Bytes) (l : List Bytes) : total (x :: l) = x.length + total l := by
  unfold total
  rw [List.map_cons, List.sum_cons]
theorem split_total (p : UInt8 → Bool) : ∀ (b w : Bytes), total (Sf33.split p b w) ≤ w.length + b.length
  | [], w => by
    unfold Sf33.split
    rw [total_cons, total_nil]
    simp
  | c :: r, w => by
    unfold Sf33.split
    split
    · rw [total_cons]
      have := split_total p r []
      simp only [List.length_nil, List.length_cons] at this ⊢
      omega
    · have := split_total p r (w ++ [c])
      simp only [List.length_append, List.length_cons, List.length_nil] at this ⊢
      omega
theorem filter_total (l : List Bytes) : (l.filter fun w => w != []).length ≤ total l := by
  induction l with
  | nil => exact Nat.le_refl _
  | cons x l ih =>
    rw [total_cons, List.filter_cons]
    cases x with
    | nil => simp; exact ih
    | cons a x => simp; omega
theorem words_length (l : Bytes) : (words l).length ≤ l.length := by
  have h1 := filter_total (Sf33.split Sf33.blank l [])
  have h2 := split_total Sf33.blank l []
  simp only [List.length_nil, Nat.zero_add] at h2
  exact Nat.le_trans h1 h2
theorem cutR_length (l : Bytes) : (cutR l).length ≤ l.length := by
  unfold cutR
  exact (List.takeWhile_sublist _).length_le
theorem map_total (l : List Bytes) : total (l.map cutR) ≤ total l := by
  induction l with
  | nil => exact Nat.le_refl _
  | cons x l ih =>
    rw [List.map_cons, total_cons, total_cons]
    have := cutR_length x
    omega
theorem rows_total (b : Bytes) : total (rows b) ≤ b.length := by
  have h1 := map_total (Sf33.split (fun c => c == 10) b [])
  have h2 := split_total (fun c => c == 10) b []
  simp only [List.length_nil, Nat.zero_add] at h2
  exact Nat.le_trans h1 h2
theorem split_length (p : UInt8 → Bool) : ∀ (b w : Bytes), (Sf33.split p b w).length ≤ b.length + 1
  | [], w => by unfold Sf33.split; simp
  | c :: r, w => by
    unfold Sf33.split
    split
    · have := split_length p r []
      simp only [List.length_cons]
      omega
    · have := split_length p r (w ++ [c])
      simp only [List.length_cons]
      omega
theorem rows_length (b : Bytes) : (rows b).length ≤ b.length + 1 := by
  unfold rows
  rw [List.length_map]
  exact split_length _ b []
theorem mem_total {x : Bytes} {l : List Bytes} (h : x ∈ l) : x.length ≤ total l := by
  induction l with
  | nil => cases h
  | cons y l ih =>
    rw [total_cons]
    rcases List.mem_cons.mp h with rfl | h
    · omega
    · have := ih h
      omega
theorem rows_mem {b x : Bytes} (h : x ∈ rows b) : x.length ≤ b.length := Nat.le_trans (mem_total h) (rows_total b)
theorem split_mem (p : UInt8 → Bool) (b : Bytes) {x : Bytes} (h : x ∈ Sf33.split p b []) : x.length ≤ b.length := by
  have h2 := split_total p b []
  simp only [List.length_nil, Nat.zero_add] at h2
  exact Nat.le_trans (mem_total h) h2
theorem words_mem {l w : Bytes} (h : w ∈ words l) : w.length ≤ l.length := split_mem _ _ (List.mem_filter.mp h).1
theorem total_take (l : List Bytes) : ∀ i, total (l.take i) ≤ total l := by
  induction l with
  | nil => intro i; simp [total_nil]
  | cons x l ih =>
    intro i
    cases i with
    | zero => simp [total_nil]
    | succ i =>
      rw [List.take_succ_cons, total_cons, total_cons]
      have := ih i
      omega
theorem total_append (a b : List Bytes) : total (a ++ b) = total a + total b := by
  unfold total
  rw [List.map_append, List.sum_append]
end Gn

/-! # Lines of a network's text, kinds (plain Lean) -/
namespace Gn
open Sf33 (Bytes Net Gate Kind)
/-- how many names a kind takes; how it's written -/
def ar : Kind → Nat
  | .zero | .one => 0
  | .not | .buf | .reg _ => 1
  | .and | .or | .xor | .nand | .nor | .xnor => 2
  | .maj | .mux => 3
def kn : Kind → Bytes
  | .zero => [122, 101, 114, 111]
  | .one => [111, 110, 101]
  | .not => [110, 111, 116]
  | .buf => [98, 117, 102]
  | .reg false => [114, 101, 103]
  | .reg true => [114, 101, 103, 49]
  | .and => [97, 110, 100]
  | .or => [111, 114]
  | .xor => [120, 111, 114]
  | .nand => [110, 97, 110, 100]
  | .nor => [110, 111, 114]
  | .xnor => [120, 110, 111, 114]
  | .maj => [109, 97, 106]
  | .mux => [109, 117, 120]
theorem txts : Sf33.txt "zero" = kn .zero ∧ Sf33.txt "one" = kn .one ∧ Sf33.txt "not" = kn .not ∧ Sf33.txt "buf" = kn .buf ∧ Sf33.txt "reg" = kn (.reg false) ∧ Sf33.txt "reg1" = kn (.reg true) ∧
    Sf33.txt "and" = kn .and ∧ Sf33.txt "or" = kn .or ∧ Sf33.txt "xor" = kn .xor ∧ Sf33.txt "nand" = kn .nand ∧ Sf33.txt "nor" = kn .nor ∧ Sf33.txt "xnor" = kn .xnor ∧ Sf33.txt "maj" = kn .maj ∧ Sf33.txt "mux" = kn .mux := by decide +kernel
theorem txt_in : Sf33.txt "in" = [105, 110] := by decide +kernel
theorem txt_out : Sf33.txt "out" = [111, 117, 116] := by decide +kernel
def kinds : List Kind := [.zero, .one, .not, .buf, .reg false, .reg true, .and, .or, .xor, .nand, .nor, .xnor, .maj, .mux]
theorem kinds_all (k : Kind) : k ∈ kinds := by
  cases k <;> first | decide | (rename_i b; cases b <;> decide)
theorem kindOf_kn (k : Kind) : Sf33.kindOf (kn k) = some (k, ar k) := by
  have h : ∀ k ∈ kinds, Sf33.kindOf (kn k) = some (k, ar k) := by decide +kernel
  exact h k (kinds_all k)
theorem ite_some {c : Prop} [Decidable c] {al : Type} {a x : al} {r : Option al} (h : (if c then some a else r) = some x) : (c ∧ a = x) ∨ r = some x := by
  by_cases k : c
  · rw [if_pos k] at h; exact .inl ⟨k, Option.some.inj h⟩
  · rw [if_neg k] at h; exact .inr h
theorem kindOf_some {w : Bytes} {x : Kind × Nat} (h : Sf33.kindOf w = some x) : w = kn x.1 ∧ x.2 = ar x.1 := by
  obtain ⟨t1, t2, t3, t4, t5, t6, t7, t8, t9, t10, t11, t12, t13, t14⟩ := txts
  unfold Sf33.kindOf at h
  rw [t1, t2, t3, t4, t5, t6, t7, t8, t9, t10, t11, t12, t13, t14] at h
  rcases ite_some h with ⟨e, rfl⟩ | h
  · exact ⟨e, rfl⟩
  rcases ite_some h with ⟨e, rfl⟩ | h
  · exact ⟨e, rfl⟩
  rcases ite_some h with ⟨e, rfl⟩ | h
  · exact ⟨e, rfl⟩
  rcases ite_some h with ⟨e, rfl⟩ | h
  · exact ⟨e, rfl⟩
  rcases ite_some h with ⟨e, rfl⟩ | h
  · exact ⟨e, rfl⟩
  rcases ite_some h with ⟨e, rfl⟩ | h
  · exact ⟨e, rfl⟩
  rcases ite_some h with ⟨e, rfl⟩ | h
  · exact ⟨e, rfl⟩
  rcases ite_some h with ⟨e, rfl⟩ | h
  · exact ⟨e, rfl⟩
  rcases ite_some h with ⟨e, rfl⟩ | h
  · exact ⟨e, rfl⟩
  rcases ite_some h with ⟨e, rfl⟩ | h
  · exact ⟨e, rfl⟩
  rcases ite_some h with ⟨e, rfl⟩ | h
  · exact ⟨e, rfl⟩
  rcases ite_some h with ⟨e, rfl⟩ | h
  · exact ⟨e, rfl⟩
  rcases ite_some h with ⟨e, rfl⟩ | h
  · exact ⟨e, rfl⟩
  rcases ite_some h with ⟨e, rfl⟩ | h
  · exact ⟨e, rfl⟩
  cases h
theorem kindOf_none {w : Bytes} (h : Sf33.kindOf w = none) : ∀ k, w ≠ kn k := by
  intro k e
  rw [e, kindOf_kn] at h
  cases h
theorem kn_sg (k : Kind) : ∀ c ∈ kn k, sg c ≠ 63 := by
  have h : ∀ k ∈ kinds, ∀ c ∈ kn k, sg c ≠ 63 := by decide +kernel
  exact h k (kinds_all k)
theorem kn_inj {k l : Kind} (h : kn k = kn l) : k = l := by
  have h1 := kindOf_kn k
  rw [h, kindOf_kn] at h1
  exact (congrArg Prod.fst (Option.some.inj h1)).symm
/-- what lines make -/
structure Ok (n : Net) : Prop where
  ins : ∀ w ∈ n.ins, Sf33.isName w = true
  outs : ∀ w ∈ n.outs, Sf33.isName w = true
  name : ∀ g ∈ n.gates, Sf33.isName g.name = true
  from_ : ∀ g ∈ n.gates, ∀ w ∈ g.from_, Sf33.isName w = true
  ar : ∀ g ∈ n.gates, g.from_.length = ar g.kind
def empty : Net := ⟨[], [], []⟩
theorem ok_empty : Ok empty := ⟨(fun w h => nomatch h), (fun w h => nomatch h), (fun w h => nomatch h), (fun w h => nomatch h), (fun w h => nomatch h)⟩
/-- a line that begins by in, by out; another -/
theorem line_in (n : Net) (r : List Bytes) : Sf33.line n (Sf33.txt "in" :: r) = if r ≠ [] ∧ r.all Sf33.isName = true then some { n with ins := n.ins ++ r } else none := by
  unfold Sf33.line
  simp only [if_true]
theorem line_out (n : Net) (r : List Bytes) : Sf33.line n (Sf33.txt "out" :: r) = if r ≠ [] ∧ r.all Sf33.isName = true then some { n with outs := n.outs ++ r } else none := by
  have h : Sf33.txt "out" ≠ Sf33.txt "in" := by decide +kernel
  unfold Sf33.line
  simp only [if_neg h, if_true]
theorem line_gate {n : Net} {w : Bytes} {k : Bytes} {a : List Bytes} (h1 : w ≠ Sf33.txt "in") (h2 : w ≠ Sf33.txt "out") : Sf33.line n (w :: [61] :: k :: a) =
    (Sf33.kindOf k).bind fun x => if Sf33.isName w = true ∧ a.all Sf33.isName = true ∧ a.length = x.2 then some { n with gates := n.gates ++ [⟨w, x.1, a⟩] } else none := by
  unfold Sf33.line
  simp only [if_neg h1, if_neg h2]
theorem line_short {n : Net} {w : Bytes} {r : List Bytes} (h1 : w ≠ Sf33.txt "in") (h2 : w ≠ Sf33.txt "out") (h : ∀ k a, r ≠ [61] :: k :: a) : Sf33.line n (w :: r) = none := by
  unfold Sf33.line
  simp only [if_neg h1, if_neg h2]
theorem ok_line {n n' : Net} {l : List Bytes} (o : Ok n) (h : Sf33.line n l = some n') : Ok n' := by
  cases l with
  | nil => cases h; exact o
  | cons w r =>
    by_cases h1 : w = Sf33.txt "in"
    · subst h1
      rw [line_in] at h
      split at h
      · rename_i q
        cases h
        refine { o with ins := fun x hx => ?_ }
        rcases List.mem_append.mp hx with hx | hx
        · exact o.ins x hx
        · exact List.all_eq_true.mp q.2 x hx
      · cases h
    · by_cases h2 : w = Sf33.txt "out"
      · subst h2
        rw [line_out] at h
        split at h
        · rename_i q
          cases h
          refine { o with outs := fun x hx => ?_ }
          rcases List.mem_append.mp hx with hx | hx
          · exact o.outs x hx
          · exact List.all_eq_true.mp q.2 x hx
        · cases h
      · by_cases h3 : ∃ k a, r = [61] :: k :: a
        · obtain ⟨k, a, rfl⟩ := h3
          rw [line_gate h1 h2] at h
          cases hk : Sf33.kindOf k with
          | none => rw [hk] at h; cases h
          | some x =>
            rw [hk, Option.bind_some] at h
            split at h
            · rename_i q
              cases h
              have e := (kindOf_some hk).2
              refine { o with name := fun g hg => ?_, from_ := fun g hg => ?_, ar := fun g hg => ?_ }
              · rcases List.mem_append.mp hg with hg | hg
                · exact o.name g hg
                · cases List.mem_singleton.mp hg; exact q.1
              · rcases List.mem_append.mp hg with hg | hg
                · exact o.from_ g hg
                · cases List.mem_singleton.mp hg; exact List.all_eq_true.mp q.2.1
              · rcases List.mem_append.mp hg with hg | hg
                · exact o.ar g hg
                · cases List.mem_singleton.mp hg; rw [← e]; exact q.2.2
            · cases h
        · rw [line_short h1 h2 fun k a e => h3 ⟨k, a, e⟩] at h
          cases h
/-- the lines taken, one by one -/
def told (n : Net) (ls : List (List Bytes)) : Option Net := ls.foldlM Sf33.line n
theorem told_nil (n : Net) : told n [] = some n := rfl
theorem told_cons (n : Net) (l : List Bytes) (ls : List (List Bytes)) : told n (l :: ls) = (Sf33.line n l).bind fun m => told m ls := by
  unfold told
  rw [List.foldlM_cons]
  rfl
theorem told_snoc (n : Net) (l : List Bytes) : ∀ (ls : List (List Bytes)), told n (ls ++ [l]) = (told n ls).bind fun m => Sf33.line m l := by
  intro ls
  unfold told
  rw [List.foldlM_append]
  show ((List.foldlM Sf33.line n ls).bind fun m => List.foldlM Sf33.line m [l]) = _
  congr 1
  funext m
  rw [List.foldlM_cons]
  show ((Sf33.line m l).bind fun m => List.foldlM Sf33.line m []) = Sf33.line m l
  cases Sf33.line m l <;> rfl
theorem ok_told : ∀ {ls : List (List Bytes)} {n n' : Net}, Ok n → told n ls = some n' → Ok n'
  | [], n, n', o, h => by cases h; exact o
  | l :: ls, n, n', o, h => by
    rw [told_cons] at h
    cases q : Sf33.line n l with
    | none => rw [q] at h; cases h
    | some m =>
      rw [q] at h
      exact ok_told (ok_line o q) h
/-- if it's wrong behind some lines it's wrong behind more -/
theorem told_none {n : Net} (ls : List (List Bytes)) (h : ∀ i, i ≤ ls.length → told n (ls.take i) ≠ none) : told n ls ≠ none := by
  have := h ls.length (Nat.le_refl _)
  rw [List.take_length] at this
  exact this
theorem told_take_none {n : Net} : ∀ {ls : List (List Bytes)} {i : Nat}, told n (ls.take i) = none → told n ls = none
  | [], i, h => by rw [List.take_nil] at h; exact h
  | l :: ls, 0, h => by cases h
  | l :: ls, i + 1, h => by
    rw [List.take_succ_cons, told_cons] at h
    rw [told_cons]
    cases q : Sf33.line n l with
    | none => rfl
    | some m =>
      rw [q] at h
      exact told_take_none (n := m) h
/-- how much is in a network -/
def size (n : Net) : Nat := n.ins.length + n.outs.length + n.gates.length
theorem size_line {n n' : Net} {l : List Bytes} (h : Sf33.line n l = some n') : size n' ≤ size n + l.length := by
  cases l with
  | nil => cases h; exact Nat.le_refl _
  | cons w r =>
    unfold size
    by_cases h1 : w = Sf33.txt "in"
    · subst h1
      rw [line_in] at h
      split at h
      · cases h; simp only [List.length_append, List.length_cons]; omega
      · cases h
    · by_cases h2 : w = Sf33.txt "out"
      · subst h2
        rw [line_out] at h
        split at h
        · cases h; simp only [List.length_append, List.length_cons]; omega
        · cases h
      · by_cases h3 : ∃ k a, r = [61] :: k :: a
        · obtain ⟨k, a, rfl⟩ := h3
          rw [line_gate h1 h2] at h
          cases hk : Sf33.kindOf k with
          | none => rw [hk] at h; cases h
          | some x =>
            rw [hk, Option.bind_some] at h
            split at h
            · cases h; simp only [List.length_append, List.length_cons, List.length_nil]; omega
            · cases h
        · rw [line_short h1 h2 fun k a e => h3 ⟨k, a, e⟩] at h
          cases h
theorem size_told : ∀ {ls : List Bytes} {n n' : Net}, told n (ls.map words) = some n' → size n' ≤ size n + total ls
  | [], n, n', h => by cases h; exact Nat.le_add_right _ _
  | l :: ls, n, n', h => by
    rw [List.map_cons, told_cons] at h
    cases q : Sf33.line n (words l) with
    | none => rw [q] at h; cases h
    | some m =>
      rw [q] at h
      have h1 := size_told (ls := ls) (n := m) h
      have h2 := size_line q
      have h3 := words_length l
      rw [total_cons]
      omega
/-- the text's lines -/
def toldBy (b : Bytes) : Option Net := told empty ((rows b).map words)
theorem network_eq {b : Bytes} (h : b.length ≤ 65536) : Sf33.network (b.length : Int) b = (toldBy b).bind fun x => if x.right = true then some x else none := by
  unfold Sf33.network
  rw [if_pos ⟨by omega, by omega⟩, lines_eq]
  rfl
theorem size_toldBy_take {b : Bytes} {n : Net} {i : Nat} (h : told empty (((rows b).take i).map words) = some n) : size n ≤ b.length := by
  have h1 := size_told h
  have h2 := total_take (rows b) i
  have h3 := rows_total b
  have h4 : size empty = 0 := rfl
  omega
theorem line_more {n n' : Net} {l : List Bytes} (h : Sf33.line n l = some n') : n.gates.length ≤ n'.gates.length := by
  cases l with
  | nil => cases h; exact Nat.le_refl _
  | cons w r =>
    by_cases h1 : w = Sf33.txt "in"
    · subst h1
      rw [line_in] at h
      split at h
      · cases h; exact Nat.le_refl _
      · cases h
    · by_cases h2 : w = Sf33.txt "out"
      · subst h2
        rw [line_out] at h
        split at h
        · cases h; exact Nat.le_refl _
        · cases h
      · by_cases h3 : ∃ k a, r = [61] :: k :: a
        · obtain ⟨k, a, rfl⟩ := h3
          rw [line_gate h1 h2] at h
          cases hk : Sf33.kindOf k with
          | none => rw [hk] at h; cases h
          | some x =>
            rw [hk, Option.bind_some] at h
            split at h
            · cases h; simp
            · cases h
        · rw [line_short h1 h2 fun k a e => h3 ⟨k, a, e⟩] at h
          cases h
end Gn

/-! # Chains, and the order in which gates are put (plain Lean) -/
namespace Gn
open Sf33 (Bytes Net Gate Kind)
/-! ### the greatest -/
def mx {al : Type} (l : List al) (f : al → Nat) : Nat := l.foldl (fun d i => max d (f i)) 0
theorem mx_foldl {al : Type} (f : al → Nat) : ∀ (l : List al) (d : Nat), l.foldl (fun d i => max d (f i)) d = max d (mx l f)
  | [], d => by simp [mx]
  | x :: l, d => by
    unfold mx
    rw [List.foldl_cons, List.foldl_cons, mx_foldl f l, mx_foldl f l]
    omega
theorem mx_nil {al : Type} (f : al → Nat) : mx [] f = 0 := rfl
theorem mx_cons {al : Type} (f : al → Nat) (x : al) (l : List al) : mx (x :: l) f = max (f x) (mx l f) := by
  show List.foldl (fun d i => max d (f i)) (max 0 (f x)) l = _
  rw [mx_foldl, Nat.zero_max]
theorem mx_ge {al : Type} {f : al → Nat} : ∀ {l : List al} {i : al}, i ∈ l → f i ≤ mx l f
  | x :: l, i, h => by
    rw [mx_cons]
    rcases List.mem_cons.mp h with rfl | h
    · exact Nat.le_max_left _ _
    · exact Nat.le_trans (mx_ge h) (Nat.le_max_right _ _)
theorem mx_le {al : Type} {f : al → Nat} {m : Nat} : ∀ {l : List al}, (∀ i ∈ l, f i ≤ m) → mx l f ≤ m
  | [], _ => Nat.zero_le _
  | x :: l, h => by
    rw [mx_cons]
    exact Nat.max_le.mpr ⟨h x (List.mem_cons_self ..), mx_le fun i hi => h i (List.mem_cons_of_mem _ hi)⟩
theorem mx_congr {al : Type} {f g : al → Nat} : ∀ {l : List al}, (∀ i ∈ l, f i = g i) → mx l f = mx l g
  | [], _ => rfl
  | x :: l, h => by
    rw [mx_cons, mx_cons, h x (List.mem_cons_self ..), mx_congr fun i hi => h i (List.mem_cons_of_mem _ hi)]
theorem mx_map {al be : Type} (f : be → Nat) (g : al → be) : ∀ l : List al, mx (l.map g) f = mx l fun i => f (g i)
  | [] => rfl
  | x :: l => by rw [List.map_cons, mx_cons, mx_cons, mx_map f g l]
/-! ### how far chains go -/
def fr (links : List (List Nat)) (k i : Nat) : Nat := (Sf33.farther links k).getD i 0
theorem fr_zero (links : List (List Nat)) (i : Nat) : fr links 0 i = 0 := by
  unfold fr Sf33.farther
  rw [Array.getD_eq_getD_getElem?, List.getElem?_toArray, List.getElem?_map]
  cases links[i]? <;> rfl
theorem fr_succ (links : List (List Nat)) (k i : Nat) : fr links (k + 1) i = mx (links.getD i []) fun j => fr links k j + 1 := by
  show (((links.map fun l => l.foldl (fun d i => max d ((Sf33.farther links k).getD i 0 + 1)) 0).toArray).getD i 0) = _
  rw [Array.getD_eq_getD_getElem?, List.getElem?_toArray, List.getElem?_map, List.getD_eq_getElem?_getD]
  cases links[i]? <;> rfl
theorem fr_stop (links : List (List Nat)) : ∀ (k i : Nat), fr links k i < k → fr links (k + 1) i = fr links k i
  | 0, i, h => absurd h (Nat.not_lt_zero _)
  | k + 1, i, h => by
    rw [fr_succ links (k + 1), fr_succ links k] at *
    refine mx_congr fun j hj => ?_
    have h1 : fr links k j + 1 ≤ mx (links.getD i []) fun j => fr links k j + 1 := mx_ge (f := fun j => fr links k j + 1) hj
    rw [fr_stop links k j (by omega)]
/-- no chain is longer than n: then the table stands still -/
theorem fr_fix {links : List (List Nat)} {n : Nat} (h : ∀ i, fr links (n + 1) i ≤ n) (i : Nat) : fr links (n + 1) i = mx (links.getD i []) fun j => fr links (n + 1) j + 1 := by
  have h1 : fr links (n + 1 + 1) i = fr links (n + 1) i := fr_stop links (n + 1) i (Nat.lt_succ_of_le (h i))
  rw [← h1, fr_succ links (n + 1)]
theorem fr_lt {links : List (List Nat)} {n : Nat} (h : ∀ i, fr links (n + 1) i ≤ n) {i j : Nat} (hj : j ∈ links.getD i []) : fr links (n + 1) j < fr links (n + 1) i := by
  rw [fr_fix h i]
  exact mx_ge (f := fun j => fr links (n + 1) j + 1) hj
/-- ranks that fall along each link bound the table -/
theorem fr_rank {links : List (List Nat)} {r : Nat → Nat} (h : ∀ i, ∀ j ∈ links.getD i [], r j < r i) : ∀ k i, fr links k i ≤ r i
  | 0, i => by rw [fr_zero]; exact Nat.zero_le _
  | k + 1, i => by
    rw [fr_succ]
    exact mx_le fun j hj => Nat.lt_of_le_of_lt (fr_rank h k j) (h i j hj)
/-- where each has a link to another of the kind the table grows on -/
theorem fr_grows {links : List (List Nat)} {R : Nat → Prop} (h : ∀ i, R i → ∃ j ∈ links.getD i [], R j) : ∀ k i, R i → k ≤ fr links k i
  | 0, i, _ => Nat.zero_le _
  | k + 1, i, hi => by
    obtain ⟨j, hj, rj⟩ := h i hi
    rw [fr_succ]
    exact Nat.le_trans (Nat.succ_le_succ (fr_grows h k j rj)) (mx_ge (f := fun j => fr links k j + 1) hj)
theorem far_all (n : Net) : (n.far.all fun d => decide (d ≤ n.names.length)) = true ↔ ∀ i, fr n.links (n.names.length + 1) i ≤ n.names.length := by
  have e : n.far = (n.links.map fun l => l.foldl (fun d i => max d ((Sf33.farther n.links n.names.length).getD i 0 + 1)) 0).toArray := rfl
  have hl : n.far = Sf33.farther n.links (n.names.length + 1) := rfl
  constructor
  · intro h i
    unfold fr
    rw [← hl, Array.getD_eq_getD_getElem?]
    cases q : n.far[i]? with
    | none => exact Nat.zero_le _
    | some d =>
      have := Array.all_eq_true_iff_forall_mem.mp h d (Array.mem_of_getElem? q)
      exact of_decide_eq_true this
  · intro h
    refine Array.all_eq_true_iff_forall_mem.mpr fun d hd => ?_
    obtain ⟨i, hi, e⟩ := Array.mem_iff_getElem.mp hd
    have q := h i
    unfold fr at q
    rw [← hl, Array.getD_eq_getD_getElem?, Array.getElem?_eq_getElem hi, e] at q
    exact decide_eq_true q
/-! ### where names stand -/
theorem place_lt {n : Net} {w : Bytes} (h : w ∈ n.names) : n.place w < n.names.length := by
  unfold Net.place
  exact List.findIdx_lt_length_of_exists ⟨w, h, beq_self_eq_true w⟩
theorem names_place {n : Net} {w : Bytes} (h : w ∈ n.names) : n.names[n.place w]? = some w := by
  have hl := place_lt h
  rw [List.getElem?_eq_getElem hl]
  have := List.findIdx_getElem (p := fun y => y == w) (xs := n.names) (w := hl)
  exact congrArg some (beq_iff_eq.mp this)
theorem nodup_get {al : Type} : ∀ {l : List al}, l.Nodup → ∀ {i j : Nat} {x : al}, l[i]? = some x → l[j]? = some x → i = j
  | [], _, i, j, x, h, _ => by simp at h
  | y :: l, nd, 0, 0, x, _, _ => rfl
  | y :: l, nd, 0, j + 1, x, h, h' => by
    have e : y = x := Option.some.inj h
    subst e
    have h2 : l[j]? = some y := h'
    exact absurd (List.mem_of_getElem? h2) (List.nodup_cons.mp nd).1
  | y :: l, nd, i + 1, 0, x, h, h' => by
    have e : y = x := Option.some.inj h'
    subst e
    have h2 : l[i]? = some y := h
    exact absurd (List.mem_of_getElem? h2) (List.nodup_cons.mp nd).1
  | y :: l, nd, i + 1, j + 1, x, h, h' => by
    rw [nodup_get (List.nodup_cons.mp nd).2 (i := i) (j := j) h h']
theorem place_of {n : Net} (nd : n.names.Nodup) {i : Nat} {w : Bytes} (h : n.names[i]? = some w) : n.place w = i :=
  nodup_get nd (names_place (List.mem_of_getElem? h)) h
theorem place_inj {n : Net} {a b : Bytes} (ha : a ∈ n.names) (hb : b ∈ n.names) (h : n.place a = n.place b) : a = b := by
  have h1 := names_place ha
  rw [h, names_place hb] at h1
  exact (Option.some.inj h1).symm
theorem links_at {n : Net} {w : Bytes} (h : w ∈ n.names) : n.links.getD (n.place w) [] = (n.takes w).map n.place := by
  unfold Net.links
  rw [List.getD_eq_getElem?_getD, List.getElem?_map, names_place h]
  rfl
theorem links_out {n : Net} {i : Nat} (h : n.names[i]? = none) : n.links.getD i [] = [] := by
  unfold Net.links
  rw [List.getD_eq_getElem?_getD, List.getElem?_map, h]
  rfl
/-! ### gates by their names -/
/-- names stand once each, outputs and what's taken are there -/
structure Fine (n : Net) : Prop where
  nd : n.names.Nodup
  outs : ∀ w ∈ n.outs, w ∈ n.names
  from_ : ∀ g ∈ n.gates, ∀ w ∈ g.from_, w ∈ n.names
theorem nodup_append_left {al : Type} {a b : List al} (h : (a ++ b).Nodup) : a.Nodup := (List.nodup_append.mp h).1
theorem nodup_append_right {al : Type} {a b : List al} (h : (a ++ b).Nodup) : b.Nodup := (List.nodup_append.mp h).2.1
theorem Fine.gn {n : Net} (f : Fine n) : (n.gates.map fun g => g.name).Nodup := nodup_append_right f.nd
theorem name_one : ∀ {l : List Gate}, (l.map fun g => g.name).Nodup → ∀ {g h : Gate}, g ∈ l → h ∈ l → g.name = h.name → g = h
  | [], _, g, h, hg, _, _ => by cases hg
  | x :: l, nd, g, h, hg, hh, e => by
    rw [List.map_cons, List.nodup_cons] at nd
    rcases List.mem_cons.mp hg with eg | hg
    · rcases List.mem_cons.mp hh with eh | hh
      · rw [eg, eh]
      · refine absurd ?_ nd.1
        rw [← eg, e]
        exact List.mem_map_of_mem hh
    · rcases List.mem_cons.mp hh with eh | hh
      · refine absurd ?_ nd.1
        rw [← eh, ← e]
        exact List.mem_map_of_mem hg
      · exact name_one nd.2 hg hh e
theorem Fine.gate {n : Net} (f : Fine n) {g : Gate} (h : g ∈ n.gates) : n.gate g.name = some g := by
  unfold Net.gate
  cases q : n.gates.find? fun x => x.name == g.name with
  | none => exact absurd (beq_self_eq_true g.name) (by simpa using List.find?_eq_none.mp q g h)
  | some x =>
    have h1 := List.mem_of_find?_eq_some q
    have h2 := List.find?_some q
    rw [name_one f.gn h1 h (beq_iff_eq.mp h2)]
theorem Fine.gate_in {n : Net} (f : Fine n) {w : Bytes} (h : w ∈ n.ins) : n.gate w = none := by
  unfold Net.gate
  refine List.find?_eq_none.mpr fun g hg e => ?_
  have e' : g.name = w := beq_iff_eq.mp e
  have d := (List.nodup_append.mp f.nd).2.2
  exact d w h g.name (List.mem_map_of_mem hg) e'.symm
theorem Fine.in_gate {n : Net} (f : Fine n) {w : Bytes} (h : w ∈ n.ins) {g : Gate} (hg : g ∈ n.gates) : w ≠ g.name := 
  (List.nodup_append.mp f.nd).2.2 w h g.name (List.mem_map_of_mem hg)
theorem Fine.takes {n : Net} (f : Fine n) {g : Gate} (h : g ∈ n.gates) : n.takes g.name = if g.kind.isReg = true then [] else g.from_ := by
  unfold Net.takes
  rw [f.gate h]
theorem Fine.takes_in {n : Net} (f : Fine n) {w : Bytes} (h : w ∈ n.ins) : n.takes w = [] := by
  unfold Net.takes
  rw [f.gate_in h]
/-- registers; other gates; what's known ahead of a beat -/
def gs (n : Net) : List Gate := n.gates.filter fun g => !g.kind.isReg
def kw (n : Net) : List Bytes := n.ins ++ n.regs.map fun g => g.name
theorem mem_regs {n : Net} {g : Gate} : g ∈ n.regs ↔ g ∈ n.gates ∧ g.kind.isReg = true := List.mem_filter
theorem mem_gs {n : Net} {g : Gate} : g ∈ gs n ↔ g ∈ n.gates ∧ g.kind.isReg = false := by
  unfold gs
  rw [List.mem_filter]
  simp
theorem names_cases {n : Net} {w : Bytes} (h : w ∈ n.names) : w ∈ kw n ∨ ∃ g ∈ gs n, g.name = w := by
  unfold Net.names at h
  rcases List.mem_append.mp h with h | h
  · exact .inl (List.mem_append_left _ h)
  · obtain ⟨g, hg, e⟩ := List.mem_map.mp h
    cases k : g.kind.isReg with
    | true => exact .inl (List.mem_append_right _ (List.mem_map.mpr ⟨g, mem_regs.mpr ⟨hg, k⟩, e⟩))
    | false => exact .inr ⟨g, mem_gs.mpr ⟨hg, k⟩, e⟩
theorem kw_names {n : Net} {w : Bytes} (h : w ∈ kw n) : w ∈ n.names := by
  unfold kw at h
  unfold Net.names
  rcases List.mem_append.mp h with h | h
  · exact List.mem_append_left _ h
  · obtain ⟨g, hg, e⟩ := List.mem_map.mp h
    exact List.mem_append_right _ (List.mem_map.mpr ⟨g, (mem_regs.mp hg).1, e⟩)
theorem gate_names {n : Net} {g : Gate} (h : g ∈ n.gates) : g.name ∈ n.names := List.mem_append_right _ (List.mem_map_of_mem h)
theorem Fine.apart {n : Net} (f : Fine n) {g : Gate} (h : g ∈ gs n) : g.name ∉ kw n := by
  intro k
  obtain ⟨hg, hr⟩ := mem_gs.mp h
  unfold kw at k
  rcases List.mem_append.mp k with k | k
  · exact f.in_gate k hg rfl
  · obtain ⟨r, hr', e⟩ := List.mem_map.mp k
    obtain ⟨h1, h2⟩ := mem_regs.mp hr'
    rw [name_one f.gn h1 hg e, hr] at h2
    cases h2
theorem Fine.gsn {n : Net} (f : Fine n) : ((gs n).map fun g => g.name).Nodup := List.Sublist.nodup (List.Sublist.map _ List.filter_sublist) f.gn
theorem Fine.takes_kw {n : Net} (f : Fine n) {w : Bytes} (h : w ∈ kw n) : n.takes w = [] := by
  unfold kw at h
  rcases List.mem_append.mp h with h | h
  · exact f.takes_in h
  · obtain ⟨g, hg, e⟩ := List.mem_map.mp h
    obtain ⟨h1, h2⟩ := mem_regs.mp hg
    rw [← e, f.takes h1, if_pos h2]
theorem Fine.takes_gs {n : Net} (f : Fine n) {g : Gate} (h : g ∈ gs n) : n.takes g.name = g.from_ := by
  obtain ⟨h1, h2⟩ := mem_gs.mp h
  rw [f.takes h1, if_neg (by rw [h2]; exact Bool.false_ne_true)]
/-! ### gates in order -/
/-- each gate behind those that it takes -/
def Topo (known : List Bytes) (F : List Gate) : Prop := ∀ i g, F[i]? = some g → ∀ d ∈ g.from_, d ∈ known ∨ d ∈ (F.take i).map fun g => g.name
theorem Topo.nil (known : List Bytes) : Topo known [] := fun i g h => by simp at h
theorem Topo.snoc {known : List Bytes} {F : List Gate} {g : Gate} (t : Topo known F) (h : ∀ d ∈ g.from_, d ∈ known ∨ d ∈ F.map fun g => g.name) : Topo known (F ++ [g]) := by
  intro i x hx d hd
  by_cases hi : i < F.length
  · rw [List.getElem?_append_left hi] at hx
    rw [List.take_append_of_le_length (Nat.le_of_lt hi)]
    exact t i x hx d hd
  · have hl := List.getElem?_eq_some_iff.mp hx
    obtain ⟨hl, _⟩ := hl
    rw [List.length_append, List.length_singleton] at hl
    have e : i = F.length := by omega
    subst e
    rw [List.getElem?_append_right (Nat.le_refl _), Nat.sub_self] at hx
    have e : g = x := Option.some.inj hx
    subst e
    rw [List.take_append_of_le_length (Nat.le_refl _), List.take_length]
    exact h d hd
/-- of what a gate takes, how much is neither known nor put in order -/
def cnt (known fn : List Bytes) (g : Gate) : Nat := (g.from_.filter fun d => decide (d ∉ known ∧ d ∉ fn)).length
/-- who takes it, as often as it's taken -/
def tk (G : List Gate) (d : Bytes) : List Bytes := G.flatMap fun g => (g.from_.filter fun x => decide (x = d)).map fun _ => g.name
def kstep (s : (Bytes → Int) × List Bytes) (nm : Bytes) : (Bytes → Int) × List Bytes :=
  (fun x => if x = nm then s.1 nm - 1 else s.1 x, if s.1 nm - 1 = 0 then s.2 ++ [nm] else s.2)
structure KInv (G : List Gate) (known : List Bytes) (F : List Gate) (W : List Bytes) (L : Bytes → Int) : Prop where
  nd : (F.map (fun g => g.name) ++ W).Nodup
  fg : ∀ g ∈ F, g ∈ G
  wg : ∀ w ∈ W, ∃ g ∈ G, g.name = w
  lk : ∀ g ∈ G, L g.name = (cnt known (F.map fun g => g.name) g : Int)
  zr : ∀ g ∈ G, L g.name = 0 ↔ (g.name ∈ F.map (fun g => g.name) ∨ g.name ∈ W)
  tp : Topo known F
theorem cnt_zero {known fn : List Bytes} {g : Gate} (h : cnt known fn g = 0) : ∀ d ∈ g.from_, d ∈ known ∨ d ∈ fn := by
  intro d hd
  unfold cnt at h
  have h1 := List.filter_eq_nil_iff.mp (List.eq_nil_of_length_eq_zero h) d hd
  by_cases k : d ∈ known
  · exact .inl k
  · by_cases k2 : d ∈ fn
    · exact .inr k2
    · exact absurd (decide_eq_true ⟨k, k2⟩) h1
theorem cnt_pos {known fn : List Bytes} {g : Gate} (h : cnt known fn g ≠ 0) : ∃ d ∈ g.from_, d ∉ known ∧ d ∉ fn := by
  unfold cnt at h
  cases q : g.from_.filter fun d => decide (d ∉ known ∧ d ∉ fn) with
  | nil => rw [q] at h; exact absurd rfl h
  | cons d r =>
    have hm : d ∈ g.from_.filter fun d => decide (d ∉ known ∧ d ∉ fn) := by rw [q]; exact List.mem_cons_self ..
    obtain ⟨h1, h2⟩ := List.mem_filter.mp hm
    exact ⟨d, h1, of_decide_eq_true h2⟩
theorem filter_one {known fn : List Bytes} {h : Bytes} (hk : h ∉ known) (hf : h ∉ fn) : ∀ l : List Bytes,
    (l.filter fun d => decide (d ∉ known ∧ d ∉ fn)).length = (l.filter fun d => decide (d ∉ known ∧ d ∉ fn ++ [h])).length + (l.filter fun x => decide (x = h)).length
  | [] => rfl
  | x :: l => by
    have ih := filter_one hk hf l
    rw [List.filter_cons, List.filter_cons, List.filter_cons]
    by_cases e : x = h
    · subst e
      rw [if_pos (decide_eq_true ⟨hk, hf⟩), if_neg (by simp), if_pos (decide_eq_true rfl), List.length_cons, List.length_cons, ih]
      omega
    · rw [if_neg (show ¬ decide (x = h) = true by simpa using e)]
      by_cases c : x ∉ known ∧ x ∉ fn
      · rw [if_pos (decide_eq_true c), if_pos (decide_eq_true ⟨c.1, by
          rw [List.mem_append, List.mem_singleton]
          intro z
          rcases z with z | z
          · exact c.2 z
          · exact e z⟩), List.length_cons, List.length_cons, ih]
        omega
      · rw [if_neg (by simpa using c), if_neg (by
          simp only [decide_eq_true_eq]
          intro z
          exact c ⟨z.1, fun q => z.2 (List.mem_append_left _ q)⟩), ih]
theorem count_map_const (nm w : Bytes) {al : Type} (l : List al) : (l.map fun _ => nm).count w = if nm = w then l.length else 0 := by
  induction l with
  | nil => simp
  | cons x l ih =>
    rw [List.map_cons, List.count_cons, ih]
    by_cases e : nm = w
    · simp [e]
    · simp [e]
theorem tk_nil (d : Bytes) : tk [] d = [] := rfl
theorem tk_cons (x : Gate) (l : List Gate) (d : Bytes) : tk (x :: l) d = (x.from_.filter fun y => decide (y = d)).map (fun _ => x.name) ++ tk l d := rfl
theorem tk_count_none {w d : Bytes} : ∀ {l : List Gate}, w ∉ l.map (fun g => g.name) → (tk l d).count w = 0
  | [], _ => rfl
  | x :: l, h => by
    rw [List.map_cons, List.mem_cons, not_or] at h
    rw [tk_cons, List.count_append, count_map_const, if_neg fun e => h.1 e.symm, tk_count_none h.2]
theorem tk_count {d : Bytes} : ∀ {l : List Gate}, (l.map fun g => g.name).Nodup → ∀ {g : Gate}, g ∈ l → (tk l d).count g.name = (g.from_.filter fun x => decide (x = d)).length
  | [], _, g, h => by cases h
  | x :: l, nd, g, h => by
    rw [List.map_cons, List.nodup_cons] at nd
    rw [tk_cons, List.count_append, count_map_const]
    rcases List.mem_cons.mp h with rfl | h
    · rw [if_pos rfl, tk_count_none nd.1, Nat.add_zero]
    · have hne : ¬ x.name = g.name := fun e => nd.1 (by rw [e]; exact List.mem_map_of_mem h)
      rw [if_neg hne, tk_count nd.2 h, Nat.zero_add]
theorem tk_mem {d w : Bytes} {l : List Gate} (h : w ∈ tk l d) : ∃ g ∈ l, g.name = w := by
  obtain ⟨g, hg, hw⟩ := List.mem_flatMap.mp h
  obtain ⟨_, _, e⟩ := List.mem_map.mp hw
  exact ⟨g, hg, e⟩
/-- what holds within the inner loop: T is still to come -/
structure KIn (G : List Gate) (known : List Bytes) (F : List Gate) (T W : List Bytes) (L : Bytes → Int) : Prop where
  nd : (F.map (fun g => g.name) ++ W).Nodup
  wg : ∀ w ∈ W, ∃ g ∈ G, g.name = w
  lk : ∀ g ∈ G, L g.name = ((cnt known (F.map fun g => g.name) g + T.count g.name : Nat) : Int)
  zr : ∀ g ∈ G, L g.name = 0 ↔ (g.name ∈ F.map (fun g => g.name) ∨ g.name ∈ W)
theorem KIn.step {G : List Gate} {known : List Bytes} {F : List Gate} {nm : Bytes} {T W : List Bytes} {L : Bytes → Int} (gn : (G.map fun g => g.name).Nodup) (hn : ∃ g ∈ G, g.name = nm) (k : KIn G known F (nm :: T) W L) :
    KIn G known F T (kstep (L, W) nm).2 (kstep (L, W) nm).1 := by
  obtain ⟨g, hg, rfl⟩ := hn
  have hl := k.lk g hg
  have hc : (g.name :: T).count g.name = T.count g.name + 1 := List.count_cons_self
  rw [hc] at hl
  have hnz : L g.name ≠ 0 := by omega
  have hout : ¬ (g.name ∈ F.map (fun g => g.name) ∨ g.name ∈ W) := fun z => hnz ((k.zr g hg).mpr z)
  have lk' : ∀ x ∈ G, (kstep (L, W) g.name).1 x.name = ((cnt known (F.map fun g => g.name) x + T.count x.name : Nat) : Int) := by
    intro x hx
    show (if x.name = g.name then L g.name - 1 else L x.name) = _
    by_cases e : x.name = g.name
    · rw [if_pos e, name_one gn hx hg e]
      omega
    · rw [if_neg e, k.lk x hx, List.count_cons_of_ne fun z => e z.symm]
  have e2 : (kstep (L, W) g.name).2 = if L g.name - 1 = 0 then W ++ [g.name] else W := rfl
  by_cases h0 : L g.name - 1 = 0
  · rw [if_pos h0] at e2
    rw [e2]
    refine ⟨?_, ?_, lk', ?_⟩
    · rw [← List.append_assoc]
      refine List.nodup_append.mpr ⟨k.nd, by simp, ?_⟩
      intro a ha b hb e
      rw [List.mem_singleton] at hb
      subst hb
      subst e
      exact hout (List.mem_append.mp ha)
    · intro w hw
      rcases List.mem_append.mp hw with hw | hw
      · exact k.wg w hw
      · rw [List.mem_singleton] at hw
        exact ⟨g, hg, hw.symm⟩
    · intro x hx
      show (if x.name = g.name then L g.name - 1 else L x.name) = 0 ↔ _
      rw [List.mem_append, List.mem_singleton]
      by_cases e : x.name = g.name
      · rw [if_pos e]
        exact ⟨fun _ => .inr (.inr e), fun _ => h0⟩
      · rw [if_neg e, k.zr x hx]
        constructor
        · rintro (h | h)
          · exact .inl h
          · exact .inr (.inl h)
        · rintro (h | h | h)
          · exact .inl h
          · exact .inr h
          · exact absurd h e
  · rw [if_neg h0] at e2
    rw [e2]
    refine ⟨k.nd, k.wg, lk', ?_⟩
    intro x hx
    show (if x.name = g.name then L g.name - 1 else L x.name) = 0 ↔ _
    by_cases e : x.name = g.name
    · rw [if_pos e, e]
      exact ⟨fun z => absurd z h0, fun z => absurd z hout⟩
    · rw [if_neg e, k.zr x hx]
/-- one gate is taken from those that wait -/
theorem KInv.begin {G : List Gate} {known : List Bytes} {F : List Gate} {W : List Bytes} {L : Bytes → Int} {g : Gate} (gn : (G.map fun g => g.name).Nodup) (ap : ∀ g ∈ G, g.name ∉ known) (k : KInv G known F (W ++ [g.name]) L) (hg : g ∈ G) :
    KIn G known (F ++ [g]) (tk G g.name) W L := by
  have em : (F ++ [g]).map (fun g => g.name) = F.map (fun g => g.name) ++ [g.name] := by rw [List.map_append]; rfl
  have hnd := k.nd
  rw [← List.append_assoc] at hnd
  have hni : g.name ∉ F.map fun g => g.name := fun z => (List.nodup_append.mp hnd).2.2 _ (List.mem_append_left _ z) _ (List.mem_singleton.mpr rfl) rfl
  refine ⟨?_, fun w hw => k.wg w (List.mem_append_left _ hw), fun x hx => ?_, fun x hx => ?_⟩
  · rw [em, List.append_assoc]
    have p : (F.map (fun g => g.name) ++ W ++ [g.name]).Perm (F.map (fun g => g.name) ++ ([g.name] ++ W)) := by
      rw [List.append_assoc]
      exact List.Perm.append_left _ List.perm_append_comm
    exact p.nodup_iff.mp hnd
  · rw [k.lk x hx, em]
    have h1 : cnt known (F.map fun g => g.name) x = cnt known (F.map (fun g => g.name) ++ [g.name]) x + (tk G g.name).count x.name := by
      rw [tk_count gn hx]
      exact filter_one (ap g hg) hni x.from_
    rw [h1]
  · rw [k.zr x hx, em, List.mem_append, List.mem_append, List.mem_singleton]
    constructor
    · rintro (h | h | h)
      · exact .inl (.inl h)
      · exact .inr h
      · exact .inl (.inr h)
    · rintro ((h | h) | h)
      · exact .inl h
      · exact .inr (.inr h)
      · exact .inr (.inl h)
theorem KIn.done {G : List Gate} {known : List Bytes} {F : List Gate} {W W' : List Bytes} {L L' : Bytes → Int} {g : Gate} (k : KInv G known F (W ++ [g.name]) L) (hg : g ∈ G) (i : KIn G known (F ++ [g]) [] W' L') : KInv G known (F ++ [g]) W' L' := by
  refine ⟨i.nd, fun x hx => ?_, i.wg, fun x hx => ?_, i.zr, k.tp.snoc ?_⟩
  · rcases List.mem_append.mp hx with hx | hx
    · exact k.fg x hx
    · cases List.mem_singleton.mp hx; exact hg
  · rw [i.lk x hx]
    simp
  · have h0 : L g.name = 0 := (k.zr g hg).mpr (.inr (List.mem_append_right _ (List.mem_singleton.mpr rfl)))
    have h1 := k.lk g hg
    rw [h0] at h1
    exact cnt_zero (by omega)
/-- as it begins -/
theorem KInv.start {G : List Gate} {known : List Bytes} {L : Bytes → Int} (gn : (G.map fun g => g.name).Nodup) (hL : ∀ g ∈ G, L g.name = (cnt known [] g : Int)) :
    KInv G known [] ((G.map fun g => g.name).filter fun w => decide (L w = 0)) L := by
  refine ⟨List.Sublist.nodup List.filter_sublist gn, (fun g h => nomatch h), fun w hw => ?_, hL, fun g hg => ?_, .nil _⟩
  · exact List.mem_map.mp (List.mem_filter.mp hw).1
  · rw [List.mem_filter]
    constructor
    · intro h
      exact .inr ⟨List.mem_map_of_mem hg, decide_eq_true h⟩
    · rintro (h | h)
      · cases h
      · exact of_decide_eq_true h.2
theorem nodup_le {al : Type} [BEq al] [LawfulBEq al] : ∀ {l m : List al}, l.Nodup → (∀ x ∈ l, x ∈ m) → l.length ≤ m.length
  | [], _, _, _ => Nat.zero_le _
  | x :: l, m, nd, h => by
    have nd' := List.nodup_cons.mp nd
    have hm : x ∈ m := h x (List.mem_cons_self ..)
    have h1 : l.length ≤ (m.erase x).length := nodup_le nd'.2 fun y hy => by
      refine (List.mem_erase_of_ne fun e => nd'.1 (by rw [← e]; exact hy)).mpr (h y (List.mem_cons_of_mem _ hy))
    rw [List.length_erase_of_mem hm] at h1
    have h2 : 0 < m.length := List.length_pos_of_mem hm
    rw [List.length_cons]
    omega
theorem KInv.le {G : List Gate} {known : List Bytes} {F : List Gate} {W : List Bytes} {L : Bytes → Int} (k : KInv G known F W L) : F.length + W.length ≤ G.length := by
  have h : (F.map (fun g => g.name) ++ W).length ≤ (G.map fun g => g.name).length := by
    refine nodup_le k.nd fun w hw => ?_
    rcases List.mem_append.mp hw with hw | hw
    · obtain ⟨g, hg, e⟩ := List.mem_map.mp hw
      exact List.mem_map.mpr ⟨g, k.fg g hg, e⟩
    · obtain ⟨g, hg, e⟩ := k.wg w hw
      exact List.mem_map.mpr ⟨g, hg, e⟩
  rw [List.length_append, List.length_map, List.length_map] at h
  exact h
end Gn

/-! # Whether it's a network: the order of gates against the chains (plain Lean) -/
namespace Gn
open Sf33 (Bytes Net Gate Kind)
theorem filter_same {al : Type} {p : al → Bool} : ∀ {l : List al}, (∀ x ∈ l, p x = true) → l.filter p = l
  | [], _ => rfl
  | x :: l, h => by
    rw [List.filter_cons, if_pos (h x (List.mem_cons_self ..)), filter_same fun y hy => h y (List.mem_cons_of_mem _ hy)]
theorem eraseDups_le : ∀ (k : Nat) (l : List Bytes), l.length ≤ k → l.eraseDups.length ≤ l.length
  | _, [], _ => by simp
  | 0, x :: l, h => by simp at h
  | k + 1, x :: l, h => by
    rw [List.eraseDups_cons, List.length_cons, List.length_cons]
    have h1 := List.length_filter_le (fun b => !b == x) l
    rw [List.length_cons] at h
    have h2 := eraseDups_le k (l.filter fun b => !b == x) (by omega)
    omega
theorem eraseDups_iff : ∀ (k : Nat) (l : List Bytes), l.length ≤ k → (l.eraseDups.length = l.length ↔ l.Nodup)
  | _, [], _ => by simp
  | 0, x :: l, h => by simp at h
  | k + 1, x :: l, h => by
    rw [List.eraseDups_cons, List.length_cons, List.length_cons, List.nodup_cons]
    have h1 := List.length_filter_le (fun b => !b == x) l
    rw [List.length_cons] at h
    have h2 := eraseDups_le k (l.filter fun b => !b == x) (by omega)
    constructor
    · intro e
      have e1 : (l.filter fun b => !b == x).length = l.length := by omega
      have hx : ∀ y ∈ l, (!y == x) = true := List.length_filter_eq_length_iff.mp e1
      have e2 : (l.filter fun b => !b == x) = l := filter_same hx
      rw [e2] at e
      refine ⟨fun hm => ?_, (eraseDups_iff k l (by omega)).mp (by omega)⟩
      have := hx x hm
      simp at this
    · rintro ⟨hn, nd⟩
      have e2 : (l.filter fun b => !b == x) = l := filter_same fun y hy => by
        have : y ≠ x := fun e => hn (e ▸ hy)
        simp [this]
      rw [e2, (eraseDups_iff k l (by omega)).mpr nd]
/-- what want_names asks -/
def wants (n : Net) : Prop := n.names.Nodup ∧ n.names.length ≤ 1024 ∧ n.ins.length ≤ 64 ∧ n.outs.length ≤ 64 ∧ (∀ w ∈ n.outs, w ∈ n.names) ∧ ∀ g ∈ n.gates, ∀ w ∈ g.from_, w ∈ n.names
theorem wants.fine {n : Net} (h : wants n) : Fine n := ⟨h.1, h.2.2.2.2.1, h.2.2.2.2.2⟩
/-- no chain is as long as there are names -/
def noCircle (n : Net) : Prop := ∀ i, fr n.links (n.names.length + 1) i ≤ n.names.length
theorem right_iff (n : Net) : n.right = true ↔ wants n ∧ noCircle n := by
  unfold Net.right wants noCircle
  rw [← far_all]
  simp only [Bool.and_eq_true, decide_eq_true_eq, List.all_eq_true, List.contains_eq_mem]
  rw [eraseDups_iff _ _ (Nat.le_refl _)]
  constructor
  · rintro ⟨⟨⟨⟨⟨⟨h1, h2⟩, h3⟩, h4⟩, h5⟩, h6⟩, h7⟩
    exact ⟨⟨h1, h2, h3, h4, h5, h6⟩, h7⟩
  · rintro ⟨⟨h1, h2, h3, h4, h5, h6⟩, h7⟩
    exact ⟨⟨⟨⟨⟨⟨h1, h2⟩, h3⟩, h4⟩, h5⟩, h6⟩, h7⟩
/-! ### an order found: no circle -/
def rk (n : Net) (F : List Gate) (w : Bytes) : Nat := if w ∈ kw n then 0 else (F.map fun g => g.name).findIdx (fun y => y == w) + 1
theorem findIdx_take {l : List Bytes} {w : Bytes} {i : Nat} (h : w ∈ l.take i) : l.findIdx (fun y => y == w) < i := by
  have h1 : (l.take i).findIdx (fun y => y == w) < (l.take i).length := List.findIdx_lt_length_of_exists ⟨w, h, beq_self_eq_true w⟩
  have h2 : l.findIdx (fun y => y == w) = if (l.take i).findIdx (fun y => y == w) < (l.take i).length then (l.take i).findIdx (fun y => y == w) else (l.drop i).findIdx (fun y => y == w) + (l.take i).length := by
    rw [← List.findIdx_append, List.take_append_drop]
  rw [if_pos h1] at h2
  rw [h2]
  have h3 := List.length_take_le i l
  omega
theorem findIdx_nodup {l : List Bytes} (nd : l.Nodup) {i : Nat} {w : Bytes} (h : l[i]? = some w) : l.findIdx (fun y => y == w) = i := by
  have hw : w ∈ l := List.mem_of_getElem? h
  have hl : l.findIdx (fun y => y == w) < l.length := List.findIdx_lt_length_of_exists ⟨w, hw, beq_self_eq_true w⟩
  have e : l[l.findIdx (fun y => y == w)]? = some w := by
    rw [List.getElem?_eq_getElem hl]
    have := List.findIdx_getElem (p := fun y => y == w) (xs := l) (w := hl)
    exact congrArg some (beq_iff_eq.mp this)
  exact nodup_get nd e h
theorem topo_noCircle {n : Net} (f : Fine n) {F : List Gate} (nd : (F.map fun g => g.name).Nodup) (t : Topo (kw n) F) (all : ∀ g ∈ gs n, g ∈ F) (le : F.length ≤ n.names.length) : noCircle n := by
  intro i
  refine Nat.le_trans (fr_rank (r := fun i => match n.names[i]? with | some w => rk n F w | none => 0) ?_ _ i) ?_
  · intro i j hj
    cases q : n.names[i]? with
    | none => rw [links_out q] at hj; cases hj
    | some w =>
      have hw := List.mem_of_getElem? q
      have ei := place_of f.nd q
      rw [← ei, links_at hw] at hj
      obtain ⟨d, hd, rfl⟩ := List.mem_map.mp hj
      rcases names_cases hw with hk | ⟨g, hg, rfl⟩
      · rw [f.takes_kw hk] at hd; cases hd
      · rw [f.takes_gs hg] at hd
        have hdn := f.from_ g (mem_gs.mp hg).1 d hd
        rw [names_place hdn]
        show rk n F d < rk n F g.name
        obtain ⟨p, hp⟩ := List.mem_iff_getElem?.mp (all g hg)
        have ep : (F.map fun g => g.name).findIdx (fun y => y == g.name) = p := findIdx_nodup nd (by rw [List.getElem?_map, hp]; rfl)
        unfold rk
        rw [if_neg (f.apart hg), ep]
        rcases t p g hp d hd with hk | hk
        · rw [if_pos hk]; omega
        · have := findIdx_take (l := F.map fun g => g.name) (w := d) (i := p) (by rw [← List.map_take]; exact hk)
          split <;> omega
  · show (match n.names[i]? with | some w => rk n F w | none => 0) ≤ _
    cases q : n.names[i]? with
    | none => exact Nat.zero_le _
    | some w =>
      show rk n F w ≤ _
      unfold rk
      split
      · exact Nat.zero_le _
      · rename_i hk
        rcases names_cases (List.mem_of_getElem? q) with h | ⟨g, hg, rfl⟩
        · exact absurd h hk
        · have : (F.map fun g => g.name).findIdx (fun y => y == g.name) < (F.map fun g => g.name).length := List.findIdx_lt_length_of_exists ⟨g.name, List.mem_map_of_mem (all g hg), beq_self_eq_true _⟩
          rw [List.length_map] at this
          omega
theorem gs_le (n : Net) : (gs n).length ≤ n.names.length := by
  unfold gs Net.names
  rw [List.length_append, List.length_map]
  have := List.length_filter_le (fun g => !g.kind.isReg) n.gates
  omega
theorem kahn_all {n : Net} (f : Fine n) {F : List Gate} {L : Bytes → Int} (k : KInv (gs n) (kw n) F [] L) (h : F.length = (gs n).length) : ∀ g ∈ gs n, g ∈ F := by
  intro g hg
  apply Classical.byContradiction
  intro hn
  have hnn : g.name ∉ F.map fun g => g.name := fun z => by
    obtain ⟨x, hx, e⟩ := List.mem_map.mp z
    rw [name_one f.gsn (k.fg x hx) hg e] at hx
    exact hn hx
  have nd : (F.map fun g => g.name).Nodup := by
    have := k.nd
    rwa [List.append_nil] at this
  have : (g.name :: F.map fun g => g.name).length ≤ ((gs n).map fun g => g.name).length := nodup_le (List.nodup_cons.mpr ⟨hnn, nd⟩) fun x hx => by
    rcases List.mem_cons.mp hx with rfl | hx
    · exact List.mem_map_of_mem hg
    · obtain ⟨y, hy, e⟩ := List.mem_map.mp hx
      exact List.mem_map.mpr ⟨y, k.fg y hy, e⟩
  rw [List.length_cons, List.length_map, List.length_map] at this
  omega
theorem kahn_yes {n : Net} (f : Fine n) {F : List Gate} {L : Bytes → Int} (k : KInv (gs n) (kw n) F [] L) (h : F.length = (gs n).length) : noCircle n := by
  have nd : (F.map fun g => g.name).Nodup := by
    have := k.nd
    rwa [List.append_nil] at this
  exact topo_noCircle f nd k.tp (kahn_all f k h) (by rw [h]; exact gs_le n)
theorem kahn_no {n : Net} (f : Fine n) {F : List Gate} {L : Bytes → Int} (k : KInv (gs n) (kw n) F [] L) (h : F.length ≠ (gs n).length) : ¬ noCircle n := by
  intro c
  have ex : ∃ g ∈ gs n, g.name ∉ F.map fun g => g.name := by
    apply Classical.byContradiction
    intro hn
    have hall : ∀ g ∈ gs n, g.name ∈ F.map fun g => g.name := fun g hg => Classical.byContradiction fun z => hn ⟨g, hg, z⟩
    have h1 : ((gs n).map fun g => g.name).length ≤ (F.map fun g => g.name).length := nodup_le f.gsn fun x hx => by
      obtain ⟨g, hg, e⟩ := List.mem_map.mp hx
      rw [← e]; exact hall g hg
    have h2 := k.le
    rw [List.length_map, List.length_map] at h1
    simp only [List.length_nil] at h2
    omega
  obtain ⟨g, hg, hgn⟩ := ex
  have hi := fr_grows (links := n.links) (R := fun i => ∃ g ∈ gs n, (g.name ∉ F.map fun g => g.name) ∧ n.place g.name = i) ?_ (n.names.length + 1) (n.place g.name) ⟨g, hg, hgn, rfl⟩
  · have := c (n.place g.name)
    omega
  · rintro i ⟨g, hg, hgn, rfl⟩
    have hz : ¬ L g.name = 0 := fun z => by
      rcases (k.zr g hg).mp z with z | z
      · exact hgn z
      · cases z
    have hc : cnt (kw n) (F.map fun g => g.name) g ≠ 0 := fun z => hz (by rw [k.lk g hg, z]; rfl)
    obtain ⟨d, hd, h1, h2⟩ := cnt_pos hc
    have hdn := f.from_ g (mem_gs.mp hg).1 d hd
    refine ⟨n.place d, ?_, ?_⟩
    · rw [links_at (gate_names (mem_gs.mp hg).1), f.takes_gs hg]
      exact List.mem_map_of_mem hd
    · rcases names_cases hdn with hk | ⟨x, hx, e⟩
      · exact absurd hk h1
      · exact ⟨x, hx, by rw [e]; exact h2, by rw [e]⟩
/-- an order of the gates, as the program finds one -/
structure Ord (n : Net) (F : List Gate) : Prop where
  tp : Topo (kw n) F
  nd : (F.map fun g => g.name).Nodup
  sub : ∀ g ∈ F, g ∈ gs n
  all : ∀ g ∈ gs n, g ∈ F
theorem kahn_ord {n : Net} (f : Fine n) {F : List Gate} {L : Bytes → Int} (k : KInv (gs n) (kw n) F [] L) (h : F.length = (gs n).length) : Ord n F :=
  ⟨k.tp, by have := k.nd; rwa [List.append_nil] at this, k.fg, kahn_all f k h⟩
theorem Ord.mem_iff {n : Net} {F : List Gate} (o : Ord n F) {g : Gate} : g ∈ F ↔ g ∈ gs n := ⟨o.sub g, o.all g⟩
end Gn

/-! # What names have in a beat; how deep they lie: the specification's tables (plain Lean) -/
namespace Gn
open Sf33 (Bytes Net Gate Kind)
section
variable {al : Type}
def sweep (F : Nat → Array al → al) (row : List Nat) (v : Array al) : Array al := row.foldl (fun v i => v.modify i fun _ => F i v) v
theorem sweep_nil (F : Nat → Array al → al) (v : Array al) : sweep F [] v = v := rfl
theorem sweep_cons (F : Nat → Array al → al) (i : Nat) (row : List Nat) (v : Array al) : sweep F (i :: row) v = sweep F row (v.modify i fun _ => F i v) := rfl
theorem sweep_append (F : Nat → Array al → al) (a b : List Nat) (v : Array al) : sweep F (a ++ b) v = sweep F b (sweep F a v) := List.foldl_append
theorem sweep_size (F : Nat → Array al → al) : ∀ (row : List Nat) (v : Array al), (sweep F row v).size = v.size
  | [], _ => rfl
  | i :: row, v => by rw [sweep_cons, sweep_size F row, Array.size_modify]
theorem sweep_out (F : Nat → Array al → al) {j : Nat} : ∀ (row : List Nat) (v : Array al), j ∉ row → (sweep F row v)[j]? = v[j]?
  | [], _, _ => rfl
  | i :: row, v, h => by
    rw [List.mem_cons, not_or] at h
    rw [sweep_cons, sweep_out F row _ h.2, Array.getElem?_modify, if_neg fun e => h.1 e.symm]
theorem sweep_at (F : Nat → Array al → al) {i : Nat} {pre post : List Nat} {v : Array al} (nd : (pre ++ i :: post).Nodup) (hi : i < v.size) : (sweep F (pre ++ i :: post) v)[i]? = some (F i (sweep F pre v)) := by
  have h1 := List.nodup_append.mp nd
  rw [sweep_append, sweep_cons, sweep_out F post _ (List.nodup_cons.mp h1.2.1).1, Array.getElem?_modify, if_pos rfl, Array.getElem?_eq_getElem (by rw [sweep_size]; exact hi)]
  rfl
/-- each entry is what its rule gives of the table as it is in the end, if what it looks at stands before it in the row -/
theorem sweep_fix (F : Nat → Array al → al) (d : al) (D : Nat → List Nat) {row : List Nat} {v : Array al} (nd : row.Nodup)
    (hF : ∀ i (a b : Array al), (∀ j ∈ D i, a.getD j d = b.getD j d) → F i a = F i b)
    (hD : ∀ i pre post, row = pre ++ i :: post → ∀ j ∈ D i, j ∈ pre) {i : Nat} (hi : i ∈ row) (hs : i < v.size) : (sweep F row v).getD i d = F i (sweep F row v) := by
  obtain ⟨pre, post, e⟩ := List.append_of_mem hi
  have nd' := nd
  rw [e] at nd'
  have h1 : (sweep F row v)[i]? = some (F i (sweep F pre v)) := by rw [e]; exact sweep_at F nd' hs
  rw [Array.getD_eq_getD_getElem?, h1]
  refine hF i _ _ fun j hj => ?_
  have hp := hD i pre post e j hj
  have hn : j ∉ i :: post := fun z => (List.nodup_append.mp nd').2.2 j hp j z rfl
  rw [Array.getD_eq_getD_getElem?, Array.getD_eq_getD_getElem?, e, sweep_append, sweep_out F (i :: post) _ hn]
end
/-! ### the row -/
theorem row_pair {t : Nat → Nat} {N : Nat} : ((List.range (N + 1)).flatMap fun d => (List.range N).filter fun i => t i == d).Pairwise fun a b => t a ≤ t b ∧ a ≠ b := by
  rw [List.pairwise_flatMap]
  constructor
  · intro d _
    rw [List.pairwise_filter]
    refine List.Pairwise.imp ?_ List.pairwise_lt_range
    intro a b h ha hb
    rw [beq_iff_eq] at ha hb
    exact ⟨by omega, by omega⟩
  · refine List.Pairwise.imp ?_ List.pairwise_lt_range
    intro a b h x hx y hy
    have h1 := beq_iff_eq.mp (List.mem_filter.mp hx).2
    have h2 := beq_iff_eq.mp (List.mem_filter.mp hy).2
    refine ⟨by omega, fun e => ?_⟩
    subst e
    omega
theorem row_mem {t : Nat → Nat} {N i : Nat} (h : t i ≤ N) (hi : i < N) : i ∈ (List.range (N + 1)).flatMap fun d => (List.range N).filter fun i => t i == d :=
  List.mem_flatMap.mpr ⟨t i, List.mem_range.mpr (Nat.lt_succ_of_le h), List.mem_filter.mpr ⟨List.mem_range.mpr hi, beq_self_eq_true _⟩⟩
theorem ready_row (n : Net) : n.ready.row = (List.range (n.names.length + 1)).flatMap fun d => (List.range n.names.length).filter fun i => fr n.links (n.names.length + 1) i == d := rfl
theorem row_nodup (n : Net) : n.ready.row.Nodup := by
  rw [ready_row]
  exact List.Pairwise.imp (fun h => h.2) row_pair
theorem row_all {n : Net} (c : noCircle n) {i : Nat} (h : i < n.names.length) : i ∈ n.ready.row := by
  rw [ready_row]
  exact row_mem (c i) h
theorem row_before {n : Net} (c : noCircle n) {i : Nat} {pre post : List Nat} (e : n.ready.row = pre ++ i :: post) {j : Nat} (hj : j ∈ n.links.getD i []) (hN : j < n.names.length) : j ∈ pre := by
  have hm := row_all c hN
  have hp : n.ready.row.Pairwise fun a b => fr n.links (n.names.length + 1) a ≤ fr n.links (n.names.length + 1) b := by
    rw [ready_row]
    exact List.Pairwise.imp (fun h => h.1) row_pair
  rw [e] at hm hp
  have hlt := fr_lt c hj
  rcases List.mem_append.mp hm with h | h
  · exact h
  · rcases List.mem_cons.mp h with h | h
    · subst h; omega
    · have := (List.pairwise_cons.mp (List.pairwise_append.mp hp).2.1).1 j h
      omega
/-! ### what a name is -/
theorem findIdx?_nodup {l : List Bytes} (nd : l.Nodup) {i : Nat} {w : Bytes} (h : l[i]? = some w) : l.findIdx? (fun y => y == w) = some i := by
  rw [List.findIdx?_eq_some_iff_findIdx_eq]
  exact ⟨(List.getElem?_eq_some_iff.mp h).1, findIdx_nodup nd h⟩
theorem Fine.insn {n : Net} (f : Fine n) : n.ins.Nodup := nodup_append_left f.nd
theorem is_in {n : Net} (f : Fine n) {j : Nat} {w : Bytes} (h : n.ins[j]? = some w) : n.is_ w = .input j := by
  unfold Net.is_
  rw [findIdx?_nodup f.insn h]
theorem ins_none {n : Net} (f : Fine n) {g : Gate} (h : g ∈ n.gates) : n.ins.findIdx? (fun y => y == g.name) = none := by
  refine List.findIdx?_eq_none_iff.mpr fun w hw => ?_
  exact beq_eq_false_iff_ne.mpr (f.in_gate hw h)
theorem Fine.regsn {n : Net} (f : Fine n) : (n.regs.map fun g => g.name).Nodup := List.Sublist.nodup (List.Sublist.map _ List.filter_sublist) f.gn
theorem is_reg {n : Net} (f : Fine n) {j : Nat} {g : Gate} (h : n.regs[j]? = some g) : n.is_ g.name = .reg j := by
  have hm := mem_regs.mp (List.mem_of_getElem? h)
  unfold Net.is_
  rw [ins_none f hm.1, f.gate hm.1]
  have e : n.regs.findIdx? (fun r => r.name == g.name) = (n.regs.map fun g => g.name).findIdx? (fun y => y == g.name) := by
    rw [List.findIdx?_map]
    rfl
  rw [e, findIdx?_nodup f.regsn (by rw [List.getElem?_map, h]; rfl)]
theorem is_gate {n : Net} (f : Fine n) {g : Gate} (h : g ∈ gs n) : n.is_ g.name = .gate g.kind (g.from_.map n.place) := by
  have hm := mem_gs.mp h
  unfold Net.is_
  rw [ins_none f hm.1, f.gate hm.1]
  have e : n.regs.findIdx? (fun r => r.name == g.name) = none := List.findIdx?_eq_none_iff.mpr fun r hr => by
    refine beq_eq_false_iff_ne.mpr fun e => ?_
    have h1 := mem_regs.mp hr
    rw [name_one f.gn h1.1 hm.1 e] at h1
    rw [h1.2] at hm
    cases hm.2
  rw [e]
theorem ready_is {n : Net} {w : Bytes} (h : w ∈ n.names) (d : Sf33.Is) : n.ready.is_.getD (n.place w) d = n.is_ w := by
  show ((n.names.map n.is_).toArray).getD (n.place w) d = _
  rw [Array.getD_eq_getD_getElem?, List.getElem?_toArray, List.getElem?_map, names_place h]
  rfl
theorem ready_size (n : Net) : n.ready.is_.size = n.names.length := by
  show ((n.names.map n.is_).toArray).size = _
  rw [List.size_toArray, List.length_map]
/-- what a name's rule looks at -/
def looks (n : Net) (i : Nat) : List Nat := match n.ready.is_.getD i (.gate .zero []) with
  | .gate _ l => l
  | _ => []
theorem looks_links {n : Net} (f : Fine n) (i : Nat) : ∀ j ∈ looks n i, j ∈ n.links.getD i [] ∧ j < n.names.length := by
  intro j hj
  unfold looks at hj
  cases q : n.names[i]? with
  | none =>
    have e : n.ready.is_.getD i (.gate .zero []) = .gate .zero [] := by
      show ((n.names.map n.is_).toArray).getD i _ = _
      rw [Array.getD_eq_getD_getElem?, List.getElem?_toArray, List.getElem?_map, q]
      rfl
    rw [e] at hj
    cases hj
  | some w =>
    have hw := List.mem_of_getElem? q
    have ei := place_of f.nd q
    rw [← ei, ready_is hw] at hj
    rw [← ei, links_at hw]
    rcases names_cases hw with hk | ⟨g, hg, rfl⟩
    · unfold kw at hk
      rcases List.mem_append.mp hk with hk | hk
      · obtain ⟨p, hp⟩ := List.mem_iff_getElem?.mp hk
        rw [is_in f hp] at hj
        cases hj
      · obtain ⟨g, hg, e⟩ := List.mem_map.mp hk
        obtain ⟨p, hp⟩ := List.mem_iff_getElem?.mp hg
        rw [← e, is_reg f hp] at hj
        cases hj
    · rw [is_gate f hg] at hj
      rw [f.takes_gs hg]
      refine ⟨hj, ?_⟩
      obtain ⟨d, hd, rfl⟩ := List.mem_map.mp hj
      exact place_lt (f.from_ g (mem_gs.mp hg).1 d hd)
/-! ### the bits -/
def vrule (n : Net) (s : Array Bool) (x : Nat) (i : Nat) (v : Array Bool) : Bool := match n.ready.is_.getD i (.gate .zero []) with
  | .input j => x.testBit j
  | .reg j => s.getD j false
  | .gate k l => k.run (l.map fun j => v.getD j false)
theorem values_sweep (n : Net) (s : Array Bool) (x : Nat) : n.ready.values s x = sweep (vrule n s x) n.ready.row (n.ready.is_.map fun _ => false) := rfl
theorem values_at {n : Net} (f : Fine n) (c : noCircle n) (s : Array Bool) (x : Nat) {w : Bytes} (h : w ∈ n.names) : (n.ready.values s x).getD (n.place w) false = vrule n s x (n.place w) (n.ready.values s x) := by
  rw [values_sweep]
  refine sweep_fix (vrule n s x) false (looks n) (row_nodup n) ?_ ?_ (row_all c (place_lt h)) ?_
  · intro i a b hab
    unfold vrule
    unfold looks at hab
    cases q : n.ready.is_.getD i (.gate .zero []) with
    | input j => rfl
    | reg j => rfl
    | gate k l =>
      rw [q] at hab
      show k.run (l.map fun j => a.getD j false) = k.run (l.map fun j => b.getD j false)
      rw [List.map_congr_left hab]
  · intro i pre post e j hj
    obtain ⟨h1, h2⟩ := looks_links f i j hj
    exact row_before c e h1 h2
  · rw [Array.size_map, ready_size]
    exact place_lt h
/-- the value of a name, by the table -/
def va (n : Net) (s : List Bool) (x : Nat) (w : Bytes) : Bool := (n.ready.values s.toArray x).getD (n.place w) false
theorem va_in {n : Net} (f : Fine n) (c : noCircle n) {s : List Bool} {x j : Nat} {w : Bytes} (h : n.ins[j]? = some w) : va n s x w = x.testBit j := by
  have hw : w ∈ n.names := List.mem_append_left _ (List.mem_of_getElem? h)
  unfold va
  rw [values_at f c _ _ hw]
  unfold vrule
  rw [ready_is hw, is_in f h]
theorem va_reg {n : Net} (f : Fine n) (c : noCircle n) {s : List Bool} {x j : Nat} {g : Gate} (h : n.regs[j]? = some g) : va n s x g.name = s.getD j false := by
  have hm := mem_regs.mp (List.mem_of_getElem? h)
  have hw := gate_names hm.1
  unfold va
  rw [values_at f c _ _ hw]
  unfold vrule
  rw [ready_is hw, is_reg f h]
  show s.toArray.getD j false = _
  rw [Array.getD_eq_getD_getElem?, List.getElem?_toArray, List.getD_eq_getElem?_getD]
theorem va_gate {n : Net} (f : Fine n) (c : noCircle n) {s : List Bool} {x : Nat} {g : Gate} (h : g ∈ gs n) : va n s x g.name = g.kind.run (g.from_.map (va n s x)) := by
  have hm := mem_gs.mp h
  have hw := gate_names hm.1
  unfold va
  rw [values_at f c _ _ hw]
  unfold vrule
  rw [ready_is hw, is_gate f h]
  show g.kind.run ((g.from_.map n.place).map _) = _
  rw [List.map_map]
  rfl
/-! ### how deep -/
def drule (n : Net) (i : Nat) (v : Array Nat) : Nat := match n.ready.is_.getD i (.gate .zero []) with
  | .gate _ l => if l = [] then 0 else (l.foldl (fun d j => max d (v.getD j 0)) 0) + 1
  | _ => 0
theorem depths_sweep (n : Net) : n.ready.depths = sweep (drule n) n.ready.row (n.ready.is_.map fun _ => 0) := rfl
theorem foldl_congr {al be : Type} {f g : be → al → be} : ∀ {l : List al} {b : be}, (∀ b, ∀ x ∈ l, f b x = g b x) → l.foldl f b = l.foldl g b
  | [], _, _ => rfl
  | x :: l, b, h => by
    rw [List.foldl_cons, List.foldl_cons, h b x (List.mem_cons_self ..)]
    exact foldl_congr fun b y hy => h b y (List.mem_cons_of_mem _ hy)
theorem depths_at {n : Net} (f : Fine n) (c : noCircle n) {w : Bytes} (h : w ∈ n.names) : n.ready.depths.getD (n.place w) 0 = drule n (n.place w) n.ready.depths := by
  rw [depths_sweep]
  refine sweep_fix (drule n) 0 (looks n) (row_nodup n) ?_ ?_ (row_all c (place_lt h)) ?_
  · intro i a b hab
    unfold drule
    unfold looks at hab
    cases q : n.ready.is_.getD i (.gate .zero []) with
    | input j => rfl
    | reg j => rfl
    | gate k l =>
      rw [q] at hab
      show (if l = [] then 0 else _) = (if l = [] then 0 else _)
      rw [foldl_congr (f := fun d j => max d (a.getD j 0)) (g := fun d j => max d (b.getD j 0)) fun d j hj => by rw [hab j hj]]
  · intro i pre post e j hj
    obtain ⟨h1, h2⟩ := looks_links f i j hj
    exact row_before c e h1 h2
  · rw [Array.size_map, ready_size]
    exact place_lt h
def dp (n : Net) (w : Bytes) : Nat := n.ready.depths.getD (n.place w) 0
theorem dp_kw {n : Net} (f : Fine n) (c : noCircle n) {w : Bytes} (h : w ∈ kw n) : dp n w = 0 := by
  have hw := kw_names h
  unfold dp
  rw [depths_at f c hw]
  unfold drule
  rw [ready_is hw]
  unfold kw at h
  rcases List.mem_append.mp h with h | h
  · obtain ⟨p, hp⟩ := List.mem_iff_getElem?.mp h
    rw [is_in f hp]
  · obtain ⟨g, hg, e⟩ := List.mem_map.mp h
    obtain ⟨p, hp⟩ := List.mem_iff_getElem?.mp hg
    rw [← e, is_reg f hp]
theorem dp_gate {n : Net} (f : Fine n) (c : noCircle n) {g : Gate} (h : g ∈ gs n) : dp n g.name = if g.from_ = [] then 0 else mx g.from_ (dp n) + 1 := by
  have hm := mem_gs.mp h
  have hw := gate_names hm.1
  unfold dp
  rw [depths_at f c hw]
  unfold drule
  rw [ready_is hw, is_gate f h]
  show (if g.from_.map n.place = [] then 0 else mx (g.from_.map n.place) (fun j => n.ready.depths.getD j 0) + 1) = _
  rw [mx_map]
  by_cases e : g.from_ = []
  · rw [if_pos e, if_pos (by rw [e]; rfl)]
  · rw [if_neg e, if_neg fun z => e (List.map_eq_nil_iff.mp z)]
theorem depth_mx {n : Net} (f : Fine n) : n.depth = mx n.names (dp n) := by
  have hs : n.ready.depths.size = n.names.length := by
    rw [depths_sweep, sweep_size, Array.size_map, ready_size]
  have hl : n.ready.depths.toList = n.names.map (dp n) := by
    apply List.ext_getElem?
    intro i
    rw [List.getElem?_map, Array.getElem?_toList]
    cases q : n.names[i]? with
    | none =>
      have : n.names.length ≤ i := List.getElem?_eq_none_iff.mp q
      rw [Array.getElem?_eq_none (by omega)]
      rfl
    | some w =>
      have ei := place_of f.nd q
      have hi : i < n.ready.depths.size := by rw [hs]; exact (List.getElem?_eq_some_iff.mp q).1
      show n.ready.depths[i]? = some (dp n w)
      unfold dp
      rw [ei, Array.getD_eq_getD_getElem?, Array.getElem?_eq_getElem hi]
      rfl
  unfold Net.depth
  rw [← Array.foldl_toList, hl, List.foldl_map]
  rfl
/-! ### one beat -/
theorem out_eq (n : Net) (s : List Bool) (x : Nat) : n.ready.out (n.ready.values s.toArray x) = Sf33.bits (n.outs.map (va n s x)) := by
  show Sf33.bits ((n.outs.map n.place).map _) = _
  rw [List.map_map]
  rfl
theorem next_eq (n : Net) (s : List Bool) (x : Nat) : n.ready.next (n.ready.values s.toArray x) = n.regs.map fun g => va n s x (g.from_.headD []) := by
  show (n.regs.map fun g => n.place (g.from_.headD [])).map _ = _
  rw [List.map_map]
  rfl
end Gn

/-! # Bits side by side (plain Lean) -/
namespace Gn
open Sf33 (Bytes Net Gate Kind)
/-- m bits side by side -/
def Col (m B : Nat) (f : Nat → Bool) : Prop := B < 2 ^ m ∧ ∀ c, c < m → B.testBit c = f c
theorem Col.congr {m B : Nat} {f g : Nat → Bool} (h : Col m B f) (e : ∀ c, c < m → f c = g c) : Col m B g := ⟨h.1, fun c hc => (h.2 c hc).trans (e c hc)⟩
theorem Col.and {m A B : Nat} {f g : Nat → Bool} (h : Col m A f) (k : Col m B g) : Col m (A &&& B) fun c => f c && g c :=
  ⟨Nat.and_lt_two_pow A k.1, fun c hc => by rw [Nat.testBit_and, h.2 c hc, k.2 c hc]⟩
theorem Col.or {m A B : Nat} {f g : Nat → Bool} (h : Col m A f) (k : Col m B g) : Col m (A ||| B) fun c => f c || g c :=
  ⟨Nat.or_lt_two_pow h.1 k.1, fun c hc => by rw [Nat.testBit_or, h.2 c hc, k.2 c hc]⟩
theorem Col.xor {m A B : Nat} {f g : Nat → Bool} (h : Col m A f) (k : Col m B g) : Col m (A ^^^ B) fun c => f c ^^ g c :=
  ⟨Nat.xor_lt_two_pow h.1 k.1, fun c hc => by rw [Nat.testBit_xor, h.2 c hc, k.2 c hc]⟩
theorem Col.ones (m : Nat) : Col m (2 ^ m - 1) fun _ => true :=
  ⟨by have := Nat.two_pow_pos m; omega, fun c hc => by rw [Nat.testBit_two_pow_sub_one]; exact decide_eq_true hc⟩
theorem Col.zero (m : Nat) : Col m 0 fun _ => false := ⟨Nat.two_pow_pos m, fun c _ => Nat.zero_testBit c⟩
theorem xor_and_sum (x : Nat) : ∀ y : Nat, (x ^^^ y) + 2 * (x &&& y) = x + y := by
  induction x using Nat.strongRecOn with
  | _ x ih =>
    intro y
    by_cases hx : x = 0
    · rw [hx, Nat.zero_xor, Nat.zero_and]; omega
    · have h1 := ih (x / 2) (by omega) (y / 2)
      have h2 : (x ^^^ y) / 2 = x / 2 ^^^ y / 2 := Nat.xor_div_two
      have h3 : (x &&& y) / 2 = x / 2 &&& y / 2 := Nat.and_div_two
      have h4 := @Nat.xor_mod_two_eq_one x y
      have h5 := @Nat.and_mod_two_eq_one x y
      rw [← h2, ← h3] at h1
      omega
theorem sub_and (c a : Nat) : c - (c &&& a) = c ^^^ (c &&& a) := by
  have h := xor_and_sum c (c &&& a)
  rw [← Nat.and_assoc, Nat.and_self] at h
  omega
theorem Col.less {m A B : Nat} {f g : Nat → Bool} (h : Col m A f) (k : Col m B g) : Col m (B - (B &&& A)) fun c => g c && !f c := by
  rw [sub_and]
  refine (k.xor (k.and h)).congr fun c _ => ?_
  cases f c <;> cases g c <;> rfl
/-! ### a gate -/
def turned : Kind → Option Kind
  | .nand => some .and
  | .nor => some .or
  | .xnor => some .xor
  | .not => some .buf
  | .one => some .zero
  | _ => none
def plN (k : Kind) (l : List Nat) : Nat := match k with
  | .zero => 0
  | .buf => l.getD 0 0
  | .and => l.getD 0 0 &&& l.getD 1 0
  | .or => l.getD 0 0 ||| l.getD 1 0
  | .xor => l.getD 0 0 ^^^ l.getD 1 0
  | .maj => (l.getD 0 0 &&& l.getD 1 0 ||| l.getD 0 0 &&& l.getD 2 0) ||| l.getD 1 0 &&& l.getD 2 0
  | .mux => (l.getD 0 0 &&& l.getD 1 0) ||| (l.getD 2 0 - (l.getD 2 0 &&& l.getD 0 0))
  | _ => 0
def gtN (k : Kind) (l : List Nat) (o : Nat) : Nat := match turned k with
  | some k' => plN k' l ^^^ o
  | none => plN k l &&& o
theorem gt_col {m : Nat} {B : Bytes → Nat} {v : Nat → Bytes → Bool} {k : Kind} (hk : k.isReg = false) {l : List Bytes} (hl : l.length = ar k) (h : ∀ d ∈ l, Col m (B d) fun c => v c d) :
    Col m (gtN k (l.map B) (2 ^ m - 1)) fun c => k.run (l.map (v c)) := by
  have on := Col.ones m
  cases k with
  | zero => exact ((Col.zero m).and on).congr fun c _ => rfl
  | one => exact ((Col.zero m).xor on).congr fun c _ => rfl
  | reg b => cases hk
  | not =>
    obtain ⟨x, rfl⟩ : ∃ x, l = [x] := List.length_eq_one_iff.mp hl
    refine ((h x (by simp)).xor on).congr fun c _ => ?_
    show (v c x ^^ true) = !v c x
    cases v c x <;> rfl
  | buf =>
    obtain ⟨x, rfl⟩ : ∃ x, l = [x] := List.length_eq_one_iff.mp hl
    refine ((h x (by simp)).and on).congr fun c _ => ?_
    show (v c x && true) = v c x
    cases v c x <;> rfl
  | and | or | xor | nand | nor | xnor =>
    obtain ⟨x, y, rfl⟩ : ∃ x y, l = [x, y] := by
      match l, hl with
      | [x, y], _ => exact ⟨x, y, rfl⟩
    have hx := h x (by simp)
    have hy := h y (by simp)
    first
      | (refine ((hx.and hy).and on).congr fun c _ => ?_
         show ((v c x && v c y) && true) = (v c x && v c y)
         cases v c x <;> cases v c y <;> rfl)
      | (refine ((hx.or hy).and on).congr fun c _ => ?_
         show ((v c x || v c y) && true) = (v c x || v c y)
         cases v c x <;> cases v c y <;> rfl)
      | (refine ((hx.xor hy).and on).congr fun c _ => ?_
         show ((v c x ^^ v c y) && true) = (v c x != v c y)
         cases v c x <;> cases v c y <;> rfl)
      | (refine ((hx.and hy).xor on).congr fun c _ => ?_
         show ((v c x && v c y) ^^ true) = !(v c x && v c y)
         cases v c x <;> cases v c y <;> rfl)
      | (refine ((hx.or hy).xor on).congr fun c _ => ?_
         show ((v c x || v c y) ^^ true) = !(v c x || v c y)
         cases v c x <;> cases v c y <;> rfl)
      | (refine ((hx.xor hy).xor on).congr fun c _ => ?_
         show ((v c x ^^ v c y) ^^ true) = (v c x == v c y)
         cases v c x <;> cases v c y <;> rfl)
  | maj =>
    obtain ⟨x, y, z, rfl⟩ : ∃ x y z, l = [x, y, z] := by
      match l, hl with
      | [x, y, z], _ => exact ⟨x, y, z, rfl⟩
    have hx := h x (by simp)
    have hy := h y (by simp)
    have hz := h z (by simp)
    refine ((((hx.and hy).or (hx.and hz)).or (hy.and hz)).and on).congr fun c _ => ?_
    show ((((v c x && v c y) || (v c x && v c z)) || (v c y && v c z)) && true) = ((v c x && v c y) || ((v c x && v c z) || (v c y && v c z)))
    cases v c x <;> cases v c y <;> cases v c z <;> rfl
  | mux =>
    obtain ⟨x, y, z, rfl⟩ : ∃ x y z, l = [x, y, z] := by
      match l, hl with
      | [x, y, z], _ => exact ⟨x, y, z, rfl⟩
    have hx := h x (by simp)
    have hy := h y (by simp)
    have hz := h z (by simp)
    refine (((hx.and hy).or (hx.less hz)).and on).congr fun c _ => ?_
    show (((v c x && v c y) || (v c z && !v c x)) && true) = (if v c x = true then v c y else v c z)
    cases v c x <;> cases v c y <;> cases v c z <;> rfl
/-! ### a list of bits as a number -/
def b2n (b : Bool) : Nat := if b = true then 1 else 0
theorem bits_nil : Sf33.bits [] = 0 := rfl
theorem sum_double (l : List Nat) (f : Nat → Bool) : (l.map fun i => if f i = true then 2 ^ (i + 1) else 0).sum = 2 * (l.map fun i => if f i = true then 2 ^ i else 0).sum := by
  induction l with
  | nil => rfl
  | cons x l ih =>
    rw [List.map_cons, List.map_cons, List.sum_cons, List.sum_cons, ih, Nat.mul_add]
    congr 1
    split
    · rw [Nat.pow_succ, Nat.mul_comm]
    · rfl
theorem bits_cons (b : Bool) (l : List Bool) : Sf33.bits (b :: l) = b2n b + 2 * Sf33.bits l := by
  unfold Sf33.bits
  rw [List.length_cons, List.range_succ_eq_map, List.map_cons, List.sum_cons, List.map_map]
  have h := sum_double (List.range l.length) fun i => l.getD i false
  rw [← h]
  congr 1
/-- as number_of reckons it -/
def numb (l : List Bool) : Nat := l.reverse.foldl (fun a b => 2 * a + b2n b) 0
theorem numb_bits (l : List Bool) : numb l = Sf33.bits l := by
  unfold numb
  induction l with
  | nil => rfl
  | cons b l ih =>
    rw [List.reverse_cons, List.foldl_append, ih, bits_cons]
    show 2 * Sf33.bits l + b2n b = _
    omega
theorem bits_inj : ∀ {a b : List Bool}, a.length = b.length → Sf33.bits a = Sf33.bits b → a = b
  | [], [], _, _ => rfl
  | [], _ :: _, h, _ => by cases h
  | _ :: _, [], h, _ => by cases h
  | x :: a, y :: b, h, e => by
    rw [bits_cons, bits_cons] at e
    have h1 : b2n x < 2 := by unfold b2n; split <;> decide
    have h2 : b2n y < 2 := by unfold b2n; split <;> decide
    have e1 : b2n x = b2n y := by omega
    have e2 : Sf33.bits a = Sf33.bits b := by omega
    have e3 : x = y := by
      cases x <;> cases y <;> first | rfl | (unfold b2n at e1; simp at e1)
    rw [e3, bits_inj (Nat.succ.inj h) e2]
/-! ### one bit -/
theorem col_one {B : Nat} {f : Nat → Bool} (h : Col 1 B f) : B = b2n (f 0) := by
  have h1 := h.1
  have h2 := h.2 0 (by decide)
  have h3 : B = 0 ∨ B = 1 := by omega
  rcases h3 with e | e
  · subst e
    rw [← h2]
    rfl
  · subst e
    rw [← h2]
    rfl
theorem one_col (b : Bool) : Col 1 (b2n b) fun _ => b := by
  cases b
  · exact ⟨by decide, fun c hc => by rw [show c = 0 by omega]; rfl⟩
  · exact ⟨by decide, fun c hc => by rw [show c = 0 by omega]; rfl⟩
theorem testBit_mod (x k : Nat) : x / 2 ^ k % 2 = b2n (x.testBit k) := by
  rw [Nat.testBit_eq_decide_div_mod_eq]
  unfold b2n
  have : x / 2 ^ k % 2 = 0 ∨ x / 2 ^ k % 2 = 1 := by omega
  rcases this with e | e <;> rw [e] <;> rfl
end Gn

/-! # All numbers' bits side by side, the lowest set bit, the first difference (plain Lean) -/
namespace Gn
open Sf33 (Bytes Net Gate Kind)
/-! ### an input's bits for all numbers -/
theorem all_base (k : Nat) : Col (2 ^ (k + 1)) ((2 ^ 2 ^ k - 1) * 2 ^ 2 ^ k) fun c => c.testBit k := by
  have h0 := Nat.two_pow_pos k
  have h1 := Nat.two_pow_pos (2 ^ k)
  constructor
  · have e : 2 ^ 2 ^ (k + 1) = 2 ^ 2 ^ k * 2 ^ 2 ^ k := by rw [← Nat.pow_add, Nat.pow_succ, Nat.mul_two]
    rw [e]
    exact Nat.mul_lt_mul_of_pos_right (by omega) h1
  · intro c hc
    rw [Nat.pow_succ] at hc
    rw [← Nat.shiftLeft_eq, Nat.testBit_shiftLeft, Nat.testBit_two_pow_sub_one]
    by_cases h : 2 ^ k ≤ c
    · have e1 : decide (c ≥ 2 ^ k) = true := decide_eq_true h
      have e2 : decide (c - 2 ^ k < 2 ^ k) = true := decide_eq_true (by omega)
      have e3 : c.testBit k = true := by
        rw [Nat.testBit_eq_decide_div_mod_eq]
        have : c / 2 ^ k = 1 := Nat.div_eq_of_lt_le (by omega) (by omega)
        rw [this]; rfl
      show _ = c.testBit k
      rw [e1, e2, e3]; rfl
    · have e1 : decide (c ≥ 2 ^ k) = false := decide_eq_false h
      show _ = c.testBit k
      rw [e1, Nat.testBit_lt_two_pow (by omega)]; rfl
theorem all_step {j k found : Nat} (hk : k < j) (h : Col (2 ^ j) found fun c => c.testBit k) : Col (2 ^ (j + 1)) (found ||| found * 2 ^ 2 ^ j) fun c => c.testBit k := by
  have e : 2 ^ 2 ^ (j + 1) = 2 ^ 2 ^ j * 2 ^ 2 ^ j := by rw [← Nat.pow_add, Nat.pow_succ, Nat.mul_two]
  have h1 := Nat.two_pow_pos (2 ^ j)
  constructor
  · refine Nat.or_lt_two_pow (Nat.lt_of_lt_of_le h.1 (Nat.pow_le_pow_right (by decide) (Nat.pow_le_pow_right (by decide) (by omega)))) ?_
    rw [e]
    exact Nat.mul_lt_mul_of_pos_right h.1 h1
  · intro c hc
    rw [Nat.pow_succ] at hc
    rw [Nat.testBit_or, ← Nat.shiftLeft_eq, Nat.testBit_shiftLeft]
    by_cases g : 2 ^ j ≤ c
    · have e1 : decide (c ≥ 2 ^ j) = true := decide_eq_true g
      have e2 : found.testBit c = false := Nat.testBit_lt_two_pow (Nat.lt_of_lt_of_le h.1 (Nat.pow_le_pow_right (by decide) g))
      rw [e1, e2, h.2 (c - 2 ^ j) (by omega), Bool.true_and, Bool.false_or]
      have e3 : c = 2 ^ j + (c - 2 ^ j) := by omega
      show (c - 2 ^ j).testBit k = c.testBit k
      have e4 := Nat.testBit_two_pow_add_gt hk (c - 2 ^ j)
      rw [← e3] at e4
      exact e4.symm
    · have e1 : decide (c ≥ 2 ^ j) = false := decide_eq_false g
      rw [e1, h.2 c (by omega), Bool.false_and, Bool.or_false]
/-! ### the lowest set bit -/
theorem lowest (a : Nat) : 0 < a → ∃ i, a - (a &&& (a - 1)) = 2 ^ i ∧ a.testBit i = true ∧ ∀ j, j < i → a.testBit j = false := by
  induction a using Nat.strongRecOn with
  | _ a ih =>
    intro ha
    have h3 : (a &&& (a - 1)) / 2 = a / 2 &&& (a - 1) / 2 := Nat.and_div_two
    have h5 := @Nat.and_mod_two_eq_one a (a - 1)
    by_cases ho : a % 2 = 1
    · refine ⟨0, ?_, by rw [Nat.testBit_zero]; exact decide_eq_true ho, fun j hj => absurd hj (Nat.not_lt_zero _)⟩
      have e1 : (a - 1) / 2 = a / 2 := by omega
      rw [e1, Nat.and_self] at h3
      have h6 : (a &&& (a - 1)) % 2 ≠ 1 := fun z => by have := h5.mp z; omega
      show _ = 1
      omega
    · obtain ⟨i, i1, i2, i3⟩ := ih (a / 2) (by omega) (by omega)
      refine ⟨i + 1, ?_, by rw [Nat.testBit_succ]; exact i2, fun j hj => ?_⟩
      · have e1 : (a - 1) / 2 = a / 2 - 1 := by omega
        rw [e1] at h3
        have h6 : (a &&& (a - 1)) % 2 ≠ 1 := fun z => by have := h5.mp z; omega
        rw [Nat.pow_succ]
        omega
      · cases j with
        | zero => rw [Nat.testBit_zero]; exact decide_eq_false ho
        | succ j => rw [Nat.testBit_succ]; exact i3 j (by omega)
/-! ### outputs that differ -/
theorem bits_ne : ∀ (a b : List Bool), a.length = b.length → ((a.zip b).any fun p => p.1 ^^ p.2) = (Sf33.bits a != Sf33.bits b)
  | [], [], _ => rfl
  | [], _ :: _, h => by cases h
  | _ :: _, [], h => by cases h
  | x :: a, y :: b, h => by
    have ih := bits_ne a b (Nat.succ.inj h)
    rw [List.zip_cons_cons, List.any_cons, ih, bits_cons, bits_cons]
    have hb : (Sf33.bits a != Sf33.bits b) = decide (Sf33.bits a ≠ Sf33.bits b) := by
      by_cases e : Sf33.bits a = Sf33.bits b <;> simp [e]
    have hc : (b2n x + 2 * Sf33.bits a != b2n y + 2 * Sf33.bits b) = decide (b2n x + 2 * Sf33.bits a ≠ b2n y + 2 * Sf33.bits b) := by
      by_cases e : b2n x + 2 * Sf33.bits a = b2n y + 2 * Sf33.bits b <;> simp [e]
    rw [hb, hc]
    cases x <;> cases y
    · show (false || _) = _
      rw [Bool.false_or]
      refine decide_eq_decide.mpr ?_
      show _ ↔ 0 + 2 * _ ≠ 0 + 2 * _
      omega
    · show (true || _) = _
      rw [Bool.true_or]
      refine (decide_eq_true ?_).symm
      show 0 + 2 * _ ≠ 1 + 2 * _
      omega
    · show (true || _) = _
      rw [Bool.true_or]
      refine (decide_eq_true ?_).symm
      show 1 + 2 * _ ≠ 0 + 2 * _
      omega
    · show (false || _) = _
      rw [Bool.false_or]
      refine decide_eq_decide.mpr ?_
      show _ ↔ 1 + 2 * _ ≠ 1 + 2 * _
      omega
/-- what's found from apart's bits -/
theorem find_none {m a : Nat} {f p : Nat → Bool} (h : Col m a f) (e : ∀ c, c < m → p c = f c) (h0 : a = 0) : (List.range m).find? p = none := by
  refine List.find?_eq_none.mpr fun c hc => ?_
  have hc' := List.mem_range.mp hc
  rw [e c hc', ← h.2 c hc', h0, Nat.zero_testBit]
  exact Bool.false_ne_true
theorem find_some {m a i : Nat} {f p : Nat → Bool} (h : Col m a f) (e : ∀ c, c < m → p c = f c) (h1 : a.testBit i = true) (h2 : ∀ j, j < i → a.testBit j = false) : (List.range m).find? p = some i := by
  have hi : i < m := by
    rcases Nat.lt_or_ge i m with q | q
    · exact q
    · have := Nat.testBit_lt_two_pow (Nat.lt_of_lt_of_le h.1 (Nat.pow_le_pow_right (by decide) q))
      rw [h1] at this
      cases this
  refine List.find?_range_eq_some.mpr ⟨?_, List.mem_range.mpr hi, fun j hj => ?_⟩
  · rw [e i hi, ← h.2 i hi, h1]
  · rw [e j (Nat.lt_trans hj hi), ← h.2 j (Nat.lt_trans hj hi), h2 j hj]; rfl
end Gn

/-! # The program's text by places; heaps; what the top has written -/
namespace Gw
open PySem PySem.Spec PyProof.Rows L2
open Sf33 (Bytes)
def topS (i : Nat) : Stmt := PySem.Challenge.pw_gatenets_s03_same.main.body.getD i (.Pass ⟨0, 0, 0, 0⟩)
abbrev sWant : Stmt := topS 21
abbrev sSign : Stmt := topS 22
abbrev sLines : Stmt := topS 23
abbrev sWords : Stmt := topS 24
abbrev sIsName : Stmt := topS 25
abbrev sTInit : Stmt := inClass (topS 26) 0
abbrev sTake : Stmt := inClass (topS 26) 1
abbrev sToldBy : Stmt := topS 27
abbrev sOrder : Stmt := topS 32
abbrev sNInit : Stmt := inClass (topS 33) 0
abbrev sFirst : Stmt := inClass (topS 33) 1
abbrev sWantN : Stmt := topS 34
abbrev sNetOf : Stmt := topS 35
theorem boot_all0 : bootBuiltins "all" = some (.builtin "all") := by decide +kernel
theorem boot_dict0 : bootBuiltins "dict" = some (.type "dict") := by decide +kernel
theorem boot_list0 : bootBuiltins "list" = some (.type "list") := by decide +kernel
theorem boot_int0 : bootBuiltins "int" = some (.type "int") := by decide +kernel
theorem boot_max0 : bootBuiltins "max" = some (.builtin "max") := by decide +kernel
/-- parts of the text: a call's first argument, a statement's expression, a comprehension's scope -/
def callArg : Expr → Expr
  | .Call _ (e :: _) _ _ => e
  | e => e
def stExpr : Stmt → Expr
  | .Expr e _ => e
  | .Assign _ e _ => e
  | .Return (some e) _ => e
  | _ => .Constant .none 0 ⟨0, 0, 0, 0⟩
def compScope : Expr → Scope
  | .ListComp _ _ sc _ => sc
  | _ => { kind := .function, names := [], isGenerator := false, isCoroutine := false }
/-! ### values -/
def iv (c : UInt8) : V := .int (c.toNat : Int)
def S (w : Bytes) : Str := ⟨(Gn.cd w).toArray⟩
def sv (w : Bytes) : V := .str (S w)
theorem S_eq {a b : Bytes} : S a = S b ↔ Gn.cd a = Gn.cd b := by
  unfold S
  constructor
  · intro h
    have h1 := Str.mk.inj h
    exact congrArg Array.toList h1
  · intro h
    rw [h]
theorem S_inj {a b : Bytes} (h : S a = S b) (hb : Sf33.isName b = true) : a = b := Gn.name_inj (S_eq.mp h) hb
theorem S_length (w : Bytes) : (S w).length = w.length := by
  unfold S Str.length
  rw [List.size_toArray, Gn.cd_length]
theorem S_append (a b : Bytes) : S a ++ S b = S (a ++ b) := by
  show (⟨(Gn.cd a).toArray ++ (Gn.cd b).toArray⟩ : Str) = ⟨(Gn.cd (a ++ b)).toArray⟩
  unfold Gn.cd
  rw [List.map_append, List.append_toArray]
theorem S_one (c : UInt8) : S [c] = ⟨#[Gn.sg c]⟩ := rfl
theorem S_nil : S [] = ⟨#[]⟩ := rfl
theorem S_empty : ("" : Str) = S [] := by decide +kernel
theorem S_in : ("in" : Str) = S (Sf33.txt "in") := by decide +kernel
theorem S_out : ("out" : Str) = S (Sf33.txt "out") := by decide +kernel
theorem S_is : ("=" : Str) = S [61] := by decide +kernel
theorem S_cps (w : Bytes) : (S w).cps.toList = Gn.cd w := rfl
theorem line_of {n : Nat} (h : n ≤ 1000000) : n ≤ sizeLine := Nat.le_trans h (by rw [sizeLine_eq]; decide)
theorem line_lt {n : Nat} (h : n ≤ 1000000) : n < sizeLine := Nat.lt_of_le_of_lt h (by rw [sizeLine_eq]; decide)
/-! ### ways -/
theorem iteT' {c : Bool} {A B : Prop} (hc : c = true) (h : A) : if c = true then A else B := by
  rw [if_pos hc]
  exact h
theorem iteF' {c : Bool} {A B : Prop} (hc : c = false) (h : B) : if c = true then A else B := by
  rw [hc, if_neg Bool.false_ne_true]
  exact h
theorem yesT {σ : L2.St} {H : Hp} {A B : Hp → Prop} (h : A H) : tYes σ H (fun b H3 => if b = true then A H3 else B H3) := by
  show if true = true then A H else B H
  rw [if_pos rfl]
  exact h
theorem at_nat {al : Type} {xs : List al} {z : Int} {j : Nat} {v : al} (e : z = (j : Int)) (h : xs[j]? = some v) : atI xs z = some v := by
  rw [e]
  exact atI_nat h
/-! ### heaps -/
theorem same_upd {H : Hp} {p : Addr} {o : HO} (h : H p = none) : Same H (upd H p o) := fun b x e => by
  rw [upd_ne (ne_of_none e h)]
  exact e
theorem same_upd' {H H1 : Hp} {p : Addr} {o : HO} (s : Same H H1) (h : H p = none) : Same H (upd H1 p o) := fun b x e => by
  rw [upd_ne (ne_of_none e h)]
  exact s b x e
theorem Same.none {H H1 : Hp} {p : Addr} (s : Same H H1) (h : H1 p = none) : H p = none := s.free h
/-- all but what stands at xs is as it was -/
def Kp (xs : List Addr) (H H' : Hp) : Prop := ∀ b o, H b = some o → b ∉ xs → H' b = some o
theorem Kp.refl (xs : List Addr) (H : Hp) : Kp xs H H := fun _ _ h _ => h
theorem Kp.of {xs : List Addr} {H H' : Hp} (s : Same H H') : Kp xs H H' := fun b o h _ => s b o h
theorem Kp.same {H H' : Hp} (k : Kp [] H H') : Same H H' := fun b o h => k b o h (by simp)
theorem Kp.trans {xs : List Addr} {H H1 H2 : Hp} (a : Kp xs H H1) (b : Kp xs H1 H2) : Kp xs H H2 := fun c o h n => b c o (a c o h n) n
theorem Kp.mono {xs ys : List Addr} {H H' : Hp} (a : Kp xs H H') (h : ∀ x ∈ xs, x ∈ ys) : Kp ys H H' := fun c o e n => a c o e fun z => n (h c z)
theorem Kp.put {xs : List Addr} {H H' : Hp} {p : Addr} {o : HO} (a : Kp xs H H') (h : p ∈ xs ∨ H p = none) : Kp xs H (upd H' p o) := fun c u e n => by
  have : c ≠ p := fun z => by
    subst z
    rcases h with h | h
    · exact n h
    · rw [h] at e; cases e
  rw [upd_ne this]
  exact a c u e n
theorem Kp.drop {xs : List Addr} {H H' : Hp} (a : Kp xs H H') (h : ∀ x ∈ xs, H x = none) : Same H H' := fun c o e => a c o e fun z => by rw [h c z] at e; cases e
/-! ### comprehensions: each item told, or some of them kept -/
section
variable {J : It} {xs : List V} {G : Hp → Prop} {Y : Nat → Hp → V → Hp → Prop} {g : TG} {tt : TT} {te : TE} {vs : List Nat} {σ : L2.St} {H1 : Hp} {D : Addr} {Qd : Hp → Prop}
theorem lc_mapW (w : Walk J xs.length G Y) (hY : ∀ (i : Nat) (H : Hp) (x : V) (H' : Hp), Y i H x H' → H' = H ∧ xs[i]? = some x) (ys : List V) (hl : ys.length = xs.length) (hz : xs.length ≤ 1000000) (nD : H1 D = none) (hG : ∀ H, Same H1 H → G H)
    (hs : ∀ (i : Nat) (x y : V) (H : Hp) (Q : VK), xs[i]? = some x → ys[i]? = some y → Same H1 H → (∀ H', Same H H' → Q y H') → g x (wipe σ vs) H fun σ2 H2 => wipe σ2 vs = wipe σ vs ∧ te σ2 H2 Q)
    (mono : ∀ x σ H (Q Q' : L2.St → Hp → Prop), (∀ σ' H', Q σ' H' → Q' σ' H') → g x σ H Q → g x σ H Q')
    (hd : ∀ H', Same H1 H' → H' D = some (.lst ys) → Qd H') :
    ∃ W : Nat → Nat → Hp → Prop, (∃ m, W 0 m (upd H1 D (.lst []))) ∧ ∀ i m H, W i m H →
      (J.stop i H ∧ Qd H) ∨ (J.go i H ∧ ∃ Nx : Hp → Prop, (∀ H', Nx H' → ∃ m', m' < m ∧ W (i + 1) m' H') ∧ ∀ x H', J.yld i H x H' → g x (wipe σ vs) H' fun σ2 H2 => wipe σ2 vs = wipe σ vs ∧ tYes σ2 H2 fun b H3 =>
        if b = true then te σ2 H3 fun y H4 => ∃ acc, H4 D = some (.lst acc) ∧ acc.length < sizeLine ∧ Nx (upd H4 D (.lst (acc ++ [y]))) else Nx H3) := by
  refine lc_it w (fun i H => Same H1 H ∧ H D = some (.lst (ys.take i))) ⟨same_upd nD, upd_same⟩ (fun i H _ h => hG H h.1) ?_ ?_
  · rintro i x H H' hi ⟨s1, hD⟩ y
    obtain ⟨rfl, hx⟩ := hY i H x H' y
    have hy : ys[i]? = some ys[i] := List.getElem?_eq_getElem (by omega)
    refine mono _ _ _ _ _ (fun σ' H' h => ⟨h.1, yesT h.2⟩) (hs i x _ H' _ hx hy s1 fun H2 s2 => ⟨_, s2 _ _ hD, ?_, ?_, ?_⟩)
    · rw [List.length_take]
      exact line_lt (by omega)
    · exact same_upd' (s1.trans s2) nD
    · rw [upd_same, List.take_add_one, hy]
      rfl
  · rintro H ⟨s1, hD⟩
    rw [← hl, List.take_length] at hD
    exact hd H s1 hD
theorem lc_filtW (w : Walk J xs.length G Y) (hY : ∀ (i : Nat) (H : Hp) (x : V) (H' : Hp), Y i H x H' → H' = H ∧ xs[i]? = some x) (p : V → Bool) (hz : xs.length ≤ 1000000) (nD : H1 D = none) (hG : ∀ H, Same H1 H → G H)
    (hs : ∀ (i : Nat) (x : V) (H : Hp) (A : VK) (B : Hp → Prop), xs[i]? = some x → Same H1 H → (p x = true → ∀ H', Same H H' → A x H') → (p x = false → ∀ H', Same H H' → B H') →
      g x (wipe σ vs) H fun σ2 H2 => wipe σ2 vs = wipe σ vs ∧ tt σ2 H2 fun b H3 => if b = true then te σ2 H3 A else B H3)
    (hd : ∀ H', Same H1 H' → H' D = some (.lst (xs.filter p)) → Qd H') :
    ∃ W : Nat → Nat → Hp → Prop, (∃ m, W 0 m (upd H1 D (.lst []))) ∧ ∀ i m H, W i m H →
      (J.stop i H ∧ Qd H) ∨ (J.go i H ∧ ∃ Nx : Hp → Prop, (∀ H', Nx H' → ∃ m', m' < m ∧ W (i + 1) m' H') ∧ ∀ x H', J.yld i H x H' → g x (wipe σ vs) H' fun σ2 H2 => wipe σ2 vs = wipe σ vs ∧ tt σ2 H2 fun b H3 =>
        if b = true then te σ2 H3 fun y H4 => ∃ acc, H4 D = some (.lst acc) ∧ acc.length < sizeLine ∧ Nx (upd H4 D (.lst (acc ++ [y]))) else Nx H3) := by
  refine lc_it w (fun i H => Same H1 H ∧ H D = some (.lst ((xs.take i).filter p))) ⟨same_upd nD, upd_same⟩ (fun i H _ h => hG H h.1) ?_ ?_
  · rintro i x H H' hi ⟨s1, hD⟩ y
    obtain ⟨rfl, hx⟩ := hY i H x H' y
    have em : xs.take (i + 1) = xs.take i ++ [x] := by rw [List.take_add_one, hx]; rfl
    refine hs i x H' _ _ hx s1 (fun hp H2 s2 => ⟨_, s2 _ _ hD, ?_, same_upd' (s1.trans s2) nD, ?_⟩) (fun hp H2 s2 => ⟨s1.trans s2, ?_⟩)
    · have h1 := List.length_filter_le p (xs.take i)
      rw [List.length_take] at h1
      exact line_lt (by omega)
    · rw [upd_same, em, List.filter_append, List.filter_cons, if_pos hp]
      rfl
    · rw [em, List.filter_append, List.filter_cons, if_neg (by rw [hp]; exact Bool.noConfusion), List.filter_nil, List.append_nil]
      exact s2 _ _ hD
  · rintro H ⟨s1, hD⟩
    rw [List.take_length] at hD
    exact hd H s1 hD
end
theorem yAt {xs : List V} : ∀ i H x H', YAt xs i H x H' → H' = H ∧ xs[i]? = some x := fun _ _ _ _ h => h
theorem gName_mono {i : Nat} : ∀ (x : V) (σ : L2.St) (H : Hp) (Q Q' : L2.St → Hp → Prop), (∀ σ' H', Q σ' H' → Q' σ' H') → gName i x σ H Q → gName i x σ H Q' := fun _ _ _ _ _ h q => h _ _ q
theorem cut_from {xs : List V} {k : Nat} : cutV xs (some (k : Int)) none = xs.drop k := by
  unfold cutV
  rw [HT.sIx_nat, HT.sIx_none]
  by_cases h : k ≤ xs.length
  · rw [Nat.min_eq_left h]
    exact List.take_of_length_le (by rw [List.length_drop]; exact Nat.le_refl _)
  · rw [Nat.min_eq_right (by omega), List.drop_eq_nil_of_le (Nat.le_refl _), List.drop_eq_nil_of_le (by omega), List.take_nil]
/-! ### what the top has written -/
abbrev sLetters : Str := ⟨#[97, 98, 99, 100, 101, 102, 103, 104, 105, 106, 107, 108, 109, 110, 111, 112, 113, 114, 115, 116, 117, 118, 119, 120, 121, 122]⟩
abbrev sDigits : Str := ⟨#[48, 49, 50, 51, 52, 53, 54, 55, 56, 57]⟩
/-- an own error's class -/
structure Err (K : PySem.W.Frag) (mg : Str → Option Value) (CF : Addr) : Prop where
  gF : mg "NoNetwork" = some (.ref CF)
  xF : PySem.W.excIn K CF [.type "ValueError", .type "Exception", .type "BaseException", .type "object"] "ValueError.__new__" = true
  kF : PySem.W.keepIn K (.ref CF) = true
  bF : PySem.W.subIn K (.ref CF) (.type "BaseException") = some true
  tF : PySem.W.typeIn K (.ref CF) = some (.type "type")
  eF : PySem.W.exmOne K (.ref CF) (.ref CF) = some true
/-- a number, a text of the module -/
def GInt (mg : Str → Option Value) (x : Str) (i : Int) : Prop := ∃ t, mg x = some (.int i t)
def GStr (mg : Str → Option Value) (x : Str) (z : Str) : Prop := ∃ t, mg x = some (.str z t)
/-- a tuple, a list of the module -/
def GTup (K : PySem.W.Frag) (mg : Str → Option Value) (x : Str) (xs : List V) : Prop := ∃ a, mg x = some (.ref a) ∧ ∀ H, SqT K H a xs
def GLst (K : PySem.W.Frag) (mg : Str → Option Value) (x : Str) (xs : List V) : Prop := ∃ a, mg x = some (.ref a) ∧ ∀ H, SqL K H a xs
/-- a dict of the module with text keys, what's in it -/
def Ents (es : List DictEntry) (l : List (Str × V)) : Prop := Paired (fun (e : DictEntry) (p : Str × V) => (∃ t, e.key = .str p.1 t) ∧ RelV p.2 e.val) es l
def GDict (K : PySem.W.Frag) (w : World) (mg : Str → Option Value) (x : Str) (l : List (Str × V)) : Prop := ∃ (d : Addr) (es : Array DictEntry) (n : Nat), mg x = some (.ref d) ∧ KDict K w d es n ∧ Ents es.toList l
theorem ents_find {z : Str} : ∀ {es : List DictEntry} {l : List (Str × V)}, Ents es l →
    (∀ v, l.lookup z = some v → ∃ e, es.find? (·.key.isStr z) = some e ∧ RelV v e.val) ∧ (l.lookup z = none → es.find? (·.key.isStr z) = none) ∧ es.any (·.refKey) = false
  | _, _, .nil => ⟨(fun v h => by cases h), fun _ => rfl, rfl⟩
  | _, _, .cons (a := e) (b := p) (l₁ := es) (l₂ := l) h t => by
    obtain ⟨⟨tk, hk⟩, hv⟩ := h
    obtain ⟨i1, i2, i3⟩ := ents_find (z := z) t
    obtain ⟨x, v0⟩ := p
    have ek : e.key.isStr z = (x == z) := by rw [hk]; rfl
    have er : e.refKey = false := by unfold DictEntry.refKey; rw [hk]
    have ec : (z == x) = (x == z) := by
      rw [Bool.eq_iff_iff, beq_iff_eq, beq_iff_eq]
      exact eq_comm
    refine ⟨fun v h => ?_, fun h => ?_, by rw [List.any_cons, er, i3]; rfl⟩
    · rw [List.find?_cons, ek]
      rw [List.lookup_cons, ec] at h
      cases c : x == z with
      | true =>
        rw [c] at h
        have e1 : v0 = v := Option.some.inj h
        subst e1
        exact ⟨e, rfl, hv⟩
      | false =>
        rw [c] at h
        exact i1 v h
    · rw [List.find?_cons, ek]
      rw [List.lookup_cons, ec] at h
      cases c : x == z with
      | true => rw [c] at h; cases h
      | false =>
        rw [c] at h
        exact i2 h
theorem gdict_some {K : PySem.W.Frag} {w : World} {d : Addr} {es : Array DictEntry} {n : Nat} {l : List (Str × V)} (D : KDict K w d es n) (E : Ents es.toList l) {z : Str} {v : V} (h : l.lookup z = some v) : ∃ u, PySem.W.nsIn K d z = some (some u) ∧ RelV v u := by
  obtain ⟨e, h1, h2⟩ := (ents_find (z := z) E).1 v h
  refine ⟨e.val, ?_, h2⟩
  unfold PySem.W.nsIn
  rw [D.at_]
  dsimp only
  rw [h1]
theorem gdict_none {K : PySem.W.Frag} {w : World} {d : Addr} {es : Array DictEntry} {n : Nat} {l : List (Str × V)} (D : KDict K w d es n) (E : Ents es.toList l) {z : Str} (h : l.lookup z = none) : PySem.W.nsIn K d z = some none := by
  obtain ⟨_, h1, h2⟩ := ents_find (z := z) E
  unfold PySem.W.nsIn
  rw [D.at_]
  dsimp only
  rw [h1 h, h2]
  rfl
/-- whether a key is there -/
theorem gdict_in {K : PySem.W.Frag} {w : World} {d : Addr} {es : Array DictEntry} {n : Nat} {l : List (Str × V)} (D : KDict K w d es n) (E : Ents es.toList l) (z : Str) : ∃ r, PySem.W.nsIn K d z = some r ∧ r.isSome = (l.lookup z).isSome := by
  cases h : l.lookup z with
  | none => exact ⟨none, gdict_none D E h, rfl⟩
  | some v =>
    obtain ⟨u, h1, _⟩ := gdict_some D E h
    exact ⟨some u, h1, rfl⟩
def sizesL : List (Str × V) := Gn.kinds.map fun k => (S (Gn.kn k), V.int (Gn.ar k : Int))
theorem kn_S {a b : Sf33.Kind} : S (Gn.kn a) = S (Gn.kn b) ↔ a = b := ⟨fun h => Gn.kn_inj (Gn.cd_inj (S_eq.mp h) (Gn.kn_sg b)), fun h => by rw [h]⟩
theorem sizes_none {x : Bytes} (h : Sf33.kindOf x = none) : sizesL.lookup (S x) = none := by
  have g : ∀ ks : List Sf33.Kind, (ks.map fun k => (S (Gn.kn k), V.int (Gn.ar k : Int))).lookup (S x) = none := by
    intro ks
    induction ks with
    | nil => rfl
    | cons k ks ih =>
      have e : (S x == S (Gn.kn k)) = false := beq_eq_false_iff_ne.mpr fun z => Gn.kindOf_none h k (Gn.cd_inj (S_eq.mp z) (Gn.kn_sg k))
      rw [List.map_cons, List.lookup_cons, e]
      exact ih
  exact g _
theorem sizes_some {k : Sf33.Kind} : sizesL.lookup (S (Gn.kn k)) = some (V.int (Gn.ar k : Int)) := by
  have g : ∀ ks : List Sf33.Kind, k ∈ ks → (ks.map fun k => (S (Gn.kn k), V.int (Gn.ar k : Int))).lookup (S (Gn.kn k)) = some (V.int (Gn.ar k : Int)) := by
    intro ks
    induction ks with
    | nil => intro h; cases h
    | cons j ks ih =>
      intro h
      rw [List.map_cons, List.lookup_cons]
      by_cases e : k = j
      · subst e
        rw [show (S (Gn.kn k) == S (Gn.kn k)) = true from beq_self_eq_true _]
      · rw [show (S (Gn.kn k) == S (Gn.kn j)) = false from beq_eq_false_iff_ne.mpr fun z => e (kn_S.mp z)]
        exact ih ((List.mem_cons.mp h).resolve_left e)
  exact g _ (Gn.kinds_all k)
end Gw

/-! # want, sign_of, lines_of, words_of, is_name -/
namespace Gw
open PySem PySem.Spec PyProof.Rows L2
open Sf33 (Bytes)
section
variable {P : Program} {w : World} {K : PySem.W.Frag} {mg : Str → Option Value} {base : Heap}
/-! ### want -/
theorem scWant : FnScope ["truth"] ["truth"] (defScope sWant) := ⟨rfl, rfl, rfl, by decide +kernel, rfl, by decide +kernel, by decide +kernel⟩
def spWant (CF : Addr) : Sp := fun vs H Q E => ∃ b : Bool, vs = [.bl b] ∧ (b = true → Q .non H) ∧ (b = false → E (.ref CF) none H)
theorem ok_want {CF f : Addr} {fd : FuncData} (F : Fun K "want" "want" sWant f fd) (T : Err K mg CF) : FnOk P w K mg base (L2.CX P w) 1 f fd ["truth"] (spWant CF) := by
  refine F.okX scWant (fun vs H Q E h => ?_) (fun cdv A outer s H vs Q E hr h => ⟨_, pss_one (ps_if (pt_not (pt_val (pv 0)))
      (pss_one (ps_raise rfl (takes_of rfl rfl rfl rfl) (pmk_own PySem.F.excBase_ValueError T.xF T.gF T.kF (raises_own T.bF T.tF) (by exact rfl)))) pss_nil), ?_⟩)
  · obtain ⟨b, rfl, _⟩ := h
    rfl
  · obtain ⟨b, rfl, h1, h2⟩ := h
    refine ⟨_, rfl, b, rfl, ?_⟩
    cases b with
    | true => exact iteF (h1 rfl)
    | false => exact iteT (h2 rfl)
/-! ### sign_of -/
theorem scSign : FnScope ["byte"] ["byte"] (defScope sSign) := ⟨rfl, rfl, rfl, by decide +kernel, rfl, by decide +kernel, by decide +kernel⟩
def spSign : Sp := fun vs H Q _ => ∃ c : UInt8, vs = [iv c] ∧ Q (.str ⟨#[Gn.sg c]⟩) H
theorem letters_at : ∀ i : Nat, i < 26 → sLetters.cps.toList[i]? = some (97 + i) := by decide +kernel
theorem digits_at : ∀ i : Nat, i < 10 → sDigits.cps.toList[i]? = some (48 + i) := by decide +kernel
theorem ord_is : ((("=" : Str).cps.getD 0 0 : Nat) : Int) = 61 := by decide +kernel
theorem ok_sign {f : Addr} {fd : FuncData} (F : Fun K "sign_of" "sign_of" sSign f fd) (gL : GStr mg "LETTERS" sLetters) (gD : GStr mg "DIGITS" sDigits) (gU : GInt mg "LOW_LINE" 95) (mO : mg "ord" = none) : FnOk P w K mg base CX0 1 f fd ["byte"] spSign := by
  obtain ⟨tL, gL⟩ := gL
  obtain ⟨tD, gD⟩ := gD
  obtain ⟨tU, gU⟩ := gU
  refine F.ok scSign (fun vs H Q E h => ?_) (fun cdv A outer s H vs Q E hr h => ⟨_,
      pss_cons (ps_if (PW.pt (pw_and (pt_cmpR op_le pe_int (pv 0) (nomark _)) (pw_and1 (pt_cmpR op_le (pv 0) pe_int (nomark _)))))
        (pss_one (ps_ret (pe_ix ix_str (pe_glob (v := .str sLetters) rfl gL ⟨_, rfl⟩) (pe_op op_sub (pv 0) pe_int) (fun _ _ => rfl)))) pss_nil)
      (pss_cons (ps_if (PW.pt (pw_and (pt_cmpR op_le pe_int (pv 0) (nomark _)) (pw_and1 (pt_cmpR op_le (pv 0) pe_int (nomark _)))))
        (pss_one (ps_ret (pe_ix ix_str (pe_glob (v := .str sDigits) rfl gD ⟨_, rfl⟩) (pe_op op_sub (pv 0) pe_int) (fun _ _ => rfl)))) pss_nil)
      (pss_cons (ps_if (pt_cmpR op_eq (pv 0) (pe_glob (v := .int 95) rfl gU ⟨_, rfl⟩) (nomark _)) (pss_one (ps_ret pe_str)) pss_nil)
      (pss_cons (ps_if (pt_cmpR op_eq (pv 0) (pe_callB call_ord (by rfl) mO (by decide +kernel) (pa_cons pe_str pa_nil)) (nomark _)) (pss_one (ps_ret pe_str)) pss_nil)
      (pss_one (ps_ret pe_str))))), ?_⟩)
  · obtain ⟨c, rfl, _⟩ := h
    rfl
  · obtain ⟨c, rfl, q⟩ := h
    have sgd : Gn.sg c = if (97 ≤ c.toNat ∧ c.toNat ≤ 122) ∨ (48 ≤ c.toNat ∧ c.toNat ≤ 57) ∨ c.toNat = 95 ∨ c.toNat = 61 then c.toNat else 63 := rfl
    rcases (by omega : (97 ≤ c.toNat ∧ c.toNat ≤ 122) ∨ (48 ≤ c.toNat ∧ c.toNat ≤ 57) ∨ c.toNat < 48 ∨ (57 < c.toNat ∧ c.toNat < 97) ∨ 122 < c.toNat) with a | a | a | a | a
    · refine ⟨_, rfl, _, _, rfl, rfl, _, rfl, iteT' (decide_eq_true (by omega)) ⟨_, rfl, _, _, rfl, rfl, _, rfl, iteT' (decide_eq_true (by omega)) ?_⟩⟩
      refine ⟨_, rfl, _, _, rfl, rfl, _, (c.toNat : Int) - 97, 97 + (c.toNat - 97), rfl, rfl, line_of (by decide), at_nat (j := c.toNat - 97) (by omega) (letters_at _ (by omega)), ?_⟩
      rw [sgd, if_pos (.inl a)] at q
      rw [show 97 + (c.toNat - 97) = c.toNat by omega]
      exact q
    · refine ⟨_, rfl, _, _, rfl, rfl, _, rfl, iteF' (decide_eq_false (by omega)) (iteF ?_)⟩
      refine ⟨_, rfl, _, _, rfl, rfl, _, rfl, iteT' (decide_eq_true (by omega)) ⟨_, rfl, _, _, rfl, rfl, _, rfl, iteT' (decide_eq_true (by omega)) ?_⟩⟩
      refine ⟨_, rfl, _, _, rfl, rfl, _, (c.toNat : Int) - 48, 48 + (c.toNat - 48), rfl, rfl, line_of (by decide), at_nat (j := c.toNat - 48) (by omega) (digits_at _ (by omega)), ?_⟩
      rw [sgd, if_pos (.inr (.inl a))] at q
      rw [show 48 + (c.toNat - 48) = c.toNat by omega]
      exact q
    · refine ⟨_, rfl, _, _, rfl, rfl, _, rfl, iteF' (decide_eq_false (by omega)) (iteF ?_)⟩
      refine ⟨_, rfl, _, _, rfl, rfl, _, rfl, iteF' (decide_eq_false (by omega)) (iteF ?_)⟩
      refine ⟨_, rfl, rfl, _, rfl, iteF' (decide_eq_false fun z => by have := V.int.inj z; omega) ?_⟩
      refine ⟨_, rfl, _, rfl, rfl, rfl, _, rfl, iteF' (decide_eq_false fun z => by have h1 := V.int.inj z; have h2 := ord_is; omega) ?_⟩
      rw [sgd, if_neg (by omega)] at q
      exact q
    · refine ⟨_, rfl, _, _, rfl, rfl, _, rfl, iteF' (decide_eq_false (by omega)) (iteF ?_)⟩
      refine ⟨_, rfl, _, _, rfl, rfl, _, rfl, iteT' (decide_eq_true (by omega)) ⟨_, rfl, _, _, rfl, rfl, _, rfl, iteF' (decide_eq_false (by omega)) ?_⟩⟩
      by_cases e : c.toNat = 95
      · refine ⟨_, rfl, rfl, _, rfl, iteT' (decide_eq_true (congrArg V.int (by omega))) ?_⟩
        rw [sgd, if_pos (.inr (.inr (.inl e))), e] at q
        exact q
      · refine ⟨_, rfl, rfl, _, rfl, iteF' (decide_eq_false fun z => by have := V.int.inj z; omega) ?_⟩
        have h2 : ((("=" : Str).cps.getD 0 0 : Nat) : Int) = 61 := by decide +kernel
        by_cases e2 : c.toNat = 61
        · refine ⟨_, rfl, _, rfl, rfl, rfl, _, rfl, iteT' (decide_eq_true (congrArg V.int (by omega))) ?_⟩
          rw [sgd, if_pos (.inr (.inr (.inr e2))), e2] at q
          exact q
        · refine ⟨_, rfl, _, rfl, rfl, rfl, _, rfl, iteF' (decide_eq_false fun z => by have h1 := V.int.inj z; omega) ?_⟩
          rw [sgd, if_neg (by omega)] at q
          exact q
    · refine ⟨_, rfl, _, _, rfl, rfl, _, rfl, iteT' (decide_eq_true (by omega)) ⟨_, rfl, _, _, rfl, rfl, _, rfl, iteF' (decide_eq_false (by omega)) ?_⟩⟩
      refine ⟨_, rfl, _, _, rfl, rfl, _, rfl, iteT' (decide_eq_true (by omega)) ⟨_, rfl, _, _, rfl, rfl, _, rfl, iteF' (decide_eq_false (by omega)) ?_⟩⟩
      refine ⟨_, rfl, rfl, _, rfl, iteF' (decide_eq_false fun z => by have := V.int.inj z; omega) ?_⟩
      refine ⟨_, rfl, _, rfl, rfl, rfl, _, rfl, iteF' (decide_eq_false fun z => by have h1 := V.int.inj z; have h2 := ord_is; omega) ?_⟩
      rw [sgd, if_neg (by omega)] at q
      exact q
/-! ### lines_of -/
abbrev LL (H : Hp) (rs : List Addr) (ls : List Bytes) : Prop := Paired (fun r l => H r = some (.lst (l.map iv))) rs ls
theorem LL.keep {H H' : Hp} : ∀ {rs : List Addr} {ls : List Bytes}, LL H rs ls → (∀ r ∈ rs, ∀ o, H r = some o → H' r = some o) → LL H' rs ls
  | _, _, .nil, _ => .nil
  | _, _, .cons h t, k => .cons (k _ (List.mem_cons_self ..) _ h) (LL.keep t fun r hr => k r (List.mem_cons_of_mem _ hr))
theorem LL.same {H H' : Hp} {rs : List Addr} {ls : List Bytes} (l : LL H rs ls) (s : Same H H') : LL H' rs ls := l.keep fun r _ o h => s r o h
theorem paired_snoc {al be : Type} {F : al → be → Prop} {x : al} {y : be} : ∀ {l : List al} {m : List be}, Paired F l m → F x y → Paired F (l ++ [x]) (m ++ [y])
  | _, _, .nil, h => .cons h .nil
  | _, _, .cons h t, k => .cons h (paired_snoc t k)
theorem paired_at {al be : Type} {F : al → be → Prop} : ∀ {l : List al} {m : List be} {i : Nat} {x : al}, Paired F l m → l[i]? = some x → ∃ y, m[i]? = some y ∧ F x y
  | _, _, i, x, .nil, h => by simp at h
  | _, _, 0, x, .cons h t, e => by
    have e : _ = x := Option.some.inj e
    subst e
    exact ⟨_, rfl, h⟩
  | _, _, i + 1, x, .cons h t, e => paired_at t (i := i) (x := x) e
theorem paired_mem {al be : Type} {F : al → be → Prop} {l : List al} {m : List be} {x : al} (p : Paired F l m) (h : x ∈ l) : ∃ y ∈ m, F x y := by
  obtain ⟨i, hi⟩ := List.mem_iff_getElem?.mp h
  obtain ⟨y, h1, h2⟩ := paired_at p hi
  exact ⟨y, List.mem_of_getElem? h1, h2⟩
theorem ne_mem {x y : Addr} {l : List Addr} (hx : x ∈ l) (hy : y ∉ l) : x ≠ y := fun z => hy (by rw [← z]; exact hx)
theorem take_more {al : Type} {l : List al} {i : Nat} {x : al} (h : l[i]? = some x) : l.take (i + 1) = l.take i ++ [x] := by
  rw [List.take_add_one, h]
  rfl
theorem map_at {al be : Type} {f : al → be} {l : List al} {i : Nat} {y : be} (h : (l.map f)[i]? = some y) : ∃ x, l[i]? = some x ∧ y = f x := by
  rw [List.getElem?_map] at h
  cases e : l[i]? with
  | none => rw [e] at h; cases h
  | some x => rw [e] at h; exact ⟨x, rfl, (Option.some.inj h).symm⟩
theorem lrun_more {b : Bytes} {i : Nat} {c : UInt8} (h : b[i]? = some c) : Gn.lrun (b.take (i + 1)) = Gn.lstep (Gn.lrun (b.take i)) c := by
  unfold Gn.lrun
  rw [take_more h, List.foldl_append]
  rfl
theorem lrun_le : ∀ (b : Bytes) (s : List Bytes × Bytes × Bool), (b.foldl Gn.lstep s).1.length + (b.foldl Gn.lstep s).2.1.length ≤ s.1.length + s.2.1.length + b.length
  | [], s => Nat.le_refl _
  | c :: r, s => by
    rw [List.foldl_cons, List.length_cons]
    have ih := lrun_le r (Gn.lstep s c)
    have h : (Gn.lstep s c).1.length + (Gn.lstep s c).2.1.length ≤ s.1.length + s.2.1.length + 1 := by
      unfold Gn.lstep
      split
      · simp only [List.length_append, List.length_cons, List.length_nil]; omega
      · split
        · show s.1.length + s.2.1.length ≤ _; omega
        · simp only [List.length_append, List.length_cons, List.length_nil]; omega
    omega
theorem lrun_le' (b : Bytes) (i : Nat) (hb : b.length ≤ 65536) : (Gn.lrun (b.take i)).1.length + (Gn.lrun (b.take i)).2.1.length ≤ 65536 := by
  have h := lrun_le (b.take i) ([], [], false)
  have h2 := List.length_take_le i b
  simp only [List.length_nil] at h
  unfold Gn.lrun
  have h3 : (b.take i).length ≤ b.length := by rw [List.length_take]; omega
  omega
theorem scLines : FnScope ["text", "found", "is_remark", "byte"] ["text"] (defScope sLines) := ⟨rfl, rfl, rfl, by decide +kernel, rfl, by decide +kernel, by decide +kernel⟩
def spLines (K : PySem.W.Frag) : Sp := fun vs H Q _ => ∃ (a : Addr) (b : Bytes), vs = [.ref a] ∧ SqL K H a (b.map iv) ∧ b.length ≤ 65536 ∧
  ∀ (H' : Hp) (p : Addr) (rs : List Addr), Same H H' → H' p = some (.lst (rs.map V.ref)) → LL H' rs (Gn.rows b) → p ∉ rs → H p = none → (∀ x ∈ rs, H x = none) → Q (.ref p) H'
theorem ok_lines {f : Addr} {fd : FuncData} (F : Fun K "lines_of" "lines_of" sLines f fd) (gE : GInt mg "LINE_END" 10) (gR : GInt mg "REMARK" 35) : FnOk P w K mg base CX0 1 f fd ["text"] (spLines K) := by
  obtain ⟨tE, gE⟩ := gE
  obtain ⟨tR, gR⟩ := gR
  refine F.ok scLines (fun vs H Q E h => ?_) (fun cdv A outer s H vs Q E hr h => ⟨_,
      pss_cons (ps_set (i := 1) scLines.nd rfl (.inl rfl) (pe_lst (pa_cons (pe_lst pa_nil) pa_nil)))
      (pss_cons (ps_set (i := 2) scLines.nd rfl (.inl rfl) pe_bl)
      (pss_cons (ps_for PassesOwn.never rfl (pi_list (pv 0)) (pg_name (i := 3) scLines.nd rfl (.inl rfl))
        (pss_one (ps_if (pt_cmpR op_eq (pv 3) (pe_glob (v := .int 10) rfl gE ⟨_, rfl⟩) (nomark _))
          (pss_cons (ps_expr (pe_bm PySem.F.plainAttrs_list PySem.F.slot_list_append PySem.F.type_list_append mt_append (pv 1) (pa_cons (pe_lst pa_nil) pa_nil)))
            (pss_one (ps_set (i := 2) scLines.nd rfl (.inl rfl) pe_bl)))
          (pss_one (ps_if (PW.pt (pw_or (pt_cmpR op_eq (pv 3) (pe_glob (v := .int 35) rfl gR ⟨_, rfl⟩) (nomark _)) (pw_or1 (pt_val (pv 2)))))
            (pss_one (ps_set (i := 2) scLines.nd rfl (.inl rfl) pe_bl))
            (pss_one (ps_expr (pe_bm PySem.F.plainAttrs_list PySem.F.slot_list_append PySem.F.type_list_append mt_append (pe_ix ix_list (pv 1) (pe_un un_neg pe_int) (fun _ _ => rfl)) (pa_cons (pv 3) pa_nil)))))))))
      (pss_one (ps_ret (pv 1))))), ?_⟩)
  · obtain ⟨a, b, rfl, _⟩ := h
    rfl
  · obtain ⟨a, b, rfl, hS, hb, q⟩ := h
    -- found = [[]]
    refine ⟨Nat.zero_le _, fun r0 nr0 => ⟨(by show 1 ≤ sizeLine; exact line_of (by decide)), fun fo nfo => ?_⟩⟩
    have s0 : Same H (upd (upd H r0 (.lst [])) fo (.lst [.ref r0])) := (same_upd nr0).trans (same_upd nfo)
    have nfo' : H fo = none := Same.none (same_upd nr0) nfo
    have ne0 : fo ≠ r0 := fun z => by rw [z, upd_same] at nfo; cases nfo
    refine ⟨_, rfl, a, rfl, ⟨_, s0.seq hS⟩, for_list (K := K) (a := a) (xs := b.map iv) (fun i σ H' => ∃ (rs : List Addr) (r : Addr) (v : Option V),
        σ = [some (.ref a), some (.ref fo), some (.bl (Gn.lrun (b.take i)).2.2), v] ∧ Same H H' ∧ H' fo = some (.lst ((rs ++ [r]).map V.ref)) ∧ LL H' rs (Gn.lrun (b.take i)).1 ∧
        H' r = some (.lst ((Gn.lrun (b.take i)).2.1.map iv)) ∧ H r = none ∧ r ∉ rs ∧ fo ≠ r ∧ fo ∉ rs ∧ ∀ x ∈ rs, H x = none) ?_ ?_ ?_ ?_⟩
    · exact ⟨[], r0, none, rfl, s0, upd_same, .nil, (by rw [upd_ne ne0.symm, upd_same]; rfl), nr0, by simp, ne0, by simp, by simp⟩
    · rintro i σ H' _ ⟨rs, r, v, _, s1, _⟩
      exact s1.seq hS
    · rintro i x σ H' hx ⟨rs, r, v, rfl, s1, hfo, hll, hr', nr, nrs, ner, nfrs, nz⟩
      obtain ⟨c, hc, rfl⟩ := map_at hx
      have hm := lrun_more hc
      have hle := lrun_le' b i hb
      have hrl : rs.length = (Gn.lrun (b.take i)).1.length := hll.length
      generalize Gn.lrun (b.take i) = st at *
      rw [hm]
      by_cases h10 : c = 10
      · have e : Gn.lstep st c = (st.1 ++ [st.2.1], [], false) := if_pos h10
        rw [e]
        refine ⟨_, rfl, rfl, _, rfl, iteT' (decide_eq_true (by rw [h10]; rfl)) ?_⟩
        refine ⟨_, rfl, .inl ⟨rfl, _, SqL.of hfo⟩, Nat.zero_le _, fun q0 nq => ⟨fo, (rs ++ [r]).map V.ref, .ref q0, rfl, rfl, ?_, ?_, ?_⟩⟩
        · rw [upd_ne (ne_of_none hfo nq)]; exact hfo
        · rw [List.length_map, List.length_append, List.length_singleton]; exact line_lt (by omega)
        · have nf : fo ≠ q0 := ne_of_none hfo nq
          have nrq : r ≠ q0 := ne_of_none hr' nq
          refine ⟨rs ++ [r], q0, some (iv c), rfl, ?_, ?_, ?_, ?_, s1.free nq, ?_, nf, ?_, fun x hx => (List.mem_append.mp hx).elim (nz x) fun hx => by rw [List.mem_singleton.mp hx]; exact nr⟩
          · exact fun b' o h => by
              have h1 := s1 _ _ h
              rw [upd_ne (ne_of_none h nfo'), upd_ne (ne_of_none h1 nq)]
              exact h1
          · rw [upd_same, List.map_append, List.map_append, List.map_append]
            rfl
          · refine paired_snoc (hll.keep fun x hx o ho => ?_) ?_
            · rw [upd_ne (ne_mem hx nfrs), upd_ne (ne_of_none ho nq)]
              exact ho
            · rw [upd_ne ner.symm, upd_ne nrq]
              exact hr'
          · rw [upd_ne nf.symm, upd_same]
            rfl
          · intro z
            rcases List.mem_append.mp z with z | z
            · obtain ⟨y, _, hy⟩ := paired_mem hll z
              rw [nq] at hy; cases hy
            · exact nrq (List.mem_singleton.mp z).symm
          · intro z
            rcases List.mem_append.mp z with z | z
            · exact nfrs z
            · exact ner (List.mem_singleton.mp z)
      · have hz : ¬ iv c = V.int 10 := fun z => h10 (Gn.u8_ext (by have := V.int.inj z; have h2 : (10 : UInt8).toNat = 10 := rfl; omega))
        refine ⟨_, rfl, rfl, _, rfl, iteF' (decide_eq_false hz) ?_⟩
        by_cases hr35 : c = 35 ∨ st.2.2 = true
        · have e : Gn.lstep st c = (st.1, st.2.1, true) := (if_neg h10).trans (if_pos hr35)
          rw [e]
          by_cases h35 : c = 35
          · refine ⟨_, rfl, rfl, _, rfl, iteT' (decide_eq_true (by rw [h35]; rfl)) (iteT ?_)⟩
            exact ⟨rs, r, some (iv c), rfl, s1, hfo, hll, hr', nr, nrs, ner, nfrs, nz⟩
          · have hz2 : ¬ iv c = V.int 35 := fun z => h35 (Gn.u8_ext (by have := V.int.inj z; have h2 : (35 : UInt8).toNat = 35 := rfl; omega))
            refine ⟨_, rfl, rfl, _, rfl, iteF' (decide_eq_false hz2) ⟨_, rfl, _, rfl, iteT' (hr35.resolve_left h35) ?_⟩⟩
            exact ⟨rs, r, some (iv c), rfl, s1, hfo, hll, hr', nr, nrs, ner, nfrs, nz⟩
        · have e : Gn.lstep st c = (st.1, st.2.1 ++ [c], st.2.2) := (if_neg h10).trans (if_neg hr35)
          rw [e]
          have hz2 : ¬ iv c = V.int 35 := fun z => hr35 (.inl (Gn.u8_ext (by have := V.int.inj z; have h2 : (35 : UInt8).toNat = 35 := rfl; omega)))
          have hz3 : st.2.2 = false := by
            cases k : st.2.2 with
            | false => rfl
            | true => exact absurd (.inr k) hr35
          refine ⟨_, rfl, rfl, _, rfl, iteF' (decide_eq_false hz2) ⟨_, rfl, _, rfl, iteF' hz3 ?_⟩⟩
          refine ⟨_, rfl, 1, rfl, fo, _, -1, .ref r, rfl, rfl, SqL.of hfo, (by rw [List.map_append]; exact atI_last _ _), .inl ⟨rfl, _, SqL.of hr'⟩, _, rfl, r, _, _, rfl, rfl, hr', ?_, ?_⟩
          · rw [List.length_map]; exact line_lt (by omega)
          · refine ⟨rs, r, some (iv c), rfl, ?_, ?_, ?_, ?_, nr, nrs, ner, nfrs, nz⟩
            · exact same_upd' s1 nr
            · rw [upd_ne ner]; exact hfo
            · exact hll.keep fun x hx o ho => by
                rw [upd_ne (ne_mem hx nrs)]
                exact ho
            · rw [upd_same, List.map_append]
              rfl
    · rintro σ H' ⟨rs, r, v, rfl, s1, hfo, hll, hr', nr, nrs, ner, nfrs, nz⟩
      rw [List.length_map, List.take_length] at *
      refine ⟨_, rfl, q _ _ (rs ++ [r]) s1 hfo ?_ ?_ nfo' fun x hx => (List.mem_append.mp hx).elim (nz x) fun hx => by rw [List.mem_singleton.mp hx]; exact nr⟩
      · rw [← Gn.lrun_rows]
        exact paired_snoc hll hr'
      · intro z
        rcases List.mem_append.mp z with z | z
        · exact nfrs z
        · exact ner (List.mem_singleton.mp z)
/-! ### words_of -/
theorem wrun_more {b : Bytes} {i : Nat} {c : UInt8} (h : b[i]? = some c) : (b.take (i + 1)).foldl Gn.wstep ([], []) = Gn.wstep ((b.take i).foldl Gn.wstep ([], [])) c := by
  rw [take_more h, List.foldl_append]
  rfl
theorem wrun_le : ∀ (b : Bytes) (s : List Bytes × Bytes), (b.foldl Gn.wstep s).1.length + (b.foldl Gn.wstep s).2.length ≤ s.1.length + s.2.length + b.length
  | [], s => Nat.le_refl _
  | c :: r, s => by
    rw [List.foldl_cons, List.length_cons]
    have ih := wrun_le r (Gn.wstep s c)
    have h : (Gn.wstep s c).1.length + (Gn.wstep s c).2.length ≤ s.1.length + s.2.length + 1 := by
      unfold Gn.wstep
      split
      · simp only [List.length_append, List.length_cons, List.length_nil]; omega
      · split
        · omega
        · simp only [List.length_append, List.length_cons, List.length_nil]; omega
    omega
theorem wrun_le' (b : Bytes) (i : Nat) : ((b.take i).foldl Gn.wstep ([], [])).1.length + ((b.take i).foldl Gn.wstep ([], [])).2.length ≤ b.length := by
  have h := wrun_le (b.take i) ([], [])
  simp only [List.length_nil] at h
  have h3 : (b.take i).length ≤ b.length := by rw [List.length_take]; omega
  omega
theorem inV_blank (c : UInt8) : inV (iv c) [.int 32, .int 9] = Sf33.blank c := by
  unfold inV Sf33.blank
  rw [Bool.eq_iff_iff]
  simp only [List.any_cons, List.any_nil, Bool.or_false, Bool.or_eq_true, beq_iff_eq]
  show (((32 : Int) == (c.toNat : Int)) = true ∨ ((9 : Int) == (c.toNat : Int)) = true) ↔ _
  rw [beq_iff_eq, beq_iff_eq]
  constructor
  · rintro (h | h)
    · exact .inl (Gn.u8_ext (by have h2 : (32 : UInt8).toNat = 32 := rfl; omega))
    · exact .inr (Gn.u8_ext (by have h2 : (9 : UInt8).toNat = 9 := rfl; omega))
  · rintro (h | h)
    · subst h; exact .inl rfl
    · subst h; exact .inr rfl
theorem scWords : FnScope ["line", "found", "word", "byte"] ["line"] (defScope sWords) := ⟨rfl, rfl, rfl, by decide +kernel, rfl, by decide +kernel, by decide +kernel⟩
def spWords : Sp := fun vs H Q _ => ∃ (r : Addr) (l : Bytes), vs = [.ref r] ∧ H r = some (.lst (l.map iv)) ∧ l.length ≤ 65536 ∧
  ∀ (H' : Hp) (p : Addr), Same H H' → H p = none → H' p = some (.lst ((Gn.words l).map sv)) → Q (.ref p) H'
theorem sv_ne {x : Bytes} : V.str (S x) = V.str ("" : Str) ↔ x = [] := by
  constructor
  · intro h
    have h1 := V.str.inj h
    rw [S_empty, S_eq] at h1
    exact Gn.cd_nil.mp h1
  · intro h
    rw [h, S_empty]
theorem ok_words {f fS : Addr} {fd fdS : FuncData} (F : Fun K "words_of" "words_of" sWords f fd) (gB : GTup K mg "BLANKS" [.int 32, .int 9])
    (GS : FnOk P w K mg base CX0 1 fS fdS ["byte"] spSign) (gS : mg "sign_of" = some (.ref fS)) (kS : PySem.W.keepIn K (.ref fS) = true) (bS : Binds K fdS ["byte"] []) : FnOk P w K mg base CX0 2 f fd ["line"] spWords := by
  obtain ⟨aB, gB, sB⟩ := gB
  refine F.ok scWords (fun vs H Q E h => ?_) (fun cdv A outer s H vs Q E hr h => ⟨_,
      pss_cons (ps_set (i := 1) scWords.nd rfl (.inl rfl) (pe_lst pa_nil))
      (pss_cons (ps_set (i := 2) scWords.nd rfl (.inl rfl) pe_str)
      (pss_cons (ps_for PassesOwn.never rfl (pi_list (pe_op op_cat (pv 0) (pe_lst (pa_cons (pe_ix ix_tup (pe_glob (v := .ref aB) rfl gB rfl) pe_int (fun _ _ => rfl)) pa_nil)))) (pg_name (i := 3) scWords.nd rfl (.inl rfl))
        (pss_one (ps_if (pt_cmpR op_notIn_seq (pv 3) (pe_glob (v := .ref aB) rfl gB rfl) (by rfl))
          (pss_one (ps_set (i := 2) scWords.nd rfl (.inl rfl) (pe_op op_add_str (pv 2) (pe_call GS hr (by rfl) gS kS bS .nil pass0 (pa_cons (pv 3) pa_nil)))))
          (pss_one (ps_if (pt_cmpR op_ne (pv 2) pe_str (nomark _))
            (pss_cons (ps_expr (pe_bm PySem.F.plainAttrs_list PySem.F.slot_list_append PySem.F.type_list_append mt_append (pv 1) (pa_cons (pv 2) pa_nil)))
              (pss_one (ps_set (i := 2) scWords.nd rfl (.inl rfl) pe_str))) pss_nil)))))
      (pss_one (ps_ret (pv 1))))), ?_⟩)
  · obtain ⟨r, l, rfl, _⟩ := h
    rfl
  · obtain ⟨r, l, rfl, hL, hl, q⟩ := h
    refine ⟨Nat.zero_le _, fun fo nfo => ?_⟩
    refine ⟨_, rfl, aB, _, 0, .int 32, rfl, rfl, sB _, at_nat (j := 0) rfl rfl, (by show 1 ≤ sizeLine; exact line_of (by decide)), fun q0 nq => ?_⟩
    have nrq : r ≠ fo := ne_of_none hL nfo
    have nfq : fo ≠ q0 := fun z => by rw [← z, upd_same] at nq; cases nq
    have nrq0 : r ≠ q0 := fun z => by rw [← z, upd_ne nrq, hL] at nq; cases nq
    refine ⟨r, q0, l.map iv, [.int 32], rfl, rfl, (by rw [upd_ne nrq0, upd_ne nrq]; exact hL), upd_same, ?_, fun t nt => ?_⟩
    · rw [List.length_map]; exact line_of (by show l.length + 1 ≤ _; omega)
    · have em : l.map iv ++ [V.int 32] = (l ++ [32]).map iv := by rw [List.map_append]; rfl
      rw [em]
      have ntf : fo ≠ t := fun z => by rw [← z, upd_ne nfq, upd_same] at nt; cases nt
      have s3 : Same H (upd (upd (upd H fo (.lst [])) q0 (.lst [.int 32])) t (.lst ((l ++ [32]).map iv))) := ((same_upd nfo).trans (same_upd nq)).trans (same_upd nt)
      refine ⟨t, rfl, ⟨_, SqL.of upd_same⟩, for_list (K := K) (a := t) (xs := (l ++ [32]).map iv) (fun i σ H' => ∃ v : Option V,
        σ = [some (.ref r), some (.ref fo), some (sv (((l ++ [32]).take i).foldl Gn.wstep ([], [])).2), v] ∧ Same H H' ∧ H' t = some (.lst ((l ++ [32]).map iv)) ∧
        H' fo = some (.lst ((((l ++ [32]).take i).foldl Gn.wstep ([], [])).1.map sv))) ?_ ?_ ?_ ?_⟩
      · exact ⟨none, (by show [some (V.ref r), some (V.ref fo), some (V.str ("" : Str)), none] = _; rw [S_empty]; rfl), s3, upd_same, (by rw [upd_ne ntf, upd_ne nfq, upd_same]; rfl)⟩
      · rintro i σ H' _ ⟨v, _, _, h, _⟩
        exact SqL.of h
      · rintro i x σ H' hx ⟨v, rfl, s1, ht, hfo⟩
        obtain ⟨c, hc, rfl⟩ := map_at hx
        have hm := wrun_more hc
        have hle := wrun_le' (l ++ [32]) i
        have hll : (l ++ [32]).length = l.length + 1 := by rw [List.length_append]; rfl
        generalize ((l ++ [32]).take i).foldl Gn.wstep ([], []) = st at *
        rw [hm]
        refine ⟨_, rfl, aB, _, rfl, .inr (sB _), rfl, rfl, _, rfl, ?_⟩
        rw [inV_blank]
        cases hb : Sf33.blank c with
        | false =>
          refine iteT ⟨_, rfl, _, rfl, c, rfl, _, _, rfl, rfl, ?_, ?_⟩
          · rw [S_length]
            exact line_of (by show st.2.length + 1 ≤ _; omega)
          · have e : Gn.wstep st c = (st.1, st.2 ++ [c]) := if_pos hb
            rw [e]
            refine ⟨some (iv c), ?_, s1, ht, hfo⟩
            rw [← S_one, S_append]
            rfl
        | true =>
          refine iteF ⟨_, rfl, rfl, _, rfl, ?_⟩
          by_cases hw : st.2 = []
          · have e : Gn.wstep st c = st := (if_neg (by rw [hb]; exact Bool.noConfusion)).trans (if_pos hw)
            rw [e]
            exact iteF' (by show (!decide (V.str (S st.2) = V.str ("" : Str))) = false; rw [decide_eq_true (sv_ne.mpr hw)]; rfl) ⟨some (iv c), rfl, s1, ht, hfo⟩
          · have e : Gn.wstep st c = (st.1 ++ [st.2], []) := (if_neg (by rw [hb]; exact Bool.noConfusion)).trans (if_neg hw)
            rw [e]
            refine iteT' (by show (!decide (V.str (S st.2) = V.str ("" : Str))) = true; rw [decide_eq_false (fun z => hw (sv_ne.mp z))]; rfl) ⟨_, rfl, .inl ⟨rfl, _, SqL.of hfo⟩, _, rfl, fo, _, _, rfl, rfl, hfo, ?_, ?_⟩
            · rw [List.length_map]
              exact line_lt (by omega)
            · refine ⟨some (iv c), (by show [some (V.ref r), some (V.ref fo), some (V.str ("" : Str)), _] = _; rw [S_empty]; rfl), same_upd' s1 nfo, ?_, ?_⟩
              · rw [upd_ne ntf.symm]
                exact ht
              · rw [upd_same, List.map_append]
                rfl
      · rintro σ H' ⟨v, rfl, s1, ht, hfo⟩
        rw [List.length_map, List.take_length] at hfo
        refine ⟨_, rfl, q _ _ s1 nfo ?_⟩
        rw [hfo, ← Gn.wrun_words]
        rfl
/-! ### is_name -/
theorem scIsName : FnScope ["word", "sign"] ["word"] (defScope sIsName) := ⟨rfl, rfl, rfl, by decide +kernel, rfl, by decide +kernel, by decide +kernel⟩
def spIsName : Sp := fun vs H Q _ => ∃ w : Bytes, vs = [sv w] ∧ w ≠ [] ∧ w.length ≤ 65536 ∧ ∀ H', Same H H' → Q (.bl (Sf33.isName w)) H'
def okS (c : UInt8) : Bool := decide (Gn.sg c ≠ 61) && decide (Gn.sg c ≠ 63)
theorem inV_ends (w : Bytes) : inV (sv w) [.str (S (Sf33.txt "in")), .str (S (Sf33.txt "out"))] = !decide (w ≠ Sf33.txt "in" ∧ w ≠ Sf33.txt "out") := by
  unfold inV
  rw [Bool.eq_iff_iff]
  simp only [List.any_cons, List.any_nil, Bool.or_false, Bool.or_eq_true, Bool.not_eq_true', decide_eq_false_iff_not]
  show ((S (Sf33.txt "in") == S w) = true ∨ (S (Sf33.txt "out") == S w) = true) ↔ _
  rw [beq_iff_eq, beq_iff_eq]
  have h1 : S (Sf33.txt "in") = S w ↔ w = Sf33.txt "in" := ⟨fun h => Gn.cd_inj (S_eq.mp h.symm) (by decide +kernel), fun h => by rw [h]⟩
  have h2 : S (Sf33.txt "out") = S w ↔ w = Sf33.txt "out" := ⟨fun h => Gn.cd_inj (S_eq.mp h.symm) (by decide +kernel), fun h => by rw [h]⟩
  rw [h1, h2]
  constructor
  · rintro (h | h) ⟨k1, k2⟩
    · exact k1 h
    · exact k2 h
  · intro h
    by_cases k : w = Sf33.txt "in"
    · exact .inl k
    · exact .inr (Classical.byContradiction fun k2 => h ⟨k, k2⟩)
theorem letters_mem (n : Nat) : n ∈ sLetters.cps.toList ↔ 97 ≤ n ∧ n ≤ 122 := by
  constructor
  · intro h
    have : ∀ x ∈ sLetters.cps.toList, 97 ≤ x ∧ x ≤ 122 := by decide +kernel
    exact this n h
  · intro h
    have := letters_at (n - 97) (by omega)
    rw [show 97 + (n - 97) = n by omega] at this
    exact List.mem_of_getElem? this
theorem marks_mem (n : Nat) : n ∈ ("=?" : Str).cps.toList ↔ n = 61 ∨ n = 63 := by
  have e : ("=?" : Str).cps.toList = [61, 63] := by decide +kernel
  rw [e]
  simp
theorem ok_isName {f : Addr} {fd : FuncData} (F : Fun K "is_name" "is_name" sIsName f fd) (gL : GStr mg "LETTERS" sLetters) (gM : GInt mg "LONGEST_NAME" 15) (gI : GStr mg "INPUTS" (S (Sf33.txt "in"))) (gO : GStr mg "OUTPUTS" (S (Sf33.txt "out")))
    (mL : mg "len" = none) (mA : mg "all" = none) : FnOk P w K mg base CX0 1 f fd ["word"] spIsName := by
  obtain ⟨tL, gL⟩ := gL
  obtain ⟨tM, gM⟩ := gM
  obtain ⟨tI, gI⟩ := gI
  obtain ⟨tO, gO⟩ := gO
  refine F.ok scIsName (fun vs H Q E h => ?_) (fun cdv A outer s H vs Q E hr h => ⟨_,
      pss_cons (ps_if (PW.pt (pw_or (pt_cmpR op_gt (pe_callB call_len_str (by rfl) mL PySem.boot_len (pa_cons (pv 0) pa_nil)) (pe_glob (v := .int 15) rfl gM ⟨_, rfl⟩) (nomark _))
          (pw_or (pt_cmpR op_notIn_sign (pe_ix ix_str (pv 0) pe_int (fun _ _ => rfl)) (pe_glob (v := .str sLetters) rfl gL ⟨_, rfl⟩) (by rfl))
          (pw_or1 (pt_cmpR op_in_seq (pv 0) (pe_tup (pa_cons (pe_glob (v := .str (S (Sf33.txt "in"))) rfl gI ⟨_, rfl⟩) (pa_cons (pe_glob (v := .str (S (Sf33.txt "out"))) rfl gO ⟨_, rfl⟩) pa_nil))) (by rfl))))))
        (pss_one (ps_ret pe_bl)) pss_nil)
      (pss_one (ps_ret (pe_callB (cr_all rfl) (by rfl) mA (by decide +kernel) (pa_cons
        (pe_lc (own := [("sign", 1)]) (g := gName 1) (tt := tYes) rfl scIsName.nd (pi_str (pv 0)) (blkOk_by (N := ["word", "sign"]) (sc := defScope sIsName) (by decide +kernel)) (fun _ _ _ _ _ => pg_name (i := 1) scIsName.nd rfl (Or.inl rfl)) (fun _ _ _ _ _ => pts_nil)
          (fun _ _ _ _ _ => pe_cmpR op_notIn_sign (pv 1) pe_str (by rfl))) pa_nil)))), ?_⟩)
  · obtain ⟨w, rfl, _⟩ := h
    rfl
  · obtain ⟨w, rfl, hne, hlen, q⟩ := h
    obtain ⟨c, r, rfl⟩ : ∃ c r, w = c :: r := by
      cases w with
      | nil => exact absurd rfl hne
      | cons c r => exact ⟨c, r, rfl⟩
    rw [Gn.isName_cons] at q
    have hz : (S (c :: r)).length ≤ sizeLine := by rw [S_length]; exact line_of (by omega)
    refine ⟨_, rfl, _, rfl, hz, _, _, rfl, rfl, _, rfl, ?_⟩
    by_cases h1 : (c :: r).length ≤ 15
    · refine iteF' (decide_eq_false (by rw [S_length]; omega)) ?_
      refine ⟨_, rfl, _, 0, Gn.sg c, rfl, rfl, hz, at_nat (j := 0) rfl rfl, _, _, rfl, rfl, _, rfl, ?_⟩
      by_cases h2 : 97 ≤ Gn.sg c ∧ Gn.sg c ≤ 122
      · refine iteF' (by rw [decide_eq_true ((letters_mem _).mpr h2)]; rfl) ?_
        refine ⟨_, rfl, (by show 2 ≤ sizeLine; exact line_of (by decide)), fun t nt => ⟨t, _, rfl, .inr (SqT.of upd_same), rfl, rfl, _, rfl, ?_⟩⟩
        have s1 : Same H (upd H t (.tup [.str (S (Sf33.txt "in")), .str (S (Sf33.txt "out"))])) := same_upd nt
        rw [inV_ends]
        by_cases h3 : c :: r ≠ Sf33.txt "in" ∧ c :: r ≠ Sf33.txt "out"
        · refine iteF' (by rw [decide_eq_true h3]; rfl) ?_
          rw [decide_eq_true h1, decide_eq_true h2, decide_eq_true h3, Bool.true_and, Bool.true_and, Bool.true_and] at q
          refine ⟨_, rfl, _, rfl, fun D nD => ?_⟩
          refine lc_it walk_str (fun i H' => Same H H' ∧ H' D = some (.lst ((((c :: r).take i).map okS).map V.bl))) ⟨s1.trans (same_upd nD), upd_same⟩ (fun _ _ _ _ => trivial) ?_ ?_
          · rintro i x H1 H2 hi ⟨s2, hD⟩ ⟨rfl, k, hk, rfl⟩
            have hk2 : (Gn.cd (c :: r))[i]? = some k := by
              have e : (S (c :: r)).cps[i]? = (Gn.cd (c :: r))[i]? := by
                unfold S
                exact List.getElem?_toArray
              rw [← e]; exact hk
            obtain ⟨d, hd, rfl⟩ := map_at hk2
            refine ⟨rfl, yesT ⟨_, rfl, Gn.sg d, _, rfl, rfl, _, hD, ?_, same_upd' s2 (s1.free nD), ?_⟩⟩
            · rw [List.length_map, List.length_map, List.length_take]
              exact line_lt (by omega)
            · rw [upd_same, take_more hd, List.map_append, List.map_append]
              have e : (!decide (Gn.sg d ∈ ("=?" : Str).cps.toList)) = okS d := by
                unfold okS
                rw [Bool.eq_iff_iff]
                simp only [Bool.not_eq_true', decide_eq_false_iff_not, Bool.and_eq_true, decide_eq_true_eq]
                rw [marks_mem]
                omega
              rw [e]
              rfl
          · rintro H1 ⟨s2, hD⟩
            refine ⟨D, ((c :: r).map okS), rfl, SqL.of ?_, ?_⟩
            · rw [hD, List.take_of_length_le (by
                show (c :: r).length ≤ (S (c :: r)).length
                rw [S_length]
                exact Nat.le_refl _)]
            · have e : ((c :: r).map okS).all id = (c :: r).all fun x => decide (Gn.sg x ≠ 61) && decide (Gn.sg x ≠ 63) := by
                rw [List.all_map]
                rfl
              rw [e]
              exact q H1 s2
        · refine iteT' (by rw [decide_eq_false h3]; rfl) ?_
          rw [decide_eq_false h3, Bool.false_and, Bool.and_false, Bool.and_false] at q
          exact q _ s1
      · refine iteT' (by rw [decide_eq_false (fun z => h2 ((letters_mem _).mp z))]; rfl) ?_
        rw [decide_eq_false h2, Bool.false_and, Bool.and_false] at q
        exact q _ (Same.refl _)
    · refine iteT' (decide_eq_true (by rw [S_length]; omega)) ?_
      rw [decide_eq_false h1, Bool.false_and] at q
      exact q _ (Same.refl _)
end
end Gw

/-! # Told: __init__, take; told_by -/
namespace Gw
open PySem PySem.Spec PyProof.Rows L2
open Sf33 (Bytes)
/-! ### a method, a class made, within a try or a def that may raise -/
/-- o.m(e, ..): what it raises is wished for at the slots as they stand -/
def tMethS (C : Addr) (m : Str) (sp : Sp) (E : L2.St → XK) (ta : TE) (t : TA) : TE := fun σ H Q => ta σ H fun x H1 => ∃ a dx fs, x = .ref a ∧ H1 a = some (.ins C dx fs) ∧ fs.lookup m = none ∧ t σ H1 fun vs H2 => sp (x :: vs) H2 Q (E σ)
theorem pe_methS {X : Cx} {CX : CXT} {k : Nat} {f C : Addr} {fd : FuncData} {ps : List Str} {sp : Sp} {E : L2.St → XK} {m : Str} {pos apos : Pos} {e o : Expr} {es : List Expr} {ta : TE} {t : TA} {pl : Sem Bool} (he : PE X o ta) (c : Cls X.K C) (hm : Meth X.K C m f)
    (F : FnOk X.prog X.w X.K X.mg X.base CX k f fd ps sp) (hr : Room k X.A) (hb : Binds X.K fd ps []) (hx : ∀ σ, PassesAt CX X σ (E σ)) (ha : PA X (e :: es) t)
    (hst : starEach (e :: es) X.env = (false, eval e X.env) :: starEach es X.env := by rfl) (hpl : (backTo pos (starEach es X.env)).any (·.1) = false := by rfl)
    (ht : eval (.Call (.Attribute o m apos) (e :: es) [] pos) X.env = (do
      let ov ← eval o X.env
      standAt apos.atName
      let (f, first) ← holding [ov] (getMethod ov m pl)
      callWith pos f first (backTo pos (starEach (e :: es) X.env)) (backToKw pos (keywordEach [] X.env))) := by rfl) :
    PE X (.Call (.Attribute o m apos) (e :: es) [] pos) (tMethS C m sp E ta t) := by
  refine ⟨fun pins s σ H Q I h => ?_⟩
  refine PySem.W.methodCall_KW (pl := pl) (thn (he.run pins s σ H _ I h) fun u s1 ⟨x, H1, I1, rx, a, dx, fs, ex, ea, l, q⟩ => ?_) ht
  subst ex
  obtain rfl : u = Value.ref a := rx
  refine getmeth_ok I1 ea c hm l ?_
  refine PySem.W.callWith_K (first := [.ref a]) (h₀ := X.base) I.ok.mod.kin hm.kp (thn (ha.run pos pins s1 σ H1 _ I1 q) fun us s2 ⟨vs, H2, I2, r, q2⟩ => ⟨I2.kIn, ?_⟩) hst hpl
  exact run_fnS (us := .ref a :: us) (vs := .ref a :: vs) F hr hb (hx σ) I2 (.cons rfl r) q2
/-! ### data -/
theorem sg_lt (c : UInt8) : Gn.sg c < 1114112 := by
  unfold Gn.sg
  split <;> omega
theorem strOk_S (x : Bytes) : PyData.strOk (S x) = true := by
  unfold PyData.strOk S
  rw [Array.all_eq_true_iff_forall_mem]
  intro n hn
  rw [List.mem_toArray] at hn
  obtain ⟨c, _, rfl⟩ := List.mem_map.mp hn
  exact decide_eq_true (sg_lt c)
theorem shaped_words (ws : List Bytes) : SeqAt.shaped (.list (ws.map fun w => PyData.str (S w))) = true := by
  have h1 : ∀ ws : List Bytes, PyData.canLayAll0 (ws.map fun w => PyData.str (S w)) = true := by
    intro ws
    induction ws with
    | nil => simp [PyData.canLayAll0]
    | cons x ws ih =>
      rw [List.map_cons]
      unfold PyData.canLayAll0
      rw [ih, Bool.and_true]
      unfold PyData.canLay0
      exact strOk_S x
  have h2 : ∀ ws : List Bytes, PyData.depthAll (ws.map fun w => PyData.str (S w)) = 0 := by
    intro ws
    induction ws with
    | nil => simp [PyData.depthAll]
    | cons x ws ih =>
      rw [List.map_cons]
      unfold PyData.depthAll
      rw [ih]
      simp [PyData.depth]
  unfold SeqAt.shaped
  rw [Bool.and_eq_true]
  constructor
  · unfold PyData.canLay0
    exact h1 ws
  · unfold PyData.depth
    rw [h2 ws]
    decide
section
variable {P : Program} {w : World} {K : PySem.W.Frag} {mg : Str → Option Value} {base : Heap}
theorem data_words {H : Hp} (ws : List Bytes) : DpAll K H (ws.map sv) (ws.map fun w => PyData.str (S w)) := by
  induction ws with
  | nil => exact .nil
  | cons x ws ih => exact .cons (.str _) ih
theorem eqv_nil (ds : List PyData) : PyData.eqv (.list ds) (.list []) = decide (ds = []) := by
  cases ds with
  | nil => simp [PyData.eqv, PyData.eqvAll]
  | cons d ds => simp [PyData.eqv, PyData.eqvAll]
theorem shaped_nil : SeqAt.shaped (.list []) = true := shaped_words []
/-! ### what Told holds -/
/-- gates as they lie: tuples of a name, a kind's name, a list of names; none of it among bad -/
def GA (H : Hp) (bad : List Addr) (rs : List Addr) (gs : List Sf33.Gate) : Prop :=
  Paired (fun p g => p ∉ bad ∧ ∃ q, H p = some (.tup [sv g.name, sv (Gn.kn g.kind), .ref q]) ∧ H q = some (.lst (g.from_.map sv)) ∧ q ∉ bad) rs gs
theorem GA.keep {H H' : Hp} {bad xs : List Addr} (k : Kp xs H H') (hx : ∀ x ∈ xs, x ∈ bad) : ∀ {rs : List Addr} {gs : List Sf33.Gate}, GA H bad rs gs → GA H' bad rs gs
  | _, _, .nil => .nil
  | _, _, .cons ⟨h1, q, h2, h3, h4⟩ t => .cons ⟨h1, q, k _ _ h2 (fun z => h1 (hx _ z)), k _ _ h3 (fun z => h4 (hx _ z)), h4⟩ (GA.keep k hx t)
theorem GA.same {H H' : Hp} {bad : List Addr} {rs : List Addr} {gs : List Sf33.Gate} (g : GA H bad rs gs) (s : Same H H') : GA H' bad rs gs := g.keep (xs := []) (Kp.of s) (by simp)
theorem GA.less {H : Hp} {bad bad' : List Addr} (hx : ∀ x ∈ bad', x ∈ bad) : ∀ {rs : List Addr} {gs : List Sf33.Gate}, GA H bad rs gs → GA H bad' rs gs
  | _, _, .nil => .nil
  | _, _, .cons ⟨h1, q, h2, h3, h4⟩ t => .cons ⟨fun z => h1 (hx _ z), q, h2, h3, fun z => h4 (hx _ z)⟩ (GA.less hx t)
/-- addresses of nothing tracked may join the bad ones -/
theorem GA.more {H : Hp} {bad : List Addr} {p : Addr} (n : H p = none) : ∀ {rs : List Addr} {gs : List Sf33.Gate}, GA H bad rs gs → GA H (p :: bad) rs gs
  | _, _, .nil => .nil
  | _, _, .cons ⟨h1, q, h2, h3, h4⟩ t => .cons ⟨fun z => by
      rcases List.mem_cons.mp z with z | z
      · rw [z, n] at h2; cases h2
      · exact h1 z, q, h2, h3, fun z => by
      rcases List.mem_cons.mp z with z | z
      · rw [z, n] at h3; cases h3
      · exact h4 z⟩ (GA.more n t)
def fT (li lo lg : Addr) : List (Str × V) := [("inputs", .ref li), ("outputs", .ref lo), ("gates", .ref lg)]
theorem lk_here {k : Str} {v : V} {r : List (Str × V)} : List.lookup k ((k, v) :: r) = some v := by
  have e : (k == k) = true := beq_self_eq_true k
  simp only [List.lookup, e]
theorem lk_past {k g : Str} {v : V} {r : List (Str × V)} (h : (k == g) = false) : List.lookup k ((g, v) :: r) = List.lookup k r := by
  simp only [List.lookup, h]
theorem put_here {f : Str} {v x : V} {r : List (Str × V)} : putF f v ((f, x) :: r) = (f, v) :: r := if_pos rfl
theorem put_past {f g : Str} {v x : V} {r : List (Str × V)} (h : ¬ g = f) : putF f v ((g, x) :: r) = (g, x) :: putF f v r := if_neg h
theorem fT_in {li lo lg : Addr} : (fT li lo lg).lookup ("inputs" : Str) = some (.ref li) := lk_here
theorem fT_out {li lo lg : Addr} : (fT li lo lg).lookup ("outputs" : Str) = some (.ref lo) := (lk_past (by decide +kernel)).trans lk_here
theorem fT_gat {li lo lg : Addr} : (fT li lo lg).lookup ("gates" : Str) = some (.ref lg) := (lk_past (by decide +kernel)).trans ((lk_past (by decide +kernel)).trans lk_here)
theorem fT_take {li lo lg : Addr} : (fT li lo lg).lookup ("take" : Str) = none := (lk_past (by decide +kernel)).trans ((lk_past (by decide +kernel)).trans ((lk_past (by decide +kernel)).trans rfl))
theorem fT_new {li lo lg : Addr} : putF "gates" (.ref lg) (putF "outputs" (.ref lo) (putF "inputs" (.ref li) [])) = fT li lo lg :=
  (congrArg (putF "gates" (.ref lg)) (put_past (f := "outputs") (g := "inputs") (r := []) (by decide +kernel))).trans ((put_past (by decide +kernel)).trans (congrArg _ (put_past (by decide +kernel))))
structure ToldAt (C : Addr) (H : Hp) (t li lo lg : Addr) (rs : List Addr) (n : Sf33.Net) : Prop where
  at_ : ∃ dx, H t = some (.ins C dx (fT li lo lg))
  ins : H li = some (.lst (n.ins.map sv))
  outs : H lo = some (.lst (n.outs.map sv))
  gat : H lg = some (.lst (rs.map V.ref))
  ga : GA H [li, lo, lg] rs n.gates
  d1 : li ≠ lo
  d2 : li ≠ lg
  d3 : lo ≠ lg
theorem ToldAt.same {C : Addr} {H H' : Hp} {t li lo lg : Addr} {rs : List Addr} {n : Sf33.Net} (T : ToldAt C H t li lo lg rs n) (s : Same H H') : ToldAt C H' t li lo lg rs n := by
  obtain ⟨⟨dx, h⟩, h1, h2, h3, h4, d1, d2, d3⟩ := T
  exact ⟨⟨dx, s _ _ h⟩, s _ _ h1, s _ _ h2, s _ _ h3, h4.same s, d1, d2, d3⟩
theorem ToldAt.setIns {C : Addr} {H : Hp} {t li lo lg : Addr} {rs : List Addr} {n : Sf33.Net} (T : ToldAt C H t li lo lg rs n) (r : List Bytes) : ToldAt C (upd H li (.lst (n.ins.map sv ++ r.map sv))) t li lo lg rs { n with ins := n.ins ++ r } := by
  obtain ⟨⟨dx, h⟩, h1, h2, h3, h4, d1, d2, d3⟩ := T
  refine ⟨⟨dx, ?_⟩, ?_, ?_, ?_, ?_, d1, d2, d3⟩
  · rw [upd_ne (ne_of h h1 (by intro z; cases z))]; exact h
  · rw [upd_same, List.map_append]
  · rw [upd_ne d1.symm]; exact h2
  · rw [upd_ne d2.symm]; exact h3
  · exact h4.keep (Kp.put (xs := [li]) (Kp.refl _ _) (.inl (by simp))) (by simp)
theorem ToldAt.setOuts {C : Addr} {H : Hp} {t li lo lg : Addr} {rs : List Addr} {n : Sf33.Net} (T : ToldAt C H t li lo lg rs n) (r : List Bytes) : ToldAt C (upd H lo (.lst (n.outs.map sv ++ r.map sv))) t li lo lg rs { n with outs := n.outs ++ r } := by
  obtain ⟨⟨dx, h⟩, h1, h2, h3, h4, d1, d2, d3⟩ := T
  refine ⟨⟨dx, ?_⟩, ?_, ?_, ?_, ?_, d1, d2, d3⟩
  · rw [upd_ne (ne_of h h2 (by intro z; cases z))]; exact h
  · rw [upd_ne d1]; exact h1
  · rw [upd_same, List.map_append]
  · rw [upd_ne d3.symm]; exact h3
  · exact h4.keep (Kp.put (xs := [lo]) (Kp.refl _ _) (.inl (by simp))) (by simp)
theorem ToldAt.setGates {C : Addr} {H : Hp} {t li lo lg p c : Addr} {rs : List Addr} {n : Sf33.Net} {g : Sf33.Gate} (T : ToldAt C H t li lo lg rs n) (hp : H p = some (.tup [sv g.name, sv (Gn.kn g.kind), .ref c])) (hc : H c = some (.lst (g.from_.map sv)))
    (np : p ∉ [li, lo, lg]) (nc : c ∉ [li, lo, lg]) : ToldAt C (upd H lg (.lst (rs.map V.ref ++ [V.ref p]))) t li lo lg (rs ++ [p]) { n with gates := n.gates ++ [g] } := by
  obtain ⟨⟨dx, h⟩, h1, h2, h3, h4, d1, d2, d3⟩ := T
  have k : Kp [lg] H (upd H lg (.lst (rs.map V.ref ++ [V.ref p]))) := Kp.put (xs := [lg]) (Kp.refl _ _) (.inl (by simp))
  have m : ∀ x ∈ [lg], x ∈ [li, lo, lg] := by simp
  refine ⟨⟨dx, ?_⟩, ?_, ?_, ?_, ?_, d1, d2, d3⟩
  · rw [upd_ne (ne_of h h3 (by intro z; cases z))]; exact h
  · rw [upd_ne d2]; exact h1
  · rw [upd_ne d3]; exact h2
  · rw [upd_same, List.map_append]
    rfl
  · exact paired_snoc (h4.keep k m) ⟨np, c, k _ _ hp (fun z => np (m _ z)), k _ _ hc (fun z => nc (m _ z)), nc⟩
/-- what the top has written of Told -/
structure TTold (K : PySem.W.Frag) (mg : Str → Option Value) (C : Addr) : Prop where
  cl : Cls K C
  gC : mg "Told" = some (.ref C)
  nI : NoAttr K C "inputs"
  nO : NoAttr K C "outputs"
  nG : NoAttr K C "gates"
/-! ### Told.__init__ -/
theorem scTInit : FnScope ["self"] ["self"] (defScope sTInit) := ⟨rfl, rfl, rfl, by decide +kernel, rfl, by decide +kernel, by decide +kernel⟩
def spTInit (C : Addr) : Sp := fun vs H Q _ => ∃ (t dx : Addr), vs = [.ref t] ∧ H t = some (.ins C dx []) ∧
  ∀ (H' : Hp) (li lo lg : Addr), Kp [t] H H' → H li = none → H lo = none → H lg = none → ToldAt C H' t li lo lg [] Gn.empty → Q .non H'
theorem ok_tinit {C f : Addr} {fd : FuncData} (F : Fun K "__init__" "Told.__init__" sTInit f fd) (T : TTold K mg C) : FnOk P w K mg base CX0 1 f fd ["self"] (spTInit C) := by
  refine F.ok scTInit (fun vs H Q E h => ?_) (fun cdv A outer s H vs Q E hr h => ⟨_,
      pss_cons (ps_fld (pv 0) (pe_lst pa_nil) rfl) (pss_cons (ps_fld (pv 0) (pe_lst pa_nil) rfl) (pss_one (ps_fld (pv 0) (pe_lst pa_nil) rfl))), ?_⟩)
  · obtain ⟨t, dx, rfl, _⟩ := h
    rfl
  · obtain ⟨t, dx, rfl, ht, q⟩ := h
    refine ⟨Nat.zero_le _, fun li nli => ?_⟩
    have e1 : t ≠ li := ne_of_none ht nli
    refine ⟨_, rfl, t, C, dx, [], rfl, (by rw [upd_ne e1]; exact ht), T.cl, T.nI, (by show 0 < 1000; decide), ?_⟩
    refine ⟨Nat.zero_le _, fun lo nlo => ?_⟩
    have e2 : t ≠ lo := fun z => by rw [← z, upd_same] at nlo; cases nlo
    have e3 : li ≠ lo := fun z => by rw [← z, upd_ne e1.symm, upd_same] at nlo; cases nlo
    refine ⟨_, rfl, t, C, dx, _, rfl, (by rw [upd_ne e2]; exact upd_same), T.cl, T.nO, (by show 1 < 1000; decide), ?_⟩
    refine ⟨Nat.zero_le _, fun lg nlg => ?_⟩
    have e4 : t ≠ lg := fun z => by rw [← z, upd_same] at nlg; cases nlg
    have e5 : lo ≠ lg := fun z => by rw [← z, upd_ne e2.symm, upd_same] at nlg; cases nlg
    have e6 : li ≠ lg := fun z => by rw [← z, upd_ne e1.symm, upd_ne e3, upd_ne e1.symm, upd_same] at nlg; cases nlg
    refine ⟨_, rfl, t, C, dx, _, rfl, (by rw [upd_ne e4]; exact upd_same), T.cl, T.nG, (by show 2 < 1000; decide), ?_⟩
    have nlo' : H lo = none := by rw [upd_ne e2.symm, upd_ne e3.symm] at nlo; exact nlo
    have nlg' : H lg = none := by rw [upd_ne e4.symm, upd_ne e5.symm, upd_ne e4.symm, upd_ne e6.symm] at nlg; exact nlg
    refine q _ li lo lg ?_ nli nlo' nlg' ⟨⟨dx, ?_⟩, ?_, ?_, ?_, .nil, e3, e6, e5⟩
    · exact Kp.put (Kp.put (Kp.put (Kp.put (Kp.put (Kp.put (Kp.refl _ _) (.inr nli)) (.inl (by simp))) (.inr nlo')) (.inl (by simp))) (.inr nlg')) (.inl (by simp))
    · exact Eq.trans upd_same (congrArg (fun z => some (HO.ins C dx z)) fT_new)
    · rw [upd_ne e1.symm, upd_ne e6, upd_ne e1.symm, upd_ne e3, upd_ne e1.symm, upd_same]
      rfl
    · rw [upd_ne e2.symm, upd_ne e5, upd_ne e2.symm, upd_same]
      rfl
    · rw [upd_ne e4.symm, upd_same]
      rfl
end
end Gw

/-! # Told.take, told_by -/
namespace Gw
open PySem PySem.Spec PyProof.Rows L2
open Sf33 (Bytes)
section
variable {P : Program} {w : World} {K : PySem.W.Frag} {mg : Str → Option Value} {base : Heap}
theorem sv_iff {a b : Bytes} (hb : ∀ c ∈ b, Gn.sg c ≠ 63) : sv a = sv b ↔ a = b := ⟨fun h => Gn.cd_inj (S_eq.mp (V.str.inj h)) hb, fun h => by rw [h]⟩
theorem sg_in : ∀ c ∈ Sf33.txt "in", Gn.sg c ≠ 63 := by decide +kernel
theorem sg_out : ∀ c ∈ Sf33.txt "out", Gn.sg c ≠ 63 := by decide +kernel
theorem sg_is : ∀ c ∈ ([61] : Bytes), Gn.sg c ≠ 63 := by decide +kernel
/-- a gate's line that is none -/
theorem gate_none {n : Sf33.Net} {x e k : Bytes} {a : List Bytes} (h1 : x ≠ Sf33.txt "in") (h2 : x ≠ Sf33.txt "out") (h : Sf33.isName x = false ∨ e ≠ [61] ∨ Sf33.kindOf k = none) : Sf33.line n (x :: e :: k :: a) = none := by
  by_cases he : e = [61]
  · subst he
    rw [Gn.line_gate h1 h2]
    rcases h with h | h | h
    · cases Sf33.kindOf k with
      | none => rfl
      | some y =>
        rw [Option.bind_some, if_neg]
        rintro ⟨z, _⟩
        rw [h] at z; cases z
    · exact absurd rfl h
    · rw [h]; rfl
  · refine Gn.line_short h1 h2 fun k' a' z => he ?_
    exact (List.cons.inj z).1
theorem gate_some {n : Sf33.Net} {x k : Bytes} {a : List Bytes} {y : Sf33.Kind × Nat} (h1 : x ≠ Sf33.txt "in") (h2 : x ≠ Sf33.txt "out") (hn : Sf33.isName x = true) (hk : Sf33.kindOf k = some y) :
    Sf33.line n (x :: [61] :: k :: a) = if a.all Sf33.isName = true ∧ a.length = y.2 then some { n with gates := n.gates ++ [⟨x, y.1, a⟩] } else none := by
  rw [Gn.line_gate h1 h2, hk, Option.bind_some]
  by_cases c : a.all Sf33.isName = true ∧ a.length = y.2
  · rw [if_pos c, if_pos ⟨hn, c⟩]
  · rw [if_neg c, if_neg fun z => c z.2]
/-- [is_name(word) for word in a list of words], the names' place 2 of three -/
theorem lc_names {σ : L2.St} {x y z : Option V} (hσ : σ = [x, y, z]) {c D : Addr} {ws : List Bytes} {H1 : Hp} {Qd : Hp → Prop} (hc : H1 c = some (.lst (ws.map sv))) (nD : H1 D = none) (hw : ∀ x ∈ ws, x ≠ [] ∧ x.length ≤ 65536) (hl : ws.length ≤ 65536)
    (hd : ∀ H', Same H1 H' → H' D = some (.lst ((ws.map Sf33.isName).map V.bl)) → Qd H') :
    ∃ W : Nat → Nat → Hp → Prop, (∃ m, W 0 m (upd H1 D (.lst []))) ∧ ∀ i m H, W i m H →
      ((Itl K c).stop i H ∧ Qd H) ∨ ((Itl K c).go i H ∧ ∃ Nx : Hp → Prop, (∀ H', Nx H' → ∃ m', m' < m ∧ W (i + 1) m' H') ∧ ∀ x H', (Itl K c).yld i H x H' → gName 2 x (wipe σ [2]) H' fun σ2 H2 => wipe σ2 [2] = wipe σ [2] ∧ tYes σ2 H2 fun b H3 =>
        if b = true then tCall spIsName [] E0 (tCons (tVar 2) tNil) σ2 H3 fun y H4 => ∃ acc, H4 D = some (.lst acc) ∧ acc.length < sizeLine ∧ Nx (upd H4 D (.lst (acc ++ [y]))) else Nx H3) := by
  subst hσ
  refine lc_mapW (xs := ws.map sv) walk_list yAt ((ws.map Sf33.isName).map V.bl) (by simp) (by rw [List.length_map]; omega) nD (fun H s => SqL.of (s _ _ hc)) ?_ gName_mono hd
  intro i v u H Q hv hu s1 hq
  obtain ⟨x, hx, rfl⟩ := map_at hv
  obtain ⟨b, hb, rfl⟩ := map_at hu
  obtain ⟨x', hx', rfl⟩ := map_at hb
  rw [hx] at hx'
  cases hx'
  have hm := hw x (List.mem_of_getElem? hx)
  exact ⟨rfl, _, rfl, x, rfl, hm.1, hm.2, fun H' s => hq H' s⟩
theorem all_names (ws : List Bytes) : (ws.map Sf33.isName).all id = ws.all Sf33.isName := by rw [List.all_map]; rfl
/-! ### take -/
theorem scTake : FnScope ["self", "words", "word"] ["self", "words"] (defScope sTake) := ⟨rfl, rfl, rfl, by decide +kernel, rfl, by decide +kernel, by decide +kernel⟩
def spTake (C CF : Addr) : Sp := fun vs H Q E => ∃ (t wl li lo lg : Addr) (rs : List Addr) (n : Sf33.Net) (ws : List Bytes), vs = [.ref t, .ref wl] ∧ ToldAt C H t li lo lg rs n ∧ H wl = some (.lst (ws.map sv)) ∧
  ws ≠ [] ∧ (∀ x ∈ ws, x ≠ [] ∧ x.length ≤ 65536) ∧ ws.length ≤ 65536 ∧ Gn.size n ≤ 65536 ∧ wl ∉ [li, lo, lg] ∧
  (Sf33.line n ws = none → ∀ H', Same H H' → E (.ref CF) none H') ∧
  (∀ n', Sf33.line n ws = some n' → ∀ H' rs', Kp [li, lo, lg] H H' → ToldAt C H' t li lo lg rs' n' → Q .non H')
theorem ok_take {C CF f fW fN : Addr} {fd fdW fdN : FuncData} (F : Fun K "take" "Told.take" sTake f fd) (T : TTold K mg C) (gI : GStr mg "INPUTS" (S (Sf33.txt "in"))) (gO : GStr mg "OUTPUTS" (S (Sf33.txt "out"))) (gZ : GDict K w mg "SIZES" sizesL)
    (mL : mg "len" = none) (mA : mg "all" = none)
    (GW : FnOk P w K mg base (L2.CX P w) 1 fW fdW ["truth"] (spWant CF)) (gW : mg "want" = some (.ref fW)) (kW : PySem.W.keepIn K (.ref fW) = true) (bW : Binds K fdW ["truth"] [])
    (GN : FnOk P w K mg base CX0 1 fN fdN ["word"] spIsName) (gN : mg "is_name" = some (.ref fN)) (kN : PySem.W.keepIn K (.ref fN) = true) (bN : Binds K fdN ["word"] []) :
    FnOk P w K mg base (L2.CX P w) 2 f fd ["self", "words"] (spTake C CF) := by
  obtain ⟨tI, gI⟩ := gI
  obtain ⟨tO, gO⟩ := gO
  obtain ⟨aZ, esZ, nZ, gZ, DZ, EZ⟩ := gZ
  refine F.okX scTake (fun vs H Q E h => ?_) (fun cdv A outer s H vs Q E hr h => ⟨_,
      pss_cons (ps_if (PW.pt (pw_or (pt_cmpR op_eq (pe_ix ix_list (pv 1) pe_int (fun _ _ => rfl)) (pe_glob (v := sv (Sf33.txt "in")) rfl gI ⟨_, rfl⟩) (nomark _)) (pw_or1 (pt_cmpR op_eq (pe_ix ix_list (pv 1) pe_int (fun _ _ => rfl)) (pe_glob (v := sv (Sf33.txt "out")) rfl gO ⟨_, rfl⟩) (nomark _)))))
        (pss_cons (ps_expr (pe_callS GW hr (by rfl) gW kW bW (fun σ => passAt (takes_of rfl rfl rfl rfl) σ) (pa_cons
            (pe_and (pe_cmpR op_gt (pe_callB call_len_seq (by rfl) mL PySem.boot_len (pa_cons (pv 1) pa_nil)) pe_int (nomark _)) (pe_one (pe_callB (cr_all rfl) (by rfl) mA (by decide +kernel) (pa_cons
              (pe_lc (own := [("word", 2)]) (g := gName 2) (tt := tYes) rfl scTake.nd (pi_list (pe_slice sl_list (pv 1) (po_some pe_int) po_none)) (blkOk_by (N := ["self", "words", "word"]) (sc := defScope sTake) (by decide +kernel)) (fun _ _ _ _ _ => pg_name (i := 2) scTake.nd rfl (Or.inl rfl)) (fun _ _ _ _ _ => pts_nil)
                (fun _ _ _ _ _ => pe_call GN hr (by rfl) gN kN bN .nil pass0 (pa_cons (pv 2) pa_nil))) pa_nil)))) pa_nil)))
        (pss_cons (ps_if (pt_cmpR op_eq (pe_ix ix_list (pv 1) pe_int (fun _ _ => rfl)) (pe_glob (v := sv (Sf33.txt "in")) rfl gI ⟨_, rfl⟩) (nomark _))
            (pss_one (ps_expr (pe_bm PySem.F.plainAttrs_list PySem.F.slot_list_extend PySem.F.type_list_extend mt_extend (pe_fld (pv 0) rfl) (pa_cons (pe_slice sl_list (pv 1) (po_some pe_int) po_none) pa_nil))))
            (pss_one (ps_expr (pe_bm PySem.F.plainAttrs_list PySem.F.slot_list_extend PySem.F.type_list_extend mt_extend (pe_fld (pv 0) rfl) (pa_cons (pe_slice sl_list (pv 1) (po_some pe_int) po_none) pa_nil)))))
        (pss_one ps_retN))) pss_nil)
      (pss_cons (ps_expr (pe_callS GW hr (by rfl) gW kW bW (fun σ => passAt (takes_of rfl rfl rfl rfl) σ) (pa_cons
            (pe_and (pe_cmpR op_gt (pe_callB call_len_seq (by rfl) mL PySem.boot_len (pa_cons (pv 1) pa_nil)) pe_int (nomark _))
              (pe_and (pe_call GN hr (by rfl) gN kN bN .nil pass0 (pa_cons (pe_ix ix_list (pv 1) pe_int (fun _ _ => rfl)) pa_nil))
              (pe_and (pe_cmpR op_eq (pe_ix ix_list (pv 1) pe_int (fun _ _ => rfl)) pe_str (nomark _))
              (pe_one (pe_cmpR (op_in_kd DZ) (pe_ix ix_list (pv 1) pe_int (fun _ _ => rfl)) (pe_glob (v := .ref aZ) rfl gZ rfl) (by rfl)))))) pa_nil)))
      (pss_cons (ps_expr (pe_callS GW hr (by rfl) gW kW bW (fun σ => passAt (takes_of rfl rfl rfl rfl) σ) (pa_cons
            (pe_and (pe_cmpR op_eq (pe_callB call_len_seq (by rfl) mL PySem.boot_len (pa_cons (pv 1) pa_nil)) (pe_op op_add pe_int (pe_ix ix_kdict (pe_glob (v := .ref aZ) rfl gZ rfl) (pe_ix ix_list (pv 1) pe_int (fun _ _ => rfl)) (fun _ _ => rfl))) (nomark _)) (pe_one (pe_callB (cr_all rfl) (by rfl) mA (by decide +kernel) (pa_cons
              (pe_lc (own := [("word", 2)]) (g := gName 2) (tt := tYes) rfl scTake.nd (pi_list (pe_slice sl_list (pv 1) (po_some pe_int) po_none)) (blkOk_by (N := ["self", "words", "word"]) (sc := defScope sTake) (by decide +kernel)) (fun _ _ _ _ _ => pg_name (i := 2) scTake.nd rfl (Or.inl rfl)) (fun _ _ _ _ _ => pts_nil)
                (fun _ _ _ _ _ => pe_call GN hr (by rfl) gN kN bN .nil pass0 (pa_cons (pv 2) pa_nil))) pa_nil)))) pa_nil)))
      (pss_one (ps_expr (pe_bm PySem.F.plainAttrs_list PySem.F.slot_list_append PySem.F.type_list_append mt_append (pe_fld (pv 0) rfl) (pa_cons (pe_tup (pa_cons (pe_ix ix_list (pv 1) pe_int (fun _ _ => rfl)) (pa_cons (pe_ix ix_list (pv 1) pe_int (fun _ _ => rfl)) (pa_cons (pe_slice sl_list (pv 1) (po_some pe_int) po_none) pa_nil)))) pa_nil)))))), ?_⟩)
  · obtain ⟨t, wl, li, lo, lg, rs, n, ws, rfl, _⟩ := h
    rfl
  · obtain ⟨t, wl, li, lo, lg, rs, n, ws, rfl, hT, hw, hne, hws, hlen, hsz, hwl, kX, kS⟩ := h
    obtain ⟨x, r, rfl⟩ : ∃ x r, ws = x :: r := by
      cases ws with
      | nil => exact absurd rfl hne
      | cons x r => exact ⟨x, r, rfl⟩
    have hr1 : (x :: r).length = r.length + 1 := List.length_cons
    by_cases h1 : x = Sf33.txt "in"
    · subst h1
      refine ⟨_, rfl, wl, _, 0, sv (Sf33.txt "in"), rfl, rfl, SqL.of hw, at_nat (j := 0) rfl rfl, rfl, _, rfl, iteT' (decide_eq_true rfl) (iteT ?_)⟩
      -- want(len(words) > 1 and all(..))
      refine ⟨_, rfl, wl, _, rfl, .inl (SqL.of hw), _, _, rfl, rfl, _, rfl, ?_⟩
      by_cases hr0 : r = []
      · subst hr0
        refine iteF' (decide_eq_false (by rw [List.length_map]; simp)) ⟨false, rfl, (fun e => nomatch e), fun _ => kX ?_ _ (Same.refl _)⟩
        rw [Gn.line_in, if_neg (fun z => z.1 rfl)]
      · have hrp : 0 < r.length := List.length_pos_iff.mpr hr0
        refine iteT' (decide_eq_true (by rw [List.length_map, hr1]; omega)) ?_
        refine ⟨_, rfl, 1, rfl, wl, _, rfl, SqL.of hw, fun c nc => ⟨c, rfl, ⟨_, SqL.of upd_same⟩, fun D nD => ?_⟩⟩
        have ecut : cutV ((Sf33.txt "in" :: r).map sv) (some 1) none = r.map sv := cut_from (k := 1)
        refine lc_names rfl (ws := r) (by rw [upd_same, ecut]) nD (fun y hy => hws y (List.mem_cons_of_mem _ hy)) (by omega) fun H2 s2 hD => ?_
        have s2' : Same H H2 := (same_upd nc).trans s2
        refine ⟨D, _, rfl, SqL.of hD, _, rfl, fun e => ?_, fun e => kX ?_ _ s2'⟩
        · rw [all_names] at e
          have T2 := hT.same s2'
          obtain ⟨dx, ht⟩ := T2.at_
          have hw2 := s2' _ _ hw
          refine ⟨_, rfl, wl, _, 0, sv (Sf33.txt "in"), rfl, rfl, SqL.of hw2, at_nat (j := 0) rfl rfl, rfl, _, rfl, iteT' (decide_eq_true rfl) ?_⟩
          refine ⟨_, rfl, t, C, dx, _, _, rfl, ht, T.cl, T.nI, fT_in, .inl ⟨rfl, _, SqL.of T2.ins⟩, _, rfl, 1, rfl, wl, _, rfl, SqL.of hw2, fun c2 nc2 => ?_⟩
          have T3 := T2.same (same_upd nc2 (o := .lst (cutV ((Sf33.txt "in" :: r).map sv) (some 1) none)))
          refine ⟨li, c2, _, _, rfl, rfl, T3.ins, upd_same, ?_, ?_⟩
          · rw [ecut, List.length_map, List.length_map]
            unfold Gn.size at hsz
            exact line_of (by omega)
          · rw [ecut]
            rw [ecut] at T3
            refine kS _ ?_ _ rs ?_ (T3.setIns r)
            · rw [Gn.line_in, if_pos ⟨hr0, e⟩]
            · exact Kp.put (Kp.put (Kp.of s2') (.inr (s2'.free nc2))) (.inl (by simp))
        · rw [all_names] at e
          rw [Gn.line_in, if_neg (fun z => by rw [z.2] at e; cases e)]
    · by_cases h2 : x = Sf33.txt "out"
      · subst h2
        refine ⟨_, rfl, wl, _, 0, sv (Sf33.txt "out"), rfl, rfl, SqL.of hw, at_nat (j := 0) rfl rfl, rfl, _, rfl, iteF' (decide_eq_false (fun z => h1 ((sv_iff sg_in).mp z))) ?_⟩
        refine ⟨_, rfl, wl, _, 0, sv (Sf33.txt "out"), rfl, rfl, SqL.of hw, at_nat (j := 0) rfl rfl, rfl, _, rfl, iteT' (decide_eq_true rfl) ?_⟩
        -- want(len(words) > 1 and all(..))
        refine ⟨_, rfl, wl, _, rfl, .inl (SqL.of hw), _, _, rfl, rfl, _, rfl, ?_⟩
        by_cases hr0 : r = []
        · subst hr0
          refine iteF' (decide_eq_false (by rw [List.length_map]; simp)) ⟨false, rfl, (fun e => nomatch e), fun _ => kX ?_ _ (Same.refl _)⟩
          rw [Gn.line_out, if_neg (fun z => z.1 rfl)]
        · have hrp : 0 < r.length := List.length_pos_iff.mpr hr0
          refine iteT' (decide_eq_true (by rw [List.length_map, hr1]; omega)) ?_
          refine ⟨_, rfl, 1, rfl, wl, _, rfl, SqL.of hw, fun c nc => ⟨c, rfl, ⟨_, SqL.of upd_same⟩, fun D nD => ?_⟩⟩
          have ecut : cutV ((Sf33.txt "out" :: r).map sv) (some 1) none = r.map sv := cut_from (k := 1)
          refine lc_names rfl (ws := r) (by rw [upd_same, ecut]) nD (fun y hy => hws y (List.mem_cons_of_mem _ hy)) (by omega) fun H2 s2 hD => ?_
          have s2' : Same H H2 := (same_upd nc).trans s2
          refine ⟨D, _, rfl, SqL.of hD, _, rfl, fun e => ?_, fun e => kX ?_ _ s2'⟩
          · rw [all_names] at e
            have T2 := hT.same s2'
            obtain ⟨dx, ht⟩ := T2.at_
            have hw2 := s2' _ _ hw
            refine ⟨_, rfl, wl, _, 0, sv (Sf33.txt "out"), rfl, rfl, SqL.of hw2, at_nat (j := 0) rfl rfl, rfl, _, rfl, iteF' (decide_eq_false (fun z => h1 ((sv_iff sg_in).mp z))) ?_⟩
            refine ⟨_, rfl, t, C, dx, _, _, rfl, ht, T.cl, T.nO, fT_out, .inl ⟨rfl, _, SqL.of T2.outs⟩, _, rfl, 1, rfl, wl, _, rfl, SqL.of hw2, fun c2 nc2 => ?_⟩
            have T3 := T2.same (same_upd nc2 (o := .lst (cutV ((Sf33.txt "out" :: r).map sv) (some 1) none)))
            refine ⟨lo, c2, _, _, rfl, rfl, T3.outs, upd_same, ?_, ?_⟩
            · rw [ecut, List.length_map, List.length_map]
              unfold Gn.size at hsz
              exact line_of (by omega)
            · rw [ecut]
              rw [ecut] at T3
              refine kS _ ?_ _ rs ?_ (T3.setOuts r)
              · rw [Gn.line_out, if_pos ⟨hr0, e⟩]
              · exact Kp.put (Kp.put (Kp.of s2') (.inr (s2'.free nc2))) (.inl (by simp))
          · rw [all_names] at e
            rw [Gn.line_out, if_neg (fun z => by rw [z.2] at e; cases e)]
      · -- a gate's line
        refine ⟨_, rfl, wl, _, 0, sv x, rfl, rfl, SqL.of hw, at_nat (j := 0) rfl rfl, rfl, _, rfl, iteF' (decide_eq_false (fun z => h1 ((sv_iff sg_in).mp z))) ?_⟩
        refine ⟨_, rfl, wl, _, 0, sv x, rfl, rfl, SqL.of hw, at_nat (j := 0) rfl rfl, rfl, _, rfl, iteF' (decide_eq_false (fun z => h2 ((sv_iff sg_out).mp z))) ?_⟩
        refine ⟨_, rfl, wl, _, rfl, .inl (SqL.of hw), _, _, rfl, rfl, _, rfl, ?_⟩
        by_cases h3 : r.length < 2
        · refine iteF' (decide_eq_false (by rw [List.length_map]; omega)) ⟨false, rfl, (fun e => nomatch e), fun _ => kX ?_ _ (Same.refl _)⟩
          refine Gn.line_short h1 h2 fun k a z => ?_
          rw [z] at h3
          simp only [List.length_cons] at h3
          omega
        · obtain ⟨e, k, a, rfl⟩ : ∃ e k a, r = e :: k :: a := by
            cases r with
            | nil => exact absurd (by simp) h3
            | cons e r =>
              cases r with
              | nil => exact absurd (by simp) h3
              | cons k a => exact ⟨e, k, a, rfl⟩
          refine iteT' (decide_eq_true (by rw [List.length_map]; omega)) ?_
          refine ⟨_, rfl, wl, _, 0, sv x, rfl, rfl, SqL.of hw, at_nat (j := 0) rfl rfl, x, rfl, (hws x (by simp)).1, (hws x (by simp)).2, fun H1 s1 => ⟨_, rfl, ?_⟩⟩
          cases hn : Sf33.isName x with
          | false => exact iteF ⟨false, rfl, (fun z => nomatch z), fun _ => kX (gate_none h1 h2 (.inl hn)) _ s1⟩
          | true =>
            refine iteT ?_
            have hw1 := s1 _ _ hw
            refine ⟨_, rfl, wl, _, 1, sv e, rfl, rfl, SqL.of hw1, at_nat (j := 1) rfl rfl, rfl, _, rfl, ?_⟩
            by_cases he : e = [61]
            · refine iteT' (decide_eq_true (by rw [he, S_is]; rfl)) ?_
              subst he
              obtain ⟨rk, hrk, hrs⟩ := gdict_in DZ EZ (S k)
              refine ⟨_, rfl, wl, _, 2, sv k, rfl, rfl, SqL.of hw1, at_nat (j := 2) rfl rfl, S k, rk, rfl, rfl, hrk, _, rfl, fun z => ?_, fun z => kX (gate_none h1 h2 (.inr (.inr ?_))) _ s1⟩
              · rw [hrs] at z
                cases hk : Sf33.kindOf k with
                | none => rw [sizes_none hk] at z; cases z
                | some y =>
                  obtain ⟨ek, ey⟩ := Gn.kindOf_some hk
                  obtain ⟨kd, m⟩ := y
                  simp only at ek ey
                  subst ek
                  subst ey
                  have hl := gate_some (n := n) (a := a) h1 h2 hn hk
                  -- want(len(words) == 3 + SIZES[words[2]] and all(..))
                  obtain ⟨u, hu, ru⟩ := gdict_some DZ EZ (sizes_some (k := kd))
                  refine ⟨_, rfl, wl, _, rfl, .inl (SqL.of hw1), _, rfl, wl, _, 2, sv (Gn.kn kd), rfl, rfl, SqL.of hw1, at_nat (j := 2) rfl rfl, aZ, S (Gn.kn kd), .int (Gn.ar kd : Int), rfl, rfl, ⟨esZ, nZ, u, DZ.at_, DZ.lit, hu, ru⟩, 3, (Gn.ar kd : Int), rfl, rfl, rfl, _, rfl, ?_⟩
                  have elen : ((x :: [61] :: Gn.kn kd :: a).map sv).length = a.length + 3 := by rw [List.length_map]; rfl
                  by_cases hq : a.length = Gn.ar kd
                  · refine iteT' (decide_eq_true (by rw [elen, hq]; congr 1; omega)) ?_
                    refine ⟨_, rfl, 3, rfl, wl, _, rfl, SqL.of hw1, fun c nc => ⟨c, rfl, ⟨_, SqL.of upd_same⟩, fun D nD => ?_⟩⟩
                    have ecut : cutV ((x :: [61] :: Gn.kn kd :: a).map sv) (some 3) none = a.map sv := cut_from (k := 3)
                    have hla : a.length ≤ 65536 := by simp only [List.length_cons] at hlen; omega
                    refine lc_names rfl (ws := a) (by rw [upd_same, ecut]) nD (fun y hy => hws y (by simp [hy])) hla fun H2 s2 hD => ?_
                    have s2' : Same H H2 := s1.trans ((same_upd nc).trans s2)
                    refine ⟨D, _, rfl, SqL.of hD, _, rfl, fun e => ?_, fun e => kX ?_ _ s2'⟩
                    · rw [all_names] at e
                      rw [if_pos ⟨e, hq⟩] at hl
                      have T2 := hT.same s2'
                      obtain ⟨dx, ht⟩ := T2.at_
                      have hw2 := s2' _ _ hw
                      refine ⟨_, rfl, t, C, dx, _, _, rfl, ht, T.cl, T.nG, fT_gat, .inl ⟨rfl, _, SqL.of T2.gat⟩, ?_⟩
                      refine ⟨_, rfl, wl, _, 0, sv x, rfl, rfl, SqL.of hw2, at_nat (j := 0) rfl rfl, _, rfl, wl, _, 2, sv (Gn.kn kd), rfl, rfl, SqL.of hw2, at_nat (j := 2) rfl rfl, ?_⟩
                      refine ⟨_, rfl, 3, rfl, wl, _, rfl, SqL.of hw2, fun c2 nc2 => ⟨(by show 3 ≤ sizeLine; exact line_of (by decide)), fun p np => ?_⟩⟩
                      rw [ecut] at np
                      rw [ecut]
                      have npc : c2 ≠ p := fun z => by rw [← z, upd_same] at np; cases np
                      have np2 : H2 p = none := by rw [upd_ne npc.symm] at np; exact np
                      have s4 : Same H2 (upd (upd H2 c2 (.lst (a.map sv))) p (.tup [sv x, sv (Gn.kn kd), .ref c2])) := (same_upd nc2).trans (same_upd np)
                      have T4 := T2.same s4
                      have b1 : ∀ q, H2 q = none → q ∉ [li, lo, lg] := fun q nq z => by
                        rcases List.mem_cons.mp z with z | z
                        · rw [z, T2.ins] at nq; cases nq
                        · rcases List.mem_cons.mp z with z | z
                          · rw [z, T2.outs] at nq; cases nq
                          · rw [List.mem_singleton.mp z, T2.gat] at nq; cases nq
                      refine ⟨lg, _, _, rfl, rfl, T4.gat, ?_, ?_⟩
                      · have := T2.ga.length
                        rw [List.length_map, this]
                        unfold Gn.size at hsz
                        exact line_lt (by omega)
                      · refine kS _ hl _ (rs ++ [p]) ?_ (T4.setGates (g := ⟨x, kd, a⟩) (c := c2) upd_same ?_ (b1 p np2) (b1 c2 nc2))
                        · exact Kp.put (Kp.of (s2'.trans s4)) (.inl (by simp))
                        · rw [upd_ne npc, upd_same]
                    · rw [all_names] at e
                      rw [hl, if_neg (fun z => by rw [z.1] at e; cases e)]
                  · refine iteF' (decide_eq_false (by
                      rw [elen]
                      intro z
                      have := V.int.inj z
                      omega)) ⟨false, rfl, (fun e => nomatch e), fun _ => kX ?_ _ s1⟩
                    rw [hl, if_neg (fun z => hq z.2)]
              · rw [hrs] at z
                cases hk : Sf33.kindOf k with
                | none => rfl
                | some y =>
                  rw [(Gn.kindOf_some hk).1, sizes_some] at z
                  cases z
            · refine iteF' (decide_eq_false (by rw [S_is]; exact fun z => he ((sv_iff sg_is).mp z))) ⟨false, rfl, (fun z => nomatch z), fun _ => kX (gate_none h1 h2 (.inr (.inl he))) _ s1⟩
/-! ### told_by -/
theorem un {H : Hp} {a b : Addr} {o : HO} (e : upd H a o b = none) : H b = none := by
  unfold upd at e
  split at e
  · cases e
  · exact e
theorem scToldBy : FnScope ["text", "found", "line", "words"] ["text"] (defScope sToldBy) := ⟨rfl, rfl, rfl, by decide +kernel, rfl, by decide +kernel, by decide +kernel⟩
def spToldBy (K : PySem.W.Frag) (C CF : Addr) : Sp := fun vs H Q E => ∃ (a : Addr) (b : Bytes), vs = [.ref a] ∧ SqL K H a (b.map iv) ∧ b.length ≤ 65536 ∧
  (Gn.toldBy b = none → ∀ H', Same H H' → E (.ref CF) none H') ∧
  (∀ n, Gn.toldBy b = some n → ∀ (H' : Hp) (t li lo lg : Addr) (rs : List Addr), Same H H' → ToldAt C H' t li lo lg rs n → Q (.ref t) H')
theorem ok_toldBy {C CF f fI fT fL fW : Addr} {fd fdI fdT fdL fdW : FuncData} (F : Fun K "told_by" "told_by" sToldBy f fd) (T : TTold K mg C) (M : Mk K C fI)
    (GI : FnOk P w K mg base CX0 1 fI fdI ["self"] (spTInit C)) (bI : Binds K fdI ["self"] [])
    (GT : FnOk P w K mg base (L2.CX P w) 2 fT fdT ["self", "words"] (spTake C CF)) (mT : Meth K C "take" fT) (bT : Binds K fdT ["self", "words"] [])
    (GL : FnOk P w K mg base CX0 1 fL fdL ["text"] (spLines K)) (gL : mg "lines_of" = some (.ref fL)) (kL : PySem.W.keepIn K (.ref fL) = true) (bL : Binds K fdL ["text"] [])
    (GW : FnOk P w K mg base CX0 2 fW fdW ["line"] spWords) (gW : mg "words_of" = some (.ref fW)) (kW : PySem.W.keepIn K (.ref fW) = true) (bW : Binds K fdW ["line"] []) :
    FnOk P w K mg base (L2.CX P w) 3 f fd ["text"] (spToldBy K C CF) := by
  refine F.okX scToldBy (fun vs H Q E h => ?_) (fun cdv A outer s H vs Q E hr h => ⟨_,
      pss_cons (ps_set (i := 1) scToldBy.nd rfl (.inl rfl) (pe_make0 M GI hr rfl T.gC bI .nil pass0))
      (pss_cons (ps_for (passes_of rfl) rfl (pi_list (pe_call GL (hr.mono (by decide)) (by rfl) gL kL bL .nil pass0 (pa_cons (pv 0) pa_nil))) (pg_name (i := 2) scToldBy.nd rfl (.inl rfl))
        (pss_cons (ps_set (i := 3) scToldBy.nd rfl (.inl rfl) (pe_call GW hr (by rfl) gW kW bW .nil pass0 (pa_cons (pv 2) pa_nil)))
          (pss_one (ps_if (pt_cmpR (op_neD hr.units) (pv 3) (pe_lst pa_nil) (nomark _))
            (pss_one (ps_expr (pe_methS (pv 1) T.cl mT GT hr bT (fun σ => passAt (takes_of rfl rfl rfl rfl) σ) (by exact (pa_cons (pv 3) pa_nil))))) pss_nil))))
      (pss_one (ps_ret (pv 1)))), ?_⟩)
  · obtain ⟨a, b, rfl, _⟩ := h
    rfl
  · obtain ⟨a, b, rfl, hS, hb, kX, kS⟩ := h
    -- found = Told()
    intro t dx nt nd ne
    refine ⟨t, dx, rfl, upd_same, fun H1 li lo lg kp n1 n2 n3 T1 => ⟨rfl, ?_⟩⟩
    have s1 : Same H H1 := Same.made nt nd fun b o e n => kp b o e (by simpa using n)
    have n1 : H li = none := un (un n1)
    have n2 : H lo = none := un (un n2)
    have n3 : H lg = none := un (un n3)
    -- for line in lines_of(text)
    refine ⟨_, rfl, a, b, rfl, s1.seq hS, hb, fun H2 p ls s2 hp hll hpl np nls => ?_⟩
    have inT : ∀ q, H1 q = none → q ∉ [li, lo, lg] := fun q nq z => by
      rcases List.mem_cons.mp z with z | z
      · rw [z, T1.ins] at nq; cases nq
      · rcases List.mem_cons.mp z with z | z
        · rw [z, T1.outs] at nq; cases nq
        · rw [List.mem_singleton.mp z, T1.gat] at nq; cases nq
    have hlen : ls.length = (Gn.rows b).length := hll.length
    refine ⟨p, rfl, ⟨_, SqL.of hp⟩, for_list (K := K) (a := p) (xs := ls.map V.ref) (fun i σ H' => ∃ (v2 v3 : Option V) (n : Sf33.Net) (rs : List Addr),
        σ = [some (.ref a), some (.ref t), v2, v3] ∧ Gn.told Gn.empty (((Gn.rows b).take i).map Gn.words) = some n ∧ Same H H' ∧ ToldAt C H' t li lo lg rs n ∧ H' p = some (.lst (ls.map V.ref)) ∧ LL H' ls (Gn.rows b)) ?_ ?_ ?_ ?_⟩
    · exact ⟨none, none, Gn.empty, [], rfl, rfl, s1.trans s2, T1.same s2, hp, hll⟩
    · rintro i σ H' _ ⟨v2, v3, n, rs, _, _, _, _, h, _⟩
      exact SqL.of h
    · rintro i x σ H3 hx ⟨v2, v3, n, rs, rfl, hn, s3, T3, hp3, hll3⟩
      obtain ⟨r, hr', rfl⟩ := map_at hx
      obtain ⟨l, hl, hrl⟩ := paired_at hll3 hr'
      have hll' := Gn.rows_mem (List.mem_of_getElem? hl)
      have more : Gn.told Gn.empty (((Gn.rows b).take (i + 1)).map Gn.words) = Sf33.line n (Gn.words l) := by
        rw [take_more hl, List.map_append]
        show Gn.told Gn.empty (_ ++ [Gn.words l]) = _
        rw [Gn.told_snoc, hn, Option.bind_some]
      -- words = words_of(line)
      refine ⟨_, rfl, r, l, rfl, hrl, by omega, fun H4 wl s4 nwl hwl => ?_⟩
      have hz3 : ∀ q, H3 q = none → q ∉ [li, lo, lg] := fun q nq z => by
        rcases List.mem_cons.mp z with z | z
        · rw [z, T3.ins] at nq; cases nq
        · rcases List.mem_cons.mp z with z | z
          · rw [z, T3.outs] at nq; cases nq
          · rw [List.mem_singleton.mp z, T3.gat] at nq; cases nq
      refine ⟨_, rfl, Nat.zero_le _, fun e nE => ⟨_, _, .lst (SqL.of (by rw [upd_ne (ne_of_none hwl nE)]; exact hwl)) (data_words (Gn.words l)), .lst (SqL.of upd_same) .nil, shaped_words _, shaped_nil, _, rfl, ?_⟩⟩
      have s5 : Same H3 (upd H4 e (.lst [])) := s4.trans (same_upd nE)
      rw [eqv_nil]
      by_cases hw0 : Gn.words l = []
      · refine iteF' (by rw [decide_eq_true (by rw [hw0]; rfl)]; rfl) ?_
        refine ⟨some (.ref r), some (.ref wl), n, rs, rfl, ?_, s3.trans s5, T3.same s5, s5 _ _ hp3, hll3.same s5⟩
        rw [more, hw0]
        rfl
      · refine iteT' (by rw [decide_eq_false (fun z => hw0 (List.map_eq_nil_iff.mp z))]; rfl) ?_
        have T5 := T3.same s5
        obtain ⟨dx5, ht5⟩ := T5.at_
        have hsz : Gn.size n ≤ 65536 := by
          have := Gn.size_toldBy_take hn
          omega
        refine ⟨_, rfl, t, dx5, _, rfl, ht5, fT_take, _, rfl, t, wl, li, lo, lg, rs, n, Gn.words l, rfl, T5, (by rw [upd_ne (ne_of_none hwl nE)]; exact hwl), hw0, fun x hx => ⟨Gn.words_ne x hx, by have := Gn.words_mem hx; omega⟩, ?_, hsz, hz3 wl nwl, fun hN H' s' => kX ?_ _ ((s3.trans s5).trans s'), fun n' hN H' rs' k' T' => ?_⟩
        · have := Gn.words_length l
          omega
        · refine Gn.told_take_none (i := i + 1) ?_
          rw [← List.map_take, more, hN]
        · have o1 : ∀ q, H1 q = none → q ∉ [li, lo, lg] := inT
          refine ⟨some (.ref r), some (.ref wl), n', rs', rfl, by rw [more, hN], ?_, T', ?_, ?_⟩
          · intro q o hq
            refine k' q o (s5 _ _ (s3 _ _ hq)) fun z => ?_
            rcases List.mem_cons.mp z with z | z
            · rw [z, n1] at hq; cases hq
            · rcases List.mem_cons.mp z with z | z
              · rw [z, n2] at hq; cases hq
              · rw [List.mem_singleton.mp z, n3] at hq; cases hq
          · exact k' _ _ (s5 _ _ hp3) (inT p np)
          · exact (hll3.same s5).keep fun q hq o ho => k' _ _ ho (inT q (nls q hq))
    · rintro σ H3 ⟨v2, v3, n, rs, rfl, hn, s3, T3, hp3, hll3⟩
      rw [List.length_map, hlen, List.take_length] at hn
      exact ⟨_, rfl, kS n hn H3 t li lo lg rs s3 T3⟩
end
end Gw

/-! # Dicts by names; want_names; first_names -/
namespace Gw
open PySem PySem.Spec PyProof.Rows L2
open Sf33 (Bytes)
/-! ### dicts -/
abbrev KVs := List (Key × V)
def kn (x : Bytes) : Key := .inr (S x)
theorem kV_kn (x : Bytes) : kV (kn x) = sv x := rfl
/-- names with values -/
def nd (ws : List Bytes) (v : Bytes → V) : KVs := ws.map fun x => (kn x, v x)
theorem kn_inj {a b : Bytes} (h : kn a = kn b) (hb : Sf33.isName b = true) : a = b := S_inj (Sum.inr.inj h) hb
theorem nd_keys (ws : List Bytes) (v : Bytes → V) : (nd ws v).map (·.1) = ws.map kn := by
  unfold nd
  rw [List.map_map]
  rfl
theorem kn_nodup : ∀ {ws : List Bytes}, (∀ x ∈ ws, Sf33.isName x = true) → ((ws.map kn).Nodup ↔ ws.Nodup)
  | [], _ => by simp
  | x :: ws, h => by
    rw [List.map_cons, List.nodup_cons, List.nodup_cons, kn_nodup fun y hy => h y (List.mem_cons_of_mem _ hy)]
    have : kn x ∈ ws.map kn ↔ x ∈ ws := by
      constructor
      · intro z
        obtain ⟨y, hy, e⟩ := List.mem_map.mp z
        rw [kn_inj e (h x (List.mem_cons_self ..))] at hy
        exact hy
      · exact fun z => List.mem_map_of_mem z
    rw [this]
theorem valV_mem {kvs : KVs} {k : Key} : (valV kvs k).isSome = true ↔ k ∈ kvs.map (·.1) := by
  induction kvs with
  | nil => simp [valV]
  | cons p r ih =>
    by_cases e : p.1 = k
    · rw [valV_pos e]
      simp [e]
    · rw [valV_neg e, ih, List.map_cons, List.mem_cons]
      constructor
      · exact fun z => .inr z
      · rintro (z | z)
        · exact absurd z.symm e
        · exact z
theorem valV_none {kvs : KVs} {k : Key} (h : k ∉ kvs.map (·.1)) : valV kvs k = none := by
  cases q : valV kvs k with
  | none => rfl
  | some v => exact absurd (valV_mem.mp (by rw [q]; rfl)) h
/-- the first one of its name is found -/
theorem nd_get {ws : List Bytes} (hn : ∀ x ∈ ws, Sf33.isName x = true) (v : Bytes → V) {x : Bytes} (h : x ∈ ws) : valV (nd ws v) (kn x) = some (v x) := by
  unfold nd
  induction ws with
  | nil => cases h
  | cons y ws ih =>
    rw [List.map_cons]
    by_cases e : y = x
    · subst e
      exact valV_pos rfl
    · rw [valV_neg (p := (kn y, v y)) fun z => e (kn_inj z (hn x h))]
      exact ih (fun z hz => hn z (List.mem_cons_of_mem _ hz)) ((List.mem_cons.mp h).resolve_left fun z => e z.symm)
theorem nd_get' {ws : List Bytes} (v : Bytes → V) {x : Bytes} (hx : Sf33.isName x = true) (h : x ∈ ws) : valV (nd ws v) (kn x) = some (v x) := by
  unfold nd
  induction ws with
  | nil => cases h
  | cons y ws ih =>
    rw [List.map_cons]
    by_cases e : y = x
    · subst e
      exact valV_pos rfl
    · rw [valV_neg (p := (kn y, v y)) fun z => e (kn_inj z hx)]
      exact ih ((List.mem_cons.mp h).resolve_left fun z => e z.symm)
theorem nd_no {ws : List Bytes} (v : Bytes → V) {x : Bytes} (hn : ∀ y ∈ ws, Sf33.isName y = true) (h : x ∉ ws) : valV (nd ws v) (kn x) = none := by
  refine valV_none fun z => h ?_
  rw [nd_keys] at z
  obtain ⟨y, hy, e⟩ := List.mem_map.mp z
  rw [kn_inj e.symm (hn y hy)]
  exact hy
theorem putK_keys_old {kvs : KVs} {k : Key} {v : V} (h : k ∈ kvs.map (·.1)) : (putK kvs k v).map (·.1) = kvs.map (·.1) := by
  unfold putK
  rw [valV_any, if_pos (valV_mem.mpr h), List.map_map]
  refine List.map_congr_left fun p _ => ?_
  show (if p.1 = k then (p.1, v) else p).1 = p.1
  split <;> rfl
theorem putK_new' {kvs : KVs} {k : Key} {v : V} (h : k ∉ kvs.map (·.1)) : putK kvs k v = kvs ++ [(k, v)] := putK_new v (valV_none h)
theorem mergeK_cons (kvs : KVs) (p : Key × V) (l : KVs) : mergeK kvs (p :: l) = mergeK (putK kvs p.1 p.2) l := rfl
theorem putK_nodup {kvs : KVs} {k : Key} {v : V} (h : (kvs.map (·.1)).Nodup) : ((putK kvs k v).map (·.1)).Nodup := by
  by_cases c : k ∈ kvs.map (·.1)
  · rw [putK_keys_old c]; exact h
  · rw [putK_new' c, List.map_append]
    refine List.nodup_append.mpr ⟨h, by simp, ?_⟩
    intro a ha b hb e
    rw [List.map_singleton, List.mem_singleton] at hb
    subst hb
    subst e
    exact c ha
theorem putK_len_old {kvs : KVs} {k : Key} {v : V} (h : k ∈ kvs.map (·.1)) : (putK kvs k v).length = kvs.length := by
  have := congrArg List.length (putK_keys_old (v := v) h)
  rw [List.length_map, List.length_map] at this
  exact this
theorem mergeK_nodup : ∀ {l kvs : KVs}, (kvs.map (·.1) ++ l.map (·.1)).Nodup → mergeK kvs l = kvs ++ l
  | [], kvs, _ => by rw [List.append_nil]; rfl
  | p :: l, kvs, h => by
    have h1 := List.nodup_append.mp h
    have hn : p.1 ∉ kvs.map (·.1) := fun z => h1.2.2 p.1 z p.1 (by simp) rfl
    rw [mergeK_cons, putK_new' hn, mergeK_nodup, List.append_assoc]
    · rfl
    · rw [List.map_append, List.append_assoc]
      exact h
theorem mergeK_len_le : ∀ (l kvs : KVs), (mergeK kvs l).length ≤ kvs.length + l.length
  | [], kvs => Nat.le_refl _
  | p :: l, kvs => by
    rw [mergeK_cons, List.length_cons]
    have h1 := mergeK_len_le l (putK kvs p.1 p.2)
    have h2 : (putK kvs p.1 p.2).length ≤ kvs.length + 1 := by
      by_cases c : p.1 ∈ kvs.map (·.1)
      · rw [putK_len_old c]; omega
      · rw [putK_new' c, List.length_append]; exact Nat.le_refl _
    omega
theorem mergeK_len : ∀ {l kvs : KVs}, (kvs.map (·.1)).Nodup → ((mergeK kvs l).length = kvs.length + l.length ↔ (kvs.map (·.1) ++ l.map (·.1)).Nodup)
  | [], kvs, h => by
    rw [List.map_nil, List.append_nil]
    exact ⟨fun _ => h, fun _ => rfl⟩
  | p :: l, kvs, h => by
    rw [mergeK_cons, List.length_cons]
    by_cases c : p.1 ∈ kvs.map (·.1)
    · have h1 := mergeK_len_le l (putK kvs p.1 p.2)
      rw [putK_len_old c] at h1
      constructor
      · intro z; omega
      · intro z
        exact absurd rfl ((List.nodup_append.mp z).2.2 p.1 c p.1 (by simp))
    · have ih := mergeK_len (l := l) (putK_nodup (k := p.1) (v := p.2) h)
      rw [putK_new' c, List.map_append, List.append_assoc] at ih
      rw [putK_new' c]
      rw [show kvs.length + (l.length + 1) = (kvs ++ [(p.1, p.2)]).length + l.length by rw [List.length_append, List.length_singleton]; omega]
      exact ih
theorem mergeK_mem : ∀ {l kvs : KVs} {k : Key}, k ∈ (mergeK kvs l).map (·.1) ↔ k ∈ kvs.map (·.1) ∨ k ∈ l.map (·.1)
  | [], kvs, k => by
    show k ∈ kvs.map (·.1) ↔ _
    simp
  | p :: l, kvs, k => by
    rw [mergeK_cons, mergeK_mem]
    have : k ∈ (putK kvs p.1 p.2).map (·.1) ↔ k ∈ kvs.map (·.1) ∨ k = p.1 := by
      by_cases c : p.1 ∈ kvs.map (·.1)
      · rw [putK_keys_old c]
        exact ⟨fun z => .inl z, fun z => z.elim id fun z => by rw [z]; exact c⟩
      · rw [putK_new' c, List.map_append, List.mem_append, List.map_singleton, List.mem_singleton]
    rw [this, List.map_cons, List.mem_cons]
    constructor
    · rintro ((z | z) | z)
      · exact .inl z
      · exact .inr (.inl z)
      · exact .inr (.inr z)
    · rintro (z | z | z)
      · exact .inl (.inl z)
      · exact .inl (.inr z)
      · exact .inr z
/-! ### comprehensions of new tuples; of items told with the target as it is -/
section
variable {J : It} {xs : List V} {G : Hp → Prop} {Y : Nat → Hp → V → Hp → Prop} {g : TG} {te : TE} {vs : List Nat} {σ : L2.St} {H1 : Hp} {D : Addr} {Qd : Hp → Prop}
theorem lc_pairsW (w : Walk J xs.length G Y) (hY : ∀ (i : Nat) (H : Hp) (x : V) (H' : Hp), Y i H x H' → H' = H ∧ xs[i]? = some x) (zs : List (List V)) (hl : zs.length = xs.length) (hz : xs.length ≤ 1000000) (nD : H1 D = none) (hG : ∀ H, Same H1 H → G H)
    (hs : ∀ (i : Nat) (x : V) (z : List V) (H : Hp) (Q : VK) (R : Hp → Prop), xs[i]? = some x → zs[i]? = some z → Same H1 H → (∀ H' p, Same H H' → H p = none → H' p = some (.tup z) → Q (.ref p) H') →
      g x (wipe σ vs) H fun σ2 H2 => wipe σ2 vs = wipe σ vs ∧ tYes σ2 H2 fun b H3 => if b = true then te σ2 H3 Q else R H3)
    (hd : ∀ H' ps, Same H1 H' → H' D = some (.lst (ps.map V.ref)) → Paired (fun p z => H' p = some (.tup z)) ps zs → Qd H') :
    ∃ W : Nat → Nat → Hp → Prop, (∃ m, W 0 m (upd H1 D (.lst []))) ∧ ∀ i m H, W i m H →
      (J.stop i H ∧ Qd H) ∨ (J.go i H ∧ ∃ Nx : Hp → Prop, (∀ H', Nx H' → ∃ m', m' < m ∧ W (i + 1) m' H') ∧ ∀ x H', J.yld i H x H' → g x (wipe σ vs) H' fun σ2 H2 => wipe σ2 vs = wipe σ vs ∧ tYes σ2 H2 fun b H3 =>
        if b = true then te σ2 H3 fun y H4 => ∃ acc, H4 D = some (.lst acc) ∧ acc.length < sizeLine ∧ Nx (upd H4 D (.lst (acc ++ [y]))) else Nx H3) := by
  refine lc_it w (fun i H => Same H1 H ∧ ∃ ps, H D = some (.lst (ps.map V.ref)) ∧ Paired (fun p z => H p = some (.tup z)) ps (zs.take i)) ⟨same_upd nD, [], upd_same, .nil⟩ (fun i H _ h => hG H h.1) ?_ ?_
  · rintro i x H H' hi ⟨s1, ps, hD, hp⟩ y
    obtain ⟨rfl, hx⟩ := hY i H x H' y
    have hy : zs[i]? = some zs[i] := List.getElem?_eq_getElem (by omega)
    refine hs i x _ H' _ _ hx hy s1 fun H2 p s2 np hp2 => ⟨_, s2 _ _ hD, ?_, ?_, ?_⟩
    · rw [List.length_map, hp.length, List.length_take]
      exact line_lt (by omega)
    · exact same_upd' (s1.trans s2) nD
    · have neD : ∀ (q : Addr) (z : List V), H2 q = some (.tup z) → q ≠ D := fun q z e => ne_of e (s2 _ _ hD) (by intro z; cases z)
      refine ⟨ps ++ [p], ?_, ?_⟩
      · rw [upd_same, List.map_append]
        rfl
      · rw [List.take_add_one, hy]
        refine paired_snoc (Paired.mapP hp fun q z e => ?_) ?_
        · rw [upd_ne (neD q z (s2 _ _ e))]
          exact s2 _ _ e
        · rw [upd_ne (neD p _ hp2)]
          exact hp2
  · rintro H ⟨s1, ps, hD, hp⟩
    rw [← hl, List.take_length] at hp
    exact hd H ps s1 hD hp
theorem lc_mapT (w : Walk J xs.length G Y) (hY : ∀ (i : Nat) (H : Hp) (x : V) (H' : Hp), Y i H x H' → H' = H ∧ xs[i]? = some x) (ys : List V) (hl : ys.length = xs.length) (hz : xs.length ≤ 1000000) (nD : H1 D = none) (hG : ∀ H, Same H1 H → G H)
    (hs : ∀ (i : Nat) (x y : V) (H : Hp) (Q : VK) (R : Hp → Prop), xs[i]? = some x → ys[i]? = some y → Same H1 H → (∀ H', Same H H' → Q y H') →
      g x (wipe σ vs) H fun σ2 H2 => wipe σ2 vs = wipe σ vs ∧ tYes σ2 H2 fun b H3 => if b = true then te σ2 H3 Q else R H3)
    (hd : ∀ H', Same H1 H' → H' D = some (.lst ys) → Qd H') :
    ∃ W : Nat → Nat → Hp → Prop, (∃ m, W 0 m (upd H1 D (.lst []))) ∧ ∀ i m H, W i m H →
      (J.stop i H ∧ Qd H) ∨ (J.go i H ∧ ∃ Nx : Hp → Prop, (∀ H', Nx H' → ∃ m', m' < m ∧ W (i + 1) m' H') ∧ ∀ x H', J.yld i H x H' → g x (wipe σ vs) H' fun σ2 H2 => wipe σ2 vs = wipe σ vs ∧ tYes σ2 H2 fun b H3 =>
        if b = true then te σ2 H3 fun y H4 => ∃ acc, H4 D = some (.lst acc) ∧ acc.length < sizeLine ∧ Nx (upd H4 D (.lst (acc ++ [y]))) else Nx H3) := by
  refine lc_it w (fun i H => Same H1 H ∧ H D = some (.lst (ys.take i))) ⟨same_upd nD, upd_same⟩ (fun i H _ h => hG H h.1) ?_ ?_
  · rintro i x H H' hi ⟨s1, hD⟩ y
    obtain ⟨rfl, hx⟩ := hY i H x H' y
    have hy : ys[i]? = some ys[i] := List.getElem?_eq_getElem (by omega)
    refine hs i x _ H' _ _ hx hy s1 fun H2 s2 => ⟨_, s2 _ _ hD, ?_, ?_, ?_⟩
    · rw [List.length_take]
      exact line_lt (by omega)
    · exact same_upd' (s1.trans s2) nD
    · rw [upd_same, List.take_add_one, hy]
      rfl
  · rintro H ⟨s1, hD⟩
    rw [← hl, List.take_length] at hD
    exact hd H s1 hD
end
end Gw

/-! # want_names, first_names -/
namespace Gw
open PySem PySem.Spec PyProof.Rows L2
open Sf33 (Bytes)
section
variable {P : Program} {w : World} {K : PySem.W.Frag} {mg : Str → Option Value} {base : Heap}
/-- a gate in its place -/
theorem ga_at {H : Hp} {bad rs : List Addr} {gs : List Sf33.Gate} (g : GA H bad rs gs) {i : Nat} {p : Addr} (h : rs[i]? = some p) : ∃ x q, gs[i]? = some x ∧ H p = some (.tup [sv x.name, sv (Gn.kn x.kind), .ref q]) ∧ H q = some (.lst (x.from_.map sv)) := by
  obtain ⟨x, hx, _, q, h1, h2, _⟩ := paired_at g h
  exact ⟨x, q, hx, h1, h2⟩
theorem pairs_names {H : Hp} {ps : List Addr} {ws : List Bytes} {v : Bytes → V} (h : Paired (fun p z => H p = some (.tup z)) ps (ws.map fun x => [sv x, v x])) : Paired (fun p kv => SqT K H p [kV kv.1, kv.2]) ps (nd ws v) := by
  unfold nd
  induction ws generalizing ps with
  | nil => cases h; exact .nil
  | cons x ws ih =>
    cases h with
    | cons h t => exact .cons (SqT.of h) (ih t)
abbrev scIn : Scope := compScope (callArg (callArg (stExpr ((defBody sWantN).getD 5 (.Pass ⟨0, 0, 0, 0⟩)))))
theorem ar_le (k : Sf33.Kind) : Gn.ar k ≤ 3 := by cases k <;> simp [Gn.ar]
theorem scWantN : FnScope ["told", "names", "there", "gate", "name", "one", "kind", "some"] ["told"] (defScope sWantN) := ⟨rfl, rfl, rfl, by decide +kernel, rfl, by decide +kernel, by decide +kernel⟩
def spWantN (C CF : Addr) : Sp := fun vs H Q E => ∃ (t li lo lg : Addr) (rs : List Addr) (n : Sf33.Net), vs = [.ref t] ∧ ToldAt C H t li lo lg rs n ∧ Gn.Ok n ∧ Gn.size n ≤ 65536 ∧
  (¬ Gn.wants n → ∀ H', Same H H' → E (.ref CF) none H') ∧ (Gn.wants n → ∀ H', Same H H' → Q .non H')
theorem ok_wantN {C CF f fW : Addr} {fd fdW : FuncData} (F : Fun K "want_names" "want_names" sWantN f fd) (T : TTold K mg C) (gN : GInt mg "MOST_NAMES" 1024) (gI : GInt mg "MOST_INPUTS" 64) (gO : GInt mg "MOST_OUTPUTS" 64)
    (mL : mg "len" = none) (mA : mg "all" = none) (mD : mg "dict" = none)
    (GW : FnOk P w K mg base (L2.CX P w) 1 fW fdW ["truth"] (spWant CF)) (gW : mg "want" = some (.ref fW)) (kW : PySem.W.keepIn K (.ref fW) = true) (bW : Binds K fdW ["truth"] []) :
    FnOk P w K mg base (L2.CX P w) 2 f fd ["told"] (spWantN C CF) := by
  obtain ⟨tN, gN⟩ := gN
  obtain ⟨tI, gI⟩ := gI
  obtain ⟨tO, gO⟩ := gO
  refine F.okX scWantN (fun vs H Q E h => ?_) (fun cdv A outer s H vs Q E hr h => ⟨_,
      pss_cons (ps_set (i := 1) scWantN.nd rfl (.inl rfl) (pe_op op_cat (pe_fld (pv 0) rfl)
        (pe_lc (own := [("gate", 3)]) (g := gName 3) (tt := tYes) (te := tOp (rIxT K) (tVar 3) (tC (.int 0))) rfl scWantN.nd (pi_list (pe_fld (pv 0) rfl)) (blkOk_by (N := ["told", "names", "there", "gate", "name", "one", "kind", "some"]) (sc := defScope sWantN) (by decide +kernel)) (fun _ _ _ _ _ => pg_name (i := 3) scWantN.nd rfl (Or.inl rfl)) (fun _ _ _ _ _ => pts_nil)
          (fun _ _ _ _ _ => pe_ix ix_tup (pv 3) pe_int (fun _ _ => rfl)))))
      (pss_cons (ps_set (i := 2) scWantN.nd rfl (.inr rfl) (pe_callTy (call_dictP rfl) (by rfl) mD (by decide +kernel) (pa_cons
        (pe_lc (own := [("name", 4)]) (g := gName 4) (tt := tYes) rfl scWantN.nd (pi_list (pv 1)) (blkOk_by (N := ["told", "names", "there", "gate", "name", "one", "kind", "some"]) (sc := defScope sWantN) (by decide +kernel)) (fun _ _ _ _ _ => pg_name (i := 4) scWantN.nd rfl (Or.inl rfl)) (fun _ _ _ _ _ => pts_nil)
          (fun _ _ _ _ _ => pe_tup (pa_cons (pv 4) (pa_cons pe_bl pa_nil)))) pa_nil)))
      (pss_cons (ps_expr (pe_callS GW hr (by rfl) gW kW bW (fun σ => passAt (takes_of rfl rfl rfl rfl) σ) (pa_cons
        (pe_and (pe_cmpR op_eq (pe_callB call_lenD (by rfl) mL PySem.boot_len (pa_cons (pv 2) pa_nil)) (pe_callB call_len_seq (by rfl) mL PySem.boot_len (pa_cons (pv 1) pa_nil)) (nomark _))
          (pe_one (pe_cmpR op_le (pe_callB call_len_seq (by rfl) mL PySem.boot_len (pa_cons (pv 1) pa_nil)) (pe_glob (v := .int 1024) rfl gN ⟨_, rfl⟩) (nomark _)))) pa_nil)))
      (pss_cons (ps_expr (pe_callS GW hr (by rfl) gW kW bW (fun σ => passAt (takes_of rfl rfl rfl rfl) σ) (pa_cons
        (pe_and (pe_cmpR op_le (pe_callB call_len_seq (by rfl) mL PySem.boot_len (pa_cons (pe_fld (pv 0) rfl) pa_nil)) (pe_glob (v := .int 64) rfl gI ⟨_, rfl⟩) (nomark _))
          (pe_one (pe_cmpR op_le (pe_callB call_len_seq (by rfl) mL PySem.boot_len (pa_cons (pe_fld (pv 0) rfl) pa_nil)) (pe_glob (v := .int 64) rfl gO ⟨_, rfl⟩) (nomark _)))) pa_nil)))
      (pss_cons (ps_expr (pe_callS GW hr (by rfl) gW kW bW (fun σ => passAt (takes_of rfl rfl rfl rfl) σ) (pa_cons
        (pe_callB (cr_all rfl) (by rfl) mA (by decide +kernel) (pa_cons
          (pe_lc (own := [("name", 4)]) (g := gName 4) (tt := tYes) rfl scWantN.nd (pi_list (pe_fld (pv 0) rfl)) (blkOk_by (N := ["told", "names", "there", "gate", "name", "one", "kind", "some"]) (sc := defScope sWantN) (by decide +kernel)) (fun _ _ _ _ _ => pg_name (i := 4) scWantN.nd rfl (Or.inl rfl)) (fun _ _ _ _ _ => pts_nil)
            (fun _ _ _ _ _ => pe_cmp (pc_din (hu_of hr) (pv 4) (pv 2)) (by rfl))) pa_nil)) pa_nil)))
      (pss_one (ps_expr (pe_callS GW hr (by rfl) gW kW bW (fun σ => passAt (takes_of rfl rfl rfl rfl) σ) (pa_cons
        (pe_callB (cr_all rfl) (by rfl) mA (by decide +kernel) (pa_cons
          (pe_lc (own := [("name", 4), ("kind", 6), ("some", 7)]) (g := gTup K 3 (gCons (gName 4) (gCons (gName 6) (gCons (gName 7) gNil)))) (tt := tYes) (te := tCB (rAll K) (tCons (tLc (iList K (tVar 7)) (gName 5) tYes (tDIn (tVar 5) (tVar 2)) [5]) tNil)) rfl scWantN.nd (pi_list (pe_fld (pv 0) rfl)) (blkOk_by (N := ["told", "names", "there", "gate", "name", "one", "kind", "some"]) (sc := defScope sWantN) (by decide +kernel))
            (fun _ _ _ _ _ => pg_tup rfl (pgs_cons (pg_name (i := 4) scWantN.nd rfl (Or.inl rfl)) (pgs_cons (pg_name (i := 6) scWantN.nd rfl (Or.inl rfl)) (pgs_cons (pg_name (i := 7) scWantN.nd rfl (Or.inl rfl)) pgs_nil)))) (fun _ _ _ _ _ => pts_nil)
            (fun _ _ _ _ _ => by exact pe_callB (cr_all rfl) (by rfl) mA boot_all0 (pa_cons
              (pe_lc (own := [("one", 5)]) (g := gName 5) (tt := tYes) rfl scWantN.nd (pi_list (pv 7)) (blkOk_by (N := ["told", "names", "there", "gate", "name", "one", "kind", "some"]) (sc := relS scIn (defScope sWantN)) (by decide +kernel)) (fun _ _ _ _ _ => pg_name (i := 5) scWantN.nd rfl (Or.inl rfl)) (fun _ _ _ _ _ => pts_nil)
                (fun _ _ _ _ _ => pe_cmp (pc_din (hu_of hr) (pv 5) (pv 2)) (by rfl))) pa_nil))) pa_nil)) pa_nil)))))))), ?_⟩)
  · obtain ⟨t, li, lo, lg, rs, n, rfl, _⟩ := h
    rfl
  · obtain ⟨t, li, lo, lg, rs, n, rfl, hT, ok, hsz, kX, kS⟩ := h
    obtain ⟨dx, ht⟩ := hT.at_
    have hrl : rs.length = n.gates.length := hT.ga.length
    have hsz' : n.ins.length + n.outs.length + n.gates.length ≤ 65536 := hsz
    have okn : ∀ x ∈ n.names, Sf33.isName x = true := fun x hx => by
      rcases List.mem_append.mp hx with hx | hx
      · exact ok.ins x hx
      · obtain ⟨g, hg, e⟩ := List.mem_map.mp hx
        rw [← e]; exact ok.name g hg
    have hnl0 : n.names.length = n.ins.length + n.gates.length := by
      show (n.ins ++ n.gates.map fun g => g.name).length = _
      rw [List.length_append, List.length_map]
    -- names = told.inputs + [gate[0] for gate in told.gates]
    refine ⟨_, rfl, t, C, dx, _, _, rfl, ht, T.cl, T.nI, fT_in, _, rfl, t, C, dx, _, _, rfl, ht, T.cl, T.nG, fT_gat, lg, rfl, ⟨_, SqL.of hT.gat⟩, fun D nD => ?_⟩
    refine lc_mapW (xs := rs.map V.ref) walk_list yAt (n.gates.map fun g => sv g.name) (by rw [List.length_map, List.length_map, hrl]) (by rw [List.length_map]; omega) nD (fun H s => SqL.of (s _ _ hT.gat)) ?_ gName_mono ?_
    · intro i v u H1 Q1 hv hu s1 hq
      obtain ⟨p, hp, rfl⟩ := map_at hv
      obtain ⟨g, q, hg, h1, h2⟩ := ga_at (hT.ga.same s1) hp
      obtain ⟨g', hg', rfl⟩ := map_at hu
      rw [hg] at hg'
      cases hg'
      exact ⟨rfl, _, rfl, p, _, 0, _, rfl, rfl, SqT.of h1, at_nat (j := 0) rfl rfl, hq _ (Same.refl _)⟩
    · intro H2 s2 hD
      refine ⟨li, D, _, _, rfl, rfl, s2 _ _ hT.ins, hD, (by rw [List.length_map, List.length_map]; exact line_of (by omega)), fun nl nnl => ?_⟩
      have en : n.ins.map sv ++ n.gates.map (fun g => sv g.name) = n.names.map sv := by
        show _ = (n.ins ++ n.gates.map fun g => g.name).map sv
        rw [List.map_append, List.map_map]
        rfl
      rw [en]
      have s3 : Same H (upd H2 nl (.lst (n.names.map sv))) := s2.trans (same_upd nnl)
      generalize hH3 : upd H2 nl (.lst (n.names.map sv)) = H3 at *
      have hnl : H3 nl = some (.lst (n.names.map sv)) := by rw [← hH3]; exact upd_same
      -- there = dict([(name, True) for name in names])
      refine ⟨_, rfl, nl, rfl, ⟨_, SqL.of hnl⟩, fun D2 nD2 => ?_⟩
      refine lc_pairsW (xs := n.names.map sv) walk_list yAt (n.names.map fun x => [sv x, V.bl true]) (by rw [List.length_map, List.length_map]) (by rw [List.length_map]; omega) nD2 (fun H s => SqL.of (s _ _ hnl)) ?_ ?_
      · intro i v z H4 Q1 R1 hv hz s4 hq
        obtain ⟨x, hx, rfl⟩ := map_at hv
        obtain ⟨x', hx', rfl⟩ := map_at hz
        rw [hx] at hx'
        cases hx'
        exact ⟨rfl, yesT ⟨_, rfl, (by show 2 ≤ sizeLine; exact line_of (by decide)), fun p np => hq _ p (same_upd np) np upd_same⟩⟩
      · intro H4 ps s4 hD2 hp
        refine ⟨D2, ps, nd n.names (fun _ => V.bl true), rfl, SqL.of hD2, pairs_names hp, fun th nth => ?_⟩
        have s5 : Same H3 (upd H4 th (.dK (mergeK [] (nd n.names fun _ => V.bl true)))) := s4.trans (same_upd nth)
        have hM : ∀ x, Sf33.isName x = true → (valV (mergeK [] (nd n.names fun _ => V.bl true)) (kn x)).isSome = decide (x ∈ n.names) := fun x hx => by
          rw [Bool.eq_iff_iff, valV_mem, mergeK_mem, nd_keys, decide_eq_true_eq]
          constructor
          · rintro (z | z)
            · cases z
            · obtain ⟨y, hy, e⟩ := List.mem_map.mp z
              rw [← kn_inj e hx]; exact hy
          · exact fun z => .inr (List.mem_map_of_mem z)
        have hML : (mergeK [] (nd n.names fun _ => V.bl true)).length = n.names.length ↔ n.names.Nodup := by
          have h1 := mergeK_len (l := nd n.names fun _ => V.bl true) (kvs := []) (by simp)
          rw [List.map_nil, List.nil_append, nd_keys, kn_nodup okn] at h1
          rw [← h1]
          unfold nd
          rw [List.length_nil, List.length_map, Nat.zero_add]
        generalize mergeK [] (nd n.names fun _ => V.bl true) = M at *
        generalize hH5 : upd H4 th (.dK M) = H5 at *
        have hth : H5 th = some (.dK M) := by rw [← hH5]; exact upd_same
        have s6 : Same H H5 := s3.trans s5
        have hnl5 := s5 _ _ hnl
        have T5 := hT.same s6
        obtain ⟨dx5, ht5⟩ := T5.at_
        -- want(len(there) == len(names) and len(names) <= MOST_NAMES)
        refine ⟨_, rfl, th, M, rfl, hth, _, rfl, nl, _, rfl, .inl (SqL.of hnl5), rfl, _, rfl, ?_⟩
        by_cases c1 : n.names.Nodup
        · refine iteT' (decide_eq_true (congrArg (fun k : Nat => V.int (k : Int)) (by rw [List.length_map]; exact hML.mpr c1))) ?_
          refine ⟨_, rfl, nl, _, rfl, .inl (SqL.of hnl5), _, _, rfl, rfl, _, rfl, fun e => ?_, fun e => kX (fun z => ?_) _ s6⟩
          · have c2 : n.names.length ≤ 1024 := by
              have := of_decide_eq_true e
              rw [List.length_map] at this
              omega
            -- want(len(told.inputs) <= MOST_INPUTS and len(told.outputs) <= MOST_OUTPUTS)
            refine ⟨_, rfl, t, C, dx5, _, _, rfl, ht5, T.cl, T.nI, fT_in, li, _, rfl, .inl (SqL.of T5.ins), _, _, rfl, rfl, _, rfl, ?_⟩
            by_cases c3 : n.ins.length ≤ 64
            · refine iteT' (decide_eq_true (by rw [List.length_map]; omega)) ?_
              refine ⟨_, rfl, t, C, dx5, _, _, rfl, ht5, T.cl, T.nO, fT_out, lo, _, rfl, .inl (SqL.of T5.outs), _, _, rfl, rfl, _, rfl, fun e => ?_, fun e => kX (fun z => ?_) _ s6⟩
              · have c4 : n.outs.length ≤ 64 := by
                  have := of_decide_eq_true e
                  rw [List.length_map] at this
                  omega
                -- want(all([name in there for name in told.outputs]))
                refine ⟨_, rfl, t, C, dx5, _, _, rfl, ht5, T.cl, T.nO, fT_out, lo, rfl, ⟨_, SqL.of T5.outs⟩, fun D3 nD3 => ?_⟩
                refine lc_mapW (xs := n.outs.map sv) walk_list yAt ((n.outs.map fun x => decide (x ∈ n.names)).map V.bl) (by simp) (by rw [List.length_map]; omega) nD3 (fun H s => SqL.of (s _ _ T5.outs)) ?_ gName_mono ?_
                · intro i v u H6 Q1 hv hu s7 hq
                  obtain ⟨x, hx, rfl⟩ := map_at hv
                  obtain ⟨b, hb, rfl⟩ := map_at hu
                  obtain ⟨x', hx', rfl⟩ := map_at hb
                  rw [hx] at hx'
                  cases hx'
                  refine ⟨rfl, _, rfl, _, rfl, th, _, rfl, DGet.k (k := kn x) (s7 _ _ hth), ?_⟩
                  rw [hM x (ok.outs x (List.mem_of_getElem? hx))]
                  exact hq _ (Same.refl _)
                · intro H6 s7 hD3
                  have s8 := s6.trans s7
                  refine ⟨D3, _, rfl, SqL.of hD3, _, rfl, fun e => ?_, fun e => kX (fun z => ?_) _ s8⟩
                  · have c5 : ∀ x ∈ n.outs, x ∈ n.names := fun x hx => by
                      rw [List.all_map, List.all_eq_true] at e
                      exact of_decide_eq_true (e x hx)
                    have T6 := T5.same s7
                    obtain ⟨dx6, ht6⟩ := T6.at_
                    have hth6 := s7 _ _ hth
                    -- want(all([all([one in there for one in some]) for name, kind, some in told.gates]))
                    refine ⟨_, rfl, t, C, dx6, _, _, rfl, ht6, T.cl, T.nG, fT_gat, lg, rfl, ⟨_, SqL.of T6.gat⟩, fun D4 nD4 => ?_⟩
                    refine lc_mapT (xs := rs.map V.ref) walk_list yAt ((n.gates.map fun g => g.from_.all fun x => decide (x ∈ n.names)).map V.bl) (by simp [hrl]) (by rw [List.length_map]; omega) nD4 (fun H s => SqL.of (s _ _ T6.gat)) ?_ ?_
                    · intro i v u H7 Q1 R1 hv hu s9 hq
                      obtain ⟨p, hp, rfl⟩ := map_at hv
                      obtain ⟨g, q, hg, h1, h2⟩ := ga_at (T6.ga.same s9) hp
                      obtain ⟨b, hb, rfl⟩ := map_at hu
                      obtain ⟨g', hg', rfl⟩ := map_at hb
                      rw [hg] at hg'
                      cases hg'
                      have hgm := List.mem_of_getElem? hg
                      refine ⟨p, _, rfl, SqT.of h1, rfl, _, _, rfl, _, _, rfl, _, _, rfl, rfl, rfl, yesT ?_⟩
                      refine ⟨_, rfl, q, rfl, ⟨_, SqL.of h2⟩, fun D5 nD5 => ?_⟩
                      refine lc_mapW (xs := g.from_.map sv) walk_list yAt ((g.from_.map fun x => decide (x ∈ n.names)).map V.bl) (by simp) (by
                        rw [List.length_map, ok.ar g hgm]
                        have := ar_le g.kind
                        omega) nD5 (fun H s => SqL.of (s _ _ h2)) ?_ gName_mono ?_
                      · intro i v u H8 Q2 hv hu s10 hq2
                        obtain ⟨x, hx, rfl⟩ := map_at hv
                        obtain ⟨b, hb, rfl⟩ := map_at hu
                        obtain ⟨x', hx', rfl⟩ := map_at hb
                        rw [hx] at hx'
                        cases hx'
                        refine ⟨rfl, _, rfl, _, rfl, th, _, rfl, DGet.k (k := kn x) (s10 _ _ (s9 _ _ hth6)), ?_⟩
                        rw [hM x (ok.from_ g hgm x (List.mem_of_getElem? hx))]
                        exact hq2 _ (Same.refl _)
                      · intro H8 s10 hD5
                        refine ⟨D5, _, rfl, SqL.of hD5, ?_⟩
                        rw [List.all_map]
                        exact hq _ s10
                    · intro H7 s9 hD4
                      have s11 := s8.trans s9
                      refine ⟨D4, _, rfl, SqL.of hD4, _, rfl, fun e => kS ⟨c1, c2, c3, c4, c5, ?_⟩ _ s11, fun e => kX (fun z => ?_) _ s11⟩
                      · intro g hg x hx
                        rw [List.all_map, List.all_eq_true] at e
                        exact of_decide_eq_true (List.all_eq_true.mp (e g hg) x hx)
                      · have : ((n.gates.map fun g => g.from_.all fun x => decide (x ∈ n.names)).all id) = true := by
                          rw [List.all_map, List.all_eq_true]
                          exact fun g hg => List.all_eq_true.mpr fun x hx => decide_eq_true (z.2.2.2.2.2 g hg x hx)
                        rw [this] at e
                        cases e
                  · have : ((n.outs.map fun x => decide (x ∈ n.names)).all id) = true := by
                      rw [List.all_map, List.all_eq_true]
                      exact fun x hx => decide_eq_true (z.2.2.2.2.1 x hx)
                    rw [this] at e
                    cases e
              · have := of_decide_eq_false e
                rw [List.length_map] at this
                have := z.2.2.2.1
                omega
            · refine iteF' (decide_eq_false (by rw [List.length_map]; omega)) ⟨false, rfl, (fun e => nomatch e), fun _ => kX (fun z => c3 z.2.2.1) _ s6⟩
          · have := of_decide_eq_false e
            rw [List.length_map] at this
            have := z.2.1
            omega
        · refine iteF' (decide_eq_false fun z => c1 (hML.mp ?_)) ⟨false, rfl, (fun e => nomatch e), fun _ => kX (fun z => c1 z.1) _ s6⟩
          have := V.int.inj z
          rw [List.length_map] at this
          omega
end
end Gw

/-! # Net.first_names; who takes a name -/
namespace Gw
open PySem PySem.Spec PyProof.Rows L2
open Sf33 (Bytes)
theorem nd_append (a b : List Bytes) (v : Bytes → V) : nd (a ++ b) v = nd a v ++ nd b v := by
  unfold nd
  rw [List.map_append]
theorem nd_congr {ws : List Bytes} {v u : Bytes → V} (h : ∀ x ∈ ws, v x = u x) : nd ws v = nd ws u := List.map_congr_left fun x hx => by rw [h x hx]
theorem nd_length (ws : List Bytes) (v : Bytes → V) : (nd ws v).length = ws.length := List.length_map _
theorem nd_merge {ws : List Bytes} (v : Bytes → V) (hn : ∀ x ∈ ws, Sf33.isName x = true) (h : ws.Nodup) : mergeK [] (nd ws v) = nd ws v := by
  rw [mergeK_nodup (by rw [List.map_nil, List.nil_append, nd_keys]; exact (kn_nodup hn).mpr h), List.nil_append]
theorem nd_new {ws : List Bytes} {v : Bytes → V} {x : Bytes} (hn : ∀ y ∈ ws, Sf33.isName y = true) (h : x ∉ ws) (y : V) : putK (nd ws v) (kn x) y = nd ws v ++ [(kn x, y)] := by
  refine putK_new' fun z => h ?_
  rw [nd_keys] at z
  obtain ⟨u, hu, e⟩ := List.mem_map.mp z
  rw [kn_inj e.symm (hn u hu)]
  exact hu
/-- one value is stored at a name that's there -/
theorem nd_put {ws : List Bytes} {v : Bytes → V} {x : Bytes} (hx : Sf33.isName x = true) (h : x ∈ ws) (y : V) : putK (nd ws v) (kn x) y = nd ws fun z => if z = x then y else v z := by
  have hm : kn x ∈ (nd ws v).map (·.1) := by rw [nd_keys]; exact List.mem_map_of_mem h
  unfold putK
  rw [valV_any, if_pos (valV_mem.mpr hm)]
  unfold nd
  rw [List.map_map]
  refine List.map_congr_left fun z _ => ?_
  show (if kn z = kn x then (kn z, y) else (kn z, v z)) = (kn z, if z = x then y else v z)
  by_cases e : z = x
  · rw [if_pos (by rw [e]), if_pos e]
  · rw [if_neg fun q => e (kn_inj q hx), if_neg e]
section
variable {P : Program} {w : World} {K : PySem.W.Frag} {mg : Str → Option Value} {base : Heap}
/-- what the top has written of Net -/
structure TNet (K : PySem.W.Frag) (mg : Str → Option Value) (C : Addr) : Prop where
  cl : Cls K C
  gC : mg "Net" = some (.ref C)
  nI : NoAttr K C "inputs"
  nO : NoAttr K C "outputs"
  nR : NoAttr K C "registers"
  nG : NoAttr K C "gates"
theorem scFirst : FnScope ["self", "found", "gate", "name"] ["self"] (defScope sFirst) := ⟨rfl, rfl, rfl, by decide +kernel, rfl, by decide +kernel, by decide +kernel⟩
def spFirst (C : Addr) : Sp := fun vs H Q _ => ∃ (t dx li lr : Addr) (fs : List (Str × V)) (rr : List Addr) (ws : List Bytes) (gs : List Sf33.Gate), vs = [.ref t] ∧ H t = some (.ins C dx fs) ∧
  fs.lookup ("inputs" : Str) = some (.ref li) ∧ fs.lookup ("registers" : Str) = some (.ref lr) ∧ H li = some (.lst (ws.map sv)) ∧ H lr = some (.lst (rr.map V.ref)) ∧ GA H [] rr gs ∧
  (ws ++ gs.map fun g => g.name).Nodup ∧ (∀ x ∈ ws ++ gs.map fun g => g.name, Sf33.isName x = true) ∧ (ws ++ gs.map fun g => g.name).length ≤ 1024 ∧
  ∀ (H' : Hp) (p : Addr), Same H H' → H p = none → H' p = some (.dK (nd (ws ++ gs.map fun g => g.name) fun _ => .bl true)) → Q (.ref p) H'
theorem ok_first {C f : Addr} {fd : FuncData} (F : Fun K "first_names" "Net.first_names" sFirst f fd) (T : TNet K mg C) (mD : mg "dict" = none) : FnOk P w K mg base CX0 1 f fd ["self"] (spFirst C) := by
  refine F.ok scFirst (fun vs H Q E h => ?_) (fun cdv A outer s H vs Q E hr h => ⟨_,
      pss_cons (ps_set (i := 1) scFirst.nd rfl (.inl rfl) (pe_callTy (call_dictP rfl) (by rfl) mD boot_dict0 (pa_cons
        (pe_lc (own := [("name", 3)]) (g := gName 3) (tt := tYes) rfl scFirst.nd (pi_list (pe_fld (pv 0) rfl)) (blkOk_by (N := ["self", "found", "gate", "name"]) (sc := defScope sFirst) (by decide +kernel)) (fun _ _ _ _ _ => pg_name (i := 3) scFirst.nd rfl (Or.inl rfl)) (fun _ _ _ _ _ => pts_nil)
          (fun _ _ _ _ _ => pe_tup (pa_cons (pv 3) (pa_cons pe_bl pa_nil)))) pa_nil)))
      (pss_cons (ps_for PassesOwn.never rfl (pi_list (pe_fld (pv 0) rfl)) (pg_name (i := 2) scFirst.nd rfl (.inl rfl))
        (pss_one (ps_dput (hu_of hr) (pv 1) (pe_ix ix_tup (pv 2) pe_int (fun _ _ => rfl)) pe_bl rfl)))
      (pss_one (ps_ret (pv 1)))), ?_⟩)
  · obtain ⟨t, dx, li, lr, fs, rr, ws, gs, rfl, _⟩ := h
    rfl
  · obtain ⟨t, dx, li, lr, fs, rr, ws, gs, rfl, ht, fI, fR, hli, hlr, hG, hnd, hnm, hlen, q⟩ := h
    have hl1 : ws.length + gs.length ≤ 1024 := by rw [List.length_append, List.length_map] at hlen; exact hlen
    have hrr : rr.length = gs.length := hG.length
    refine ⟨_, rfl, t, C, dx, _, _, rfl, ht, T.cl, T.nI, fI, li, rfl, ⟨_, SqL.of hli⟩, fun D nD => ?_⟩
    refine lc_pairsW (xs := ws.map sv) walk_list yAt (ws.map fun x => [sv x, V.bl true]) (by rw [List.length_map, List.length_map]) (by rw [List.length_map]; omega) nD (fun H s => SqL.of (s _ _ hli)) ?_ ?_
    · intro i v z H4 Q1 R1 hv hz s4 hq
      obtain ⟨x, hx, rfl⟩ := map_at hv
      obtain ⟨x', hx', rfl⟩ := map_at hz
      rw [hx] at hx'
      cases hx'
      exact ⟨rfl, yesT ⟨_, rfl, (by show 2 ≤ sizeLine; exact line_of (by decide)), fun p np => hq _ p (same_upd np) np upd_same⟩⟩
    · intro H1 ps s1 hD hp
      refine ⟨D, ps, nd ws (fun _ => V.bl true), rfl, SqL.of hD, pairs_names hp, fun fo nfo => ?_⟩
      rw [nd_merge _ (fun x hx => hnm x (List.mem_append_left _ hx)) (Gn.nodup_append_left hnd)]
      have s2 : Same H (upd H1 fo (.dK (nd ws fun _ => V.bl true))) := s1.trans (same_upd nfo)
      have nfo0 : H fo = none := s1.free nfo
      refine ⟨_, rfl, t, C, dx, _, _, rfl, s2 _ _ ht, T.cl, T.nR, fR, lr, rfl, ⟨_, SqL.of (s2 _ _ hlr)⟩, for_list (K := K) (a := lr) (xs := rr.map V.ref) (fun i σ H' => ∃ v : Option V,
          σ = [some (.ref t), some (.ref fo), v, none] ∧ Same H H' ∧ H' fo = some (.dK (nd (ws ++ (gs.take i).map fun g => g.name) fun _ => .bl true))) ?_ ?_ ?_ ?_⟩
      · exact ⟨none, rfl, s2, (by rw [upd_same]; simp)⟩
      · rintro i σ H' _ ⟨v, _, s3, _⟩
        exact SqL.of (s3 _ _ hlr)
      · rintro i x σ H' hx ⟨v, rfl, s3, hfo⟩
        obtain ⟨p, hp', rfl⟩ := map_at hx
        obtain ⟨g, q', hg, h1, h2⟩ := ga_at (hG.same s3) hp'
        refine ⟨_, rfl, _, rfl, p, _, 0, _, rfl, rfl, SqT.of h1, at_nat (j := 0) rfl rfl, fo, _, rfl, DPut.k (k := kn g.name) hfo ?_, some (.ref p), rfl, same_upd' s3 nfo0, ?_⟩
        · rw [nd_length, List.length_append, List.length_map, List.length_take]
          exact line_lt (by omega)
        · have hnx : g.name ∉ ws ++ (gs.take i).map fun g => g.name := by
            have h3 := hnd
            rw [← List.take_append_drop i gs, List.map_append, ← List.append_assoc] at h3
            have h4 : g.name ∈ (gs.drop i).map fun g => g.name := List.mem_map_of_mem (List.mem_of_getElem? (i := 0) (by rw [List.getElem?_drop, Nat.add_zero]; exact hg))
            exact fun z => (List.nodup_append.mp h3).2.2 _ z _ h4 rfl
          rw [upd_same, nd_new (fun y hy => hnm y ?_) hnx, take_more hg, List.map_append, ← List.append_assoc, nd_append (ws ++ (gs.take i).map fun g => g.name)]
          · rfl
          · rcases List.mem_append.mp hy with hy | hy
            · exact List.mem_append_left _ hy
            · refine List.mem_append_right _ ?_
              obtain ⟨z, hz, e⟩ := List.mem_map.mp hy
              exact List.mem_map.mpr ⟨z, List.mem_of_mem_take hz, e⟩
      · rintro σ H' ⟨v, rfl, s3, hfo⟩
        rw [List.length_map, hrr, List.take_length] at hfo
        exact ⟨_, rfl, q H' fo s3 nfo0 hfo⟩
end
/-! ### who takes a name -/
/-- of pairs of what's taken and who takes it, who takes d -/
def Tk (ps : List (Bytes × Bytes)) (d : Bytes) : List Bytes := (ps.filter fun p => decide (p.1 = d)).map (·.2)
theorem Tk_snoc (ps : List (Bytes × Bytes)) (a b d : Bytes) : Tk (ps ++ [(a, b)]) d = if a = d then Tk ps d ++ [b] else Tk ps d := by
  unfold Tk
  rw [List.filter_append, List.map_append, List.filter_cons]
  by_cases e : a = d
  · rw [if_pos (decide_eq_true e), if_pos e]
    rfl
  · rw [if_neg (by simpa using e), if_neg e]
    simp
def pairsG (kws : List Bytes) (nm : Bytes) (l : List Bytes) : List (Bytes × Bytes) := (l.filter fun d => decide (d ∉ kws)).map fun d => (d, nm)
def pairs (kws : List Bytes) (gs : List Sf33.Gate) : List (Bytes × Bytes) := gs.flatMap fun g => pairsG kws g.name g.from_
theorem Tk_append (a b : List (Bytes × Bytes)) (d : Bytes) : Tk (a ++ b) d = Tk a d ++ Tk b d := by
  unfold Tk
  rw [List.filter_append, List.map_append]
theorem Tk_pairsG {kws : List Bytes} {nm d : Bytes} (hd : d ∉ kws) : ∀ l : List Bytes, Tk (pairsG kws nm l) d = (l.filter fun x => decide (x = d)).map fun _ => nm
  | [] => rfl
  | x :: l => by
    have ih := Tk_pairsG (nm := nm) hd l
    unfold pairsG at ih ⊢
    rw [List.filter_cons, List.filter_cons]
    by_cases e : x = d
    · subst e
      rw [if_pos (decide_eq_true hd), if_pos (decide_eq_true rfl), List.map_cons, List.map_cons]
      unfold Tk at ih ⊢
      rw [List.filter_cons, if_pos (decide_eq_true rfl), List.map_cons, ih]
    · rw [if_neg (show ¬ decide (x = d) = true by simpa using e)]
      by_cases c : x ∉ kws
      · rw [if_pos (decide_eq_true c), List.map_cons]
        unfold Tk at ih ⊢
        rw [List.filter_cons, if_neg (by simpa using e), ih]
      · rw [if_neg (by simpa using c), ih]
theorem Tk_pairs {kws : List Bytes} {d : Bytes} (hd : d ∉ kws) : ∀ gs : List Sf33.Gate, Tk (pairs kws gs) d = Gn.tk gs d
  | [] => rfl
  | g :: gs => by
    have ih := Tk_pairs hd gs
    unfold pairs at ih ⊢
    rw [List.flatMap_cons, Tk_append, Tk_pairsG hd, ih]
    rfl
theorem pairs_snoc (kws : List Bytes) (gs : List Sf33.Gate) (g : Sf33.Gate) : pairs kws (gs ++ [g]) = pairs kws gs ++ pairsG kws g.name g.from_ := by
  unfold pairs
  rw [List.flatMap_append]
  simp
theorem pairsG_snoc (kws : List Bytes) (nm : Bytes) (l : List Bytes) (x : Bytes) : pairsG kws nm (l ++ [x]) = if x ∈ kws then pairsG kws nm l else pairsG kws nm l ++ [(x, nm)] := by
  unfold pairsG
  rw [List.filter_append, List.map_append, List.filter_cons]
  by_cases c : x ∈ kws
  · rw [if_neg (by simpa using c), if_pos c]
    simp
  · rw [if_pos (decide_eq_true c), if_neg c]
    rfl
theorem pairsG_length (kws : List Bytes) (nm : Bytes) (l : List Bytes) : (pairsG kws nm l).length ≤ l.length := by
  unfold pairsG
  rw [List.length_map]
  exact List.length_filter_le _ _
theorem pairs_length {kws : List Bytes} : ∀ {gs : List Sf33.Gate}, (∀ g ∈ gs, g.from_.length ≤ 3) → (pairs kws gs).length ≤ 3 * gs.length
  | [], _ => Nat.le_refl _
  | g :: gs, h => by
    have ih := pairs_length (kws := kws) fun x hx => h x (List.mem_cons_of_mem _ hx)
    unfold pairs at ih ⊢
    rw [List.flatMap_cons, List.length_append, List.length_cons]
    have h1 := pairsG_length kws g.name g.from_
    have h2 := h g (List.mem_cons_self ..)
    omega
theorem Tk_length (ps : List (Bytes × Bytes)) (d : Bytes) : (Tk ps d).length ≤ ps.length := by
  unfold Tk
  rw [List.length_map]
  exact List.length_filter_le _ _
/-- the dict takers, its lists; H0: nothing of those was there -/
def TkAt (H0 H : Hp) (tk : Addr) (ps : List (Bytes × Bytes)) : Prop := ∃ kvs : KVs, H tk = some (.dK kvs) ∧ kvs.length ≤ ps.length ∧
  (∀ d, Sf33.isName d = true → Tk ps d = [] → valV kvs (kn d) = none) ∧
  (∀ d, Sf33.isName d = true → Tk ps d ≠ [] → ∃ q, valV kvs (kn d) = some (.ref q) ∧ H q = some (.lst ((Tk ps d).map sv)) ∧ H0 q = none) ∧
  ∀ d e q, Sf33.isName d = true → Sf33.isName e = true → valV kvs (kn d) = some (.ref q) → valV kvs (kn e) = some (.ref q) → d = e
theorem TkAt.keep {H0 H H' : Hp} {tk : Addr} {ps : List (Bytes × Bytes)} (t : TkAt H0 H tk ps) (s : Same H H') : TkAt H0 H' tk ps := by
  obtain ⟨kvs, h1, h2, h3, h4, h5⟩ := t
  refine ⟨kvs, s _ _ h1, h2, h3, fun d hd hne => ?_, h5⟩
  obtain ⟨q, q1, q2, q3⟩ := h4 d hd hne
  exact ⟨q, q1, s _ _ q2, q3⟩
/-- .. where one thing that is no list of it is changed -/
theorem TkAt.put {H0 H : Hp} {tk p : Addr} {ps : List (Bytes × Bytes)} {u o : HO} (t : TkAt H0 H tk ps) (h : H p = some u) (hd : ∀ xs, u ≠ .lst xs) (ht : p ≠ tk) : TkAt H0 (upd H p o) tk ps := by
  obtain ⟨kvs, h1, h2, h3, h4, h5⟩ := t
  refine ⟨kvs, by rw [upd_ne ht.symm]; exact h1, h2, h3, fun d hd' hne => ?_, h5⟩
  obtain ⟨q, q1, q2, q3⟩ := h4 d hd' hne
  refine ⟨q, q1, ?_, q3⟩
  rw [upd_ne fun z => by rw [z, h] at q2; exact hd _ (Option.some.inj q2)]
  exact q2
end Gw

/-! # in_order -/
namespace Gw
open PySem PySem.Spec PyProof.Rows L2
open Sf33 (Bytes)
section
variable {P : Program} {w : World} {K : PySem.W.Frag} {mg : Str → Option Value} {base : Heap}
/-- one more who takes d, where there's a list of those; where there's none -/
theorem TkAt.old {H0 H : Hp} {tk : Addr} {ps : List (Bytes × Bytes)} {d : Bytes} (t : TkAt H0 H tk ps) (hd : Sf33.isName d = true) (hne : Tk ps d ≠ []) : ∃ kvs q, H tk = some (.dK kvs) ∧ kvs.length ≤ ps.length ∧ valV kvs (kn d) = some (.ref q) ∧ H q = some (.lst ((Tk ps d).map sv)) ∧ H0 q = none ∧
    ∀ nm, TkAt H0 (upd H q (.lst ((Tk ps d).map sv ++ [sv nm]))) tk (ps ++ [(d, nm)]) := by
  obtain ⟨kvs, h1, h2, h3, h4, h5⟩ := t
  obtain ⟨q, q1, q2, q3⟩ := h4 d hd hne
  have ntq : tk ≠ q := ne_of h1 q2 (by intro z; cases z)
  refine ⟨kvs, q, h1, h2, q1, q2, q3, fun nm => ⟨kvs, by rw [upd_ne ntq]; exact h1, by rw [List.length_append]; omega, fun e he hE => ?_, fun e he hE => ?_, h5⟩⟩
  · rw [Tk_snoc] at hE
    by_cases c : d = e
    · rw [if_pos c] at hE; simp at hE
    · rw [if_neg c] at hE; exact h3 e he hE
  · rw [Tk_snoc] at hE ⊢
    by_cases c : d = e
    · subst c
      rw [if_pos rfl]
      refine ⟨q, q1, ?_, q3⟩
      rw [upd_same, List.map_append]
      rfl
    · rw [if_neg c] at hE ⊢
      obtain ⟨p, p1, p2, p3⟩ := h4 e he hE
      refine ⟨p, p1, ?_, p3⟩
      rw [upd_ne fun z => c (h5 d e q hd he q1 (by rw [← z]; exact p1))]
      exact p2
theorem TkAt.new {H0 H : Hp} {tk : Addr} {ps : List (Bytes × Bytes)} {d : Bytes} (t : TkAt H0 H tk ps) (hd : Sf33.isName d = true) (he : Tk ps d = []) : ∃ kvs, H tk = some (.dK kvs) ∧ kvs.length ≤ ps.length ∧ valV kvs (kn d) = none ∧
    ∀ nm e, H0 e = none → H e = none → TkAt H0 (upd (upd (upd H e (.lst [])) tk (.dK (putK kvs (kn d) (.ref e)))) e (.lst ([] ++ [sv nm]))) tk (ps ++ [(d, nm)]) := by
  obtain ⟨kvs, h1, h2, h3, h4, h5⟩ := t
  have hv := h3 d hd he
  refine ⟨kvs, h1, h2, hv, fun nm e ne0 ne => ?_⟩
  have nte : tk ≠ e := ne_of_none h1 ne
  have hput : ∀ x, valV (putK kvs (kn d) (V.ref e)) (kn x) = if kn x = kn d then some (V.ref e) else valV kvs (kn x) := fun x => valV_put _ _ _ _
  have noE : ∀ x, Sf33.isName x = true → valV kvs (kn x) ≠ some (.ref e) := fun x hx z => by
    by_cases c : Tk ps x = []
    · rw [h3 x hx c] at z; cases z
    · obtain ⟨q, q1, q2, _⟩ := h4 x hx c
      rw [q1] at z
      cases z
      rw [ne] at q2; cases q2
  refine ⟨putK kvs (kn d) (.ref e), by rw [upd_ne nte, upd_same], ?_, fun x hx hE => ?_, fun x hx hE => ?_, fun a b q ha hb h6 h7 => ?_⟩
  · rw [putK_new _ hv, List.length_append, List.length_append]
    simp only [List.length_cons, List.length_nil]
    omega
  · rw [Tk_snoc] at hE
    by_cases c : d = x
    · rw [if_pos c] at hE; simp at hE
    · rw [if_neg c] at hE
      rw [hput, if_neg fun z => c (kn_inj z hd).symm]
      exact h3 x hx hE
  · rw [Tk_snoc] at hE ⊢
    by_cases c : d = x
    · subst c
      rw [if_pos rfl, he]
      exact ⟨e, by rw [hput, if_pos rfl], upd_same, ne0⟩
    · rw [if_neg c] at hE ⊢
      obtain ⟨p, p1, p2, p3⟩ := h4 x hx hE
      have pe : p ≠ e := ne_of_none p2 ne
      have pt : p ≠ tk := ne_of p2 h1 (by intro z; cases z)
      refine ⟨p, by rw [hput, if_neg fun z => c (kn_inj z hd).symm]; exact p1, ?_, p3⟩
      rw [upd_ne pe, upd_ne pt, upd_ne pe]
      exact p2
  · rw [hput] at h6 h7
    by_cases ca : kn a = kn d
    · by_cases cb : kn b = kn d
      · rw [kn_inj ca hd, kn_inj cb hd]
      · rw [if_pos ca] at h6
        rw [if_neg cb] at h7
        cases h6
        exact absurd h7 (noE b hb)
    · by_cases cb : kn b = kn d
      · rw [if_neg ca] at h6
        rw [if_pos cb] at h7
        cases h7
        exact absurd h6 (noE a ha)
      · rw [if_neg ca] at h6
        rw [if_neg cb] at h7
        exact h5 a b q ha hb h6 h7
theorem TkAt.get {H0 H : Hp} {tk : Addr} {ps : List (Bytes × Bytes)} (t : TkAt H0 H tk ps) : ∃ kvs, H tk = some (.dK kvs) := by
  obtain ⟨kvs, h1, _⟩ := t
  exact ⟨kvs, h1⟩
theorem dget_nd {H : Hp} {a : Addr} {ws : List Bytes} {v : Bytes → V} {x : Bytes} (h : H a = some (.dK (nd ws v))) (hx : Sf33.isName x = true) (hm : x ∈ ws) : DGet H a (sv x) (some (v x)) := by
  have := DGet.k (k := kn x) h
  rw [nd_get' v hx hm] at this
  exact this
theorem ct_def (kws : List Bytes) (g : Sf33.Gate) : (g.from_.filter fun d => decide (d ∉ kws)).length = Gn.cnt kws [] g := by
  unfold Gn.cnt
  congr 1
  refine List.filter_congr fun d _ => ?_
  simp
theorem scOrder : FnScope ["gates", "known", "takers", "lacking", "name", "kind", "some", "one", "by_name", "waiting", "found", "here", "gate"] ["gates", "known"] (defScope sOrder) := ⟨rfl, rfl, rfl, by decide +kernel, rfl, by decide +kernel, by decide +kernel⟩
def spOrder (CF : Addr) : Sp := fun vs H Q E => ∃ (lg kd : Addr) (rs : List Addr) (gs : List Sf33.Gate) (kws : List Bytes), vs = [.ref lg, .ref kd] ∧ H lg = some (.lst (rs.map V.ref)) ∧ GA H [] rs gs ∧ H kd = some (.dK (nd kws fun _ => .bl true)) ∧
  (∀ x ∈ kws, Sf33.isName x = true) ∧ (∀ g ∈ gs, Sf33.isName g.name = true ∧ (∀ x ∈ g.from_, Sf33.isName x = true) ∧ g.from_.length ≤ 3) ∧ (gs.map fun g => g.name).Nodup ∧ (∀ g ∈ gs, g.name ∉ kws) ∧ gs.length ≤ 1024 ∧
  (∀ (H' : Hp) (F : List Sf33.Gate) (L : Bytes → Int), Same H H' → Gn.KInv gs kws F [] L → F.length ≠ gs.length → E (.ref CF) none H') ∧
  (∀ (H' : Hp) (p : Addr) (rs' : List Addr) (F : List Sf33.Gate) (L : Bytes → Int), Same H H' → Gn.KInv gs kws F [] L → F.length = gs.length → H' p = some (.lst (rs'.map V.ref)) → GA H' [] rs' F → Q (.ref p) H')
theorem ok_order {CF f fW : Addr} {fd fdW : FuncData} (F : Fun K "in_order" "in_order" sOrder f fd) (mL : mg "len" = none) (mD : mg "dict" = none)
    (GW : FnOk P w K mg base (L2.CX P w) 1 fW fdW ["truth"] (spWant CF)) (gW : mg "want" = some (.ref fW)) (kW : PySem.W.keepIn K (.ref fW) = true) (bW : Binds K fdW ["truth"] []) :
    FnOk P w K mg base (L2.CX P w) 2 f fd ["gates", "known"] (spOrder CF) := by
  refine F.okX scOrder (fun vs H Q E h => ?_) (fun cdv A outer s H vs Q E hr h => ⟨_,
      pss_cons (ps_set (i := 2) scOrder.nd rfl (.inl rfl) pe_dnewK)
      (pss_cons (ps_set (i := 3) scOrder.nd rfl (.inr rfl) pe_dnewK)
      (pss_cons (ps_for (passes_of rfl) rfl (pi_list (pv 0)) (pg_tup rfl (pgs_cons (pg_name (i := 4) scOrder.nd rfl (.inl rfl)) (pgs_cons (pg_name (i := 5) scOrder.nd rfl (.inl rfl)) (pgs_cons (pg_name (i := 6) scOrder.nd rfl (.inl rfl)) pgs_nil))))
        (pss_cons (ps_dput (hu_of hr) (pv 3) (pv 4) (pe_callB call_len_seq (by rfl) mL PySem.boot_len (pa_cons
            (pe_lc (own := [("one", 7)]) (g := gName 7) (tt := tB (tDNotIn (tVar 7) (tVar 1))) (te := tVar 7) rfl scOrder.nd (pi_list (pv 6)) (blkOk_by (N := ["gates", "known", "takers", "lacking", "name", "kind", "some", "one", "by_name", "waiting", "found", "here", "gate"]) (sc := defScope sOrder) (by decide +kernel))
              (fun _ _ _ _ _ => pg_name (i := 7) scOrder.nd rfl (Or.inl rfl)) (fun _ _ _ _ _ => pts_one (pt_cmp (pc_dnotin (hu_of hr) (pv 7) (pv 1)) (by rfl))) (fun _ _ _ _ _ => pv 7)) pa_nil)) rfl)
        (pss_one (ps_for (passes_of rfl) rfl (pi_list (pv 6)) (pg_name (i := 7) scOrder.nd rfl (.inl rfl))
          (pss_one (ps_if (pt_cmp (pc_dnotin (hu_of hr) (pv 7) (pv 1)) (by rfl))
            (pss_one (ps_expr (pe_bm PySem.F.plainAttrs_list PySem.F.slot_list_append PySem.F.type_list_append mt_append (pe_dsetd (pv 2) (pv 7) (pe_lst pa_nil) ⟨rfl, rfl, rfl, rfl⟩) (pa_cons (pv 4) pa_nil)))) pss_nil))))))
      (pss_cons (ps_set (i := 8) scOrder.nd rfl (.inl rfl) (pe_callTy (call_dictP rfl) (by rfl) mD boot_dict0 (pa_cons
            (pe_lc (own := [("gate", 12)]) (g := gName 12) (tt := tYes) (te := tTup (tCons (tOp (rIxT K) (tVar 12) (tC (.int 0))) (tCons (tVar 12) tNil))) rfl scOrder.nd (pi_list (pv 0)) (blkOk_by (N := ["gates", "known", "takers", "lacking", "name", "kind", "some", "one", "by_name", "waiting", "found", "here", "gate"]) (sc := defScope sOrder) (by decide +kernel))
              (fun _ _ _ _ _ => pg_name (i := 12) scOrder.nd rfl (Or.inl rfl)) (fun _ _ _ _ _ => pts_nil) (fun _ _ _ _ _ => by exact pe_tup (pa_cons (pe_ix ix_tup (pv 12) pe_int (fun _ _ => rfl)) (pa_cons (pv 12) pa_nil)))) pa_nil)))
      (pss_cons (ps_lock (ps_setLc (i := 9) (own := [("name", 4)]) (g := gName 4) (tt := tTest (tOp rEq (tDGet (tVar 3) (tVar 4)) (tC (.int 0)))) (te := tVar 4) (by rfl) scOrder.nd rfl rfl (sw_true rfl rfl rfl (by decide +kernel)) (pi_keys (pv 3)) (blkOk_by (N := ["gates", "known", "takers", "lacking", "name", "kind", "some", "one", "by_name", "waiting", "found", "here", "gate"]) (sc := defScope sOrder) (by decide +kernel))
              (fun _ _ _ _ _ => pg_name (i := 4) scOrder.nd rfl (Or.inl rfl)) (fun _ _ _ _ _ => pts_one (pt_cmpR op_eq (pe_dget (hu_of hr) (pv 3) (pv 4) (fun _ _ => rfl)) pe_int (nomark _))) (fun _ _ _ _ _ => pv 4)))
      (pss_cons (ps_set (i := 10) scOrder.nd rfl (.inl rfl) (pe_lst pa_nil))
      (pss_cons (ps_while (passes_of rfl) (pt_cmpR (op_neD hr.units) (pv 9) (pe_lst pa_nil) (nomark _))
        (pss_cons (ps_set (i := 11) scOrder.nd rfl (.inl rfl) (pe_bm0 PySem.F.plainAttrs_list PySem.F.slot_list_pop PySem.F.type_list_pop mt_pop (pv 9)))
        (pss_cons (ps_expr (pe_bm PySem.F.plainAttrs_list PySem.F.slot_list_append PySem.F.type_list_append mt_append (pv 10) (pa_cons (pe_dget (hu_of hr) (pv 8) (pv 11) (fun _ _ => rfl)) pa_nil)))
        (pss_one (ps_for (passes_of rfl) rfl (pi_list (pe_dget2 (hu_of hr) (pv 2) (pv 11) (pe_lst pa_nil) ⟨rfl, rfl, rfl, rfl⟩)) (pg_name (i := 4) scOrder.nd rfl (.inl rfl))
          (pss_cons (ps_daug (hu_of hr) (pv 3) (pv 4) pe_int in_sub (fun _ _ _ => rfl))
          (pss_one (ps_if (pt_cmpR op_eq (pe_dget (hu_of hr) (pv 3) (pv 4) (fun _ _ => rfl)) pe_int (nomark _))
            (pss_one (ps_expr (pe_bm PySem.F.plainAttrs_list PySem.F.slot_list_append PySem.F.type_list_append mt_append (pv 9) (pa_cons (pv 4) pa_nil)))) pss_nil))))))))
      (pss_cons (ps_expr (pe_callS GW hr (by rfl) gW kW bW (fun σ => passAt (takes_of rfl rfl rfl rfl) σ) (pa_cons
        (pe_cmpR op_eq (pe_callB call_len_seq (by rfl) mL PySem.boot_len (pa_cons (pv 10) pa_nil)) (pe_callB call_len_seq (by rfl) mL PySem.boot_len (pa_cons (pv 0) pa_nil)) (nomark _)) pa_nil)))
      (pss_one (ps_ret (pv 10)))))))))), ?_⟩)
  · obtain ⟨lg, kd, rs, gs, kws, rfl, _⟩ := h
    rfl
  · obtain ⟨lg, kd, rs, gs, kws, rfl, hlg, hG, hkd, hkn, hgs, hgn, hap, hlen, kX, kS⟩ := h
    have hrs : rs.length = gs.length := hG.length
    -- takers = {}, lacking = {}
    refine fun tk ntk lk nlk0 => ?_
    have ntl : tk ≠ lk := fun z => by rw [← z, upd_same] at nlk0; cases nlk0
    have nlk : H lk = none := un nlk0
    have s0 : Same H (upd (upd H tk (.dK [])) lk (.dK [])) := (same_upd ntk).trans (same_upd nlk0)
    -- how much each lacks at first
    obtain ⟨L0, hL⟩ : ∃ L0 : Bytes → Int, ∀ g ∈ gs, L0 g.name = (Gn.cnt kws [] g : Int) := by
      refine ⟨fun x => match gs.find? (fun g => g.name == x) with | some g => (Gn.cnt kws [] g : Int) | none => 0, fun g hg => ?_⟩
      cases q : gs.find? fun x => x.name == g.name with
      | none => exact absurd (beq_self_eq_true g.name) (by simpa using List.find?_eq_none.mp q g hg)
      | some x =>
        dsimp only
        rw [q]
        show (Gn.cnt kws [] x : Int) = _
        have hb := List.find?_some q
        rw [Gn.name_one hgn (List.mem_of_find?_eq_some q) hg (beq_iff_eq.mp hb)]
    have hnm : ∀ x ∈ gs.map (fun g => g.name), Sf33.isName x = true := fun x hx => by
      obtain ⟨g, hg, e⟩ := List.mem_map.mp hx
      rw [← e]; exact (hgs g hg).1
    have inK : ∀ d, Sf33.isName d = true → (valV (nd kws fun _ => V.bl true) (kn d)).isSome = decide (d ∈ kws) := fun d hd => by
      by_cases c : d ∈ kws
      · rw [nd_get' _ hd c, decide_eq_true c]; rfl
      · rw [nd_no _ hkn c, decide_eq_false c]; rfl
    -- for name, kind, some in gates
    refine ⟨_, rfl, lg, rfl, ⟨_, SqL.of (s0 _ _ hlg)⟩, for_list (K := K) (a := lg) (xs := rs.map V.ref) (fun i σ H' => ∃ v4 v5 v6 v7 : Option V,
        σ = [some (.ref lg), some (.ref kd), some (.ref tk), some (.ref lk), v4, v5, v6, v7, none, none, none, none, none] ∧ Same H H' ∧ TkAt H H' tk (pairs kws (gs.take i)) ∧
        H' lk = some (.dK (nd ((gs.take i).map fun g => g.name) fun x => .int (L0 x)))) ?_ ?_ ?_ ?_⟩
    · refine ⟨none, none, none, none, rfl, s0, ⟨[], by rw [upd_ne ntl, upd_same], Nat.zero_le _, fun d _ _ => rfl, fun d _ h => absurd rfl h, fun d e q _ _ h => by cases h⟩, by rw [upd_same]; rfl⟩
    · rintro i σ H' _ ⟨v4, v5, v6, v7, _, s1, _⟩
      exact SqL.of (s1 _ _ hlg)
    · rintro i x σ H1 hx ⟨v4, v5, v6, v7, rfl, s1, hT1, hl1⟩
      obtain ⟨p, hp, rfl⟩ := map_at hx
      obtain ⟨g, q, hg, hg1, hg2⟩ := ga_at hG hp
      have hgm := List.mem_of_getElem? hg
      obtain ⟨gn1, gn2, gn3⟩ := hgs g hgm
      refine ⟨p, _, rfl, SqT.of (s1 _ _ hg1), rfl, _, _, rfl, _, _, rfl, _, _, rfl, rfl, ?_⟩
      -- lacking[name] = len([one for one in some if one not in known])
      refine ⟨_, rfl, q, rfl, ⟨_, SqL.of (s1 _ _ hg2)⟩, fun D nD => ?_⟩
      have hpf : (g.from_.map sv).filter (fun v => match v with | .str z => !(valV (nd kws fun _ => V.bl true) (.inr z)).isSome | _ => false) = (g.from_.filter fun d => decide (d ∉ kws)).map sv := by
        rw [List.filter_map]
        congr 1
        refine List.filter_congr fun d hd => ?_
        show (!(valV (nd kws fun _ => V.bl true) (kn d)).isSome) = _
        rw [inK d (gn2 d hd), ← decide_not]
      refine lc_filtW (xs := g.from_.map sv) walk_list yAt (fun v => match v with | .str z => !(valV (nd kws fun _ => V.bl true) (.inr z)).isSome | _ => false) (by rw [List.length_map]; omega) nD (fun H' s => SqL.of (s _ _ (s1 _ _ hg2))) ?_ ?_
      · intro j v H2 A1 B1 hv s2 hA hB
        obtain ⟨d, hd, rfl⟩ := map_at hv
        refine ⟨rfl, _, rfl, _, rfl, kd, _, rfl, DGet.k (k := kn d) (s2 _ _ (s1 _ _ hkd)), _, rfl, ?_⟩
        cases c : (!(valV (nd kws fun _ => V.bl true) (kn d)).isSome) with
        | true => exact iteT ⟨_, rfl, hA c _ (Same.refl _)⟩
        | false => exact iteF (hB c _ (Same.refl _))
      · intro H2 s2 hD
        rw [hpf] at hD
        have s12 := s1.trans s2
        refine ⟨D, _, rfl, .inl (SqL.of hD), _, rfl, _, rfl, lk, _, rfl, DPut.k (k := kn g.name) (s2 _ _ hl1) ?_, ?_⟩
        · rw [nd_length, List.length_map, List.length_take]
          exact line_lt (by omega)
        · have hnx : g.name ∉ (gs.take i).map fun g => g.name := by
            have h3 := hgn
            rw [← List.take_append_drop i gs, List.map_append] at h3
            have h4 : g.name ∈ (gs.drop i).map fun g => g.name := List.mem_map_of_mem (List.mem_of_getElem? (i := 0) (by rw [List.getElem?_drop, Nat.add_zero]; exact hg))
            exact fun z => (List.nodup_append.mp h3).2.2 _ z _ h4 rfl
          have eput : putK (nd ((gs.take i).map fun g => g.name) fun x => V.int (L0 x)) (kn g.name) (.int ((((g.from_.filter fun d => decide (d ∉ kws)).map sv).length : Nat) : Int)) = nd ((gs.take (i + 1)).map fun g => g.name) fun x => .int (L0 x) := by
            rw [nd_new (fun y hy => hnm y ?_) hnx, take_more hg, List.map_append, nd_append, List.length_map, ct_def, ← hL g hgm]
            · rfl
            · obtain ⟨z, hz, e⟩ := List.mem_map.mp hy
              exact List.mem_map.mpr ⟨z, List.mem_of_mem_take hz, e⟩
          rw [eput]
          have hT2 : TkAt H (upd H2 lk (.dK (nd ((gs.take (i + 1)).map fun g => g.name) fun x => .int (L0 x)))) tk (pairs kws (gs.take i)) := (hT1.keep s2).put (s2 _ _ hl1) (by intro xs z; cases z) ntl.symm
          have s3 : Same H (upd H2 lk (.dK (nd ((gs.take (i + 1)).map fun g => g.name) fun x => .int (L0 x)))) := same_upd' s12 nlk
          generalize hH3 : upd H2 lk (.dK (nd ((gs.take (i + 1)).map fun g => g.name) fun x => .int (L0 x))) = H3 at *
          have hl3 : H3 lk = some (.dK (nd ((gs.take (i + 1)).map fun g => g.name) fun x => .int (L0 x))) := by rw [← hH3]; exact upd_same
          -- for one in some
          refine ⟨_, rfl, q, rfl, ⟨_, SqL.of (s3 _ _ hg2)⟩, for_list (K := K) (a := q) (xs := g.from_.map sv) (fun j σ H' => ∃ v7 : Option V,
              σ = [some (.ref lg), some (.ref kd), some (.ref tk), some (.ref lk), some (sv g.name), some (sv (Gn.kn g.kind)), some (.ref q), v7, none, none, none, none, none] ∧ Same H H' ∧
              TkAt H H' tk (pairs kws (gs.take i) ++ pairsG kws g.name (g.from_.take j)) ∧ H' lk = some (.dK (nd ((gs.take (i + 1)).map fun g => g.name) fun x => .int (L0 x)))) ?_ ?_ ?_ ?_⟩
          · refine ⟨v7, rfl, s3, ?_, hl3⟩
            rw [List.take_zero]
            show TkAt H H3 tk (pairs kws (gs.take i) ++ [])
            rw [List.append_nil]
            exact hT2
          · rintro j σ H' _ ⟨v7, _, s4, _⟩
            exact SqL.of (s4 _ _ hg2)
          · rintro j y σ H4 hy ⟨v7', rfl, s4, hT4, hl4⟩
            obtain ⟨d, hd, rfl⟩ := map_at hy
            have hdn := gn2 d (List.mem_of_getElem? hd)
            have psz : (pairs kws (gs.take i) ++ pairsG kws g.name (g.from_.take j)).length ≤ 4000 := by
              rw [List.length_append]
              have h1 := pairs_length (kws := kws) (gs := gs.take i) fun x hx => (hgs x (List.mem_of_mem_take hx)).2.2
              have h2 := pairsG_length kws g.name (g.from_.take j)
              rw [List.length_take] at h1 h2
              omega
            have mk := pairsG_snoc kws g.name (g.from_.take j) d
            rw [← take_more hd] at mk
            refine ⟨_, rfl, _, rfl, kd, _, rfl, DGet.k (k := kn d) (s4 _ _ hkd), _, rfl, ?_⟩
            rw [inK d hdn]
            by_cases c : d ∈ kws
            · refine iteF' (by rw [decide_eq_true c]; rfl) ⟨some (sv d), rfl, s4, ?_, hl4⟩
              rw [mk, if_pos c]
              exact hT4
            · refine iteT' (by rw [decide_eq_false c]; rfl) ?_
              rw [if_neg c] at mk
              rw [mk, ← List.append_assoc]
              generalize pairs kws (gs.take i) ++ pairsG kws g.name (g.from_.take j) = ps at *
              obtain ⟨kvs0, hk0⟩ := hT4.get
              refine ⟨_, rfl, tk, rfl, .inl ⟨kvs0, .inl hk0⟩, _, rfl, Nat.zero_le _, fun e ne => ?_⟩
              have hT5 : TkAt H (upd H4 e (.lst [])) tk ps := hT4.keep (same_upd ne)
              have ne0 := s4.free ne
              have nle : lk ≠ e := ne_of_none hl4 ne
              by_cases ct : Tk ps d = []
              · obtain ⟨kvs, k1, k2, k3, k4⟩ := hT4.new hdn ct
                have nte : tk ≠ e := ne_of_none k1 ne
                refine ⟨kvs, kn d, (by rw [upd_ne nte]; exact k1), rfl, line_lt (by omega), (fun v hv => by rw [k3] at hv; cases hv), fun _ => ?_⟩
                have hee : (upd (upd H4 e (.lst [])) tk (.dK (putK kvs (kn d) (.ref e)))) e = some (.lst []) := by rw [upd_ne nte.symm, upd_same]
                refine ⟨.inl ⟨rfl, _, SqL.of hee⟩, _, rfl, e, _, _, rfl, rfl, hee, line_lt (by simp), some (sv d), rfl, ?_, k4 g.name e ne0 ne, ?_⟩
                · exact same_upd' (same_upd' (same_upd' s4 ne0) ntk) ne0
                · rw [upd_ne nle, upd_ne ntl.symm, upd_ne nle]
                  exact hl4
              · obtain ⟨kvs, qq, k1, k2, k3, k4, k5, k6⟩ := hT5.old hdn ct
                refine ⟨kvs, kn d, k1, rfl, line_lt (by omega), fun v hv => ?_, fun hn => by rw [k3] at hn; cases hn⟩
                rw [k3] at hv
                cases hv
                refine ⟨.inl ⟨rfl, _, SqL.of k4⟩, _, rfl, qq, _, _, rfl, rfl, k4, ?_, some (sv d), rfl, ?_, k6 g.name, ?_⟩
                · have := Tk_length ps d
                  rw [List.length_map]
                  exact line_lt (by omega)
                · exact same_upd' (same_upd' s4 ne0) k5
                · rw [upd_ne (ne_of (by rw [upd_ne nle]; exact hl4) k4 (by intro z; cases z)), upd_ne nle]
                  exact hl4
          · rintro σ H4 ⟨v7', rfl, s4, hT4, hl4⟩
            rw [List.length_map, List.take_length] at hT4
            refine ⟨_, _, _, v7', rfl, s4, ?_, hl4⟩
            rw [take_more hg, pairs_snoc]
            exact hT4
    · rintro σ H1 ⟨v4, v5, v6, v7, rfl, s1, hT1, hl1⟩
      rw [List.length_map, hrs, List.take_length] at hT1 hl1
      have hnd : (gs.map fun g => g.name).Nodup := hgn
      have hnl : (gs.map fun g => g.name).length = gs.length := List.length_map _
      -- by_name = dict([(gate[0], gate) for gate in gates])
      obtain ⟨av, hav⟩ : ∃ av : Bytes → V, ∀ (i : Nat) (p : Addr) (g : Sf33.Gate), rs[i]? = some p → gs[i]? = some g → av g.name = .ref p := by
        refine ⟨fun x => match rs[(gs.map fun g => g.name).findIdx fun y => y == x]? with | some p => .ref p | none => .non, fun i p g hp hg => ?_⟩
        have e : (gs.map fun g => g.name).findIdx (fun y => y == g.name) = i := Gn.findIdx_nodup hgn (by rw [List.getElem?_map, hg]; rfl)
        dsimp only
        rw [e, hp]
      refine ⟨_, rfl, lg, rfl, ⟨_, SqL.of (s1 _ _ hlg)⟩, fun D nD => ?_⟩
      refine lc_pairsW (xs := rs.map V.ref) walk_list yAt ((gs.map fun g => g.name).map fun x => [sv x, av x]) (by rw [List.length_map, List.length_map, List.length_map, hrs]) (by rw [List.length_map]; omega) nD (fun H' s => SqL.of (s _ _ (s1 _ _ hlg))) ?_ ?_
      · intro i v z H2 Q1 R1 hv hz s2 hq
        obtain ⟨p, hp, rfl⟩ := map_at hv
        obtain ⟨x', hx', rfl⟩ := map_at hz
        obtain ⟨g, hg, rfl⟩ := map_at hx'
        obtain ⟨g', q, hg', hg1, hg2⟩ := ga_at hG hp
        rw [hg] at hg'
        cases hg'
        refine ⟨rfl, yesT ⟨_, rfl, p, _, 0, _, rfl, rfl, SqT.of (s2 _ _ (s1 _ _ hg1)), at_nat (j := 0) rfl rfl, _, rfl, (by show 2 ≤ sizeLine; exact line_of (by decide)), fun P nP => hq _ P (same_upd nP) nP ?_⟩⟩
        rw [upd_same, hav i p g hp hg]
      · intro H2 ps s2 hD hps
        refine ⟨D, ps, nd (gs.map fun g => g.name) av, rfl, SqL.of hD, pairs_names hps, fun bn nbn => ?_⟩
        rw [nd_merge _ hnm hgn]
        have s3 : Same H1 (upd H2 bn (.dK (nd (gs.map fun g => g.name) av))) := s2.trans (same_upd nbn)
        have hTb := hT1.keep s3
        generalize hHb : upd H2 bn (.dK (nd (gs.map fun g => g.name) av)) = Hb at *
        have sb := s1.trans s3
        have hlb := s3 _ _ hl1
        have hbb : Hb bn = some (.dK (nd (gs.map fun g => g.name) av)) := by rw [← hHb]; exact upd_same
        have nbl : bn ≠ lk := fun z => by rw [z, s2 _ _ hl1] at nbn; cases nbn
        -- waiting = [name for name in lacking if lacking[name] == 0]
        refine ⟨lk, _, hlb, trivial, fun od => ?_⟩
        refine ⟨_, rfl, lk, od, rfl, .inl ⟨_, upd_same, fun wt nwt => ?_⟩⟩
        have nwl : wt ≠ lk := fun z => by rw [z, upd_same] at nwt; cases nwt
        have nwb : Hb wt = none := by rw [upd_ne nwl] at nwt; exact nwt
        have hpf : ((gs.map fun g => g.name).map sv).filter (fun v => (gs.map fun g => g.name).any fun x => decide (v = sv x) && decide (L0 x = 0)) = ((gs.map fun g => g.name).filter fun x => decide (L0 x = 0)).map sv := by
          rw [List.filter_map]
          congr 1
          refine List.filter_congr fun x hx => ?_
          show ((gs.map fun g => g.name).any fun y => decide (sv x = sv y) && decide (L0 y = 0)) = _
          rw [Bool.eq_iff_iff, List.any_eq_true, decide_eq_true_eq]
          constructor
          · rintro ⟨y, hy, e⟩
            rw [Bool.and_eq_true, decide_eq_true_eq, decide_eq_true_eq] at e
            rw [(sv_iff (Gn.isName_sg (hnm y hy))).mp e.1]
            exact e.2
          · exact fun e => ⟨x, hx, by rw [Bool.and_eq_true, decide_eq_true_eq, decide_eq_true_eq]; exact ⟨rfl, e⟩⟩
        have wk := walk_keys (d := lk) (o := od) (kvs := nd (gs.map fun g => g.name) fun x => V.int (L0 x))
        rw [nd_length, ← List.length_map (as := gs.map fun g => g.name) sv] at wk
        refine lc_filtW (xs := (gs.map fun g => g.name).map sv) wk (fun i H' v H'' y => ?_) (fun v => (gs.map fun g => g.name).any fun x => decide (v = sv x) && decide (L0 x = 0)) (by rw [List.length_map, List.length_map]; omega) nwt (fun H' s => s _ _ upd_same) ?_ ?_
        · obtain ⟨e, k, v', hk, rfl⟩ := y
          refine ⟨e, ?_⟩
          unfold nd at hk
          obtain ⟨x, hx, e2⟩ := map_at hk
          cases e2
          rw [List.getElem?_map, hx]
          rfl
        · intro i v H3 A1 B1 hv s4 hA hB
          obtain ⟨x, hx, rfl⟩ := map_at hv
          have hxm := List.mem_of_getElem? hx
          have hf := s4 _ _ (upd_same (H := Hb) (a := lk) (o := .frz od (.dK (nd (gs.map fun g => g.name) fun x => .int (L0 x)))))
          refine ⟨rfl, _, rfl, _, rfl, lk, .int (L0 x), rfl, .inl ⟨_, kn x, .inr ⟨od, hf⟩, rfl, (nd_get' (fun x => V.int (L0 x)) (hnm x hxm) hxm).symm⟩, rfl, _, rfl, ?_⟩
          have hp : ((gs.map fun g => g.name).any fun y => decide (sv x = sv y) && decide (L0 y = 0)) = decide (V.int (L0 x) = V.int 0) := by
            rw [Bool.eq_iff_iff, List.any_eq_true, decide_eq_true_eq]
            constructor
            · rintro ⟨y, hy, e⟩
              rw [Bool.and_eq_true, decide_eq_true_eq, decide_eq_true_eq] at e
              rw [(sv_iff (Gn.isName_sg (hnm y hy))).mp e.1, e.2]
            · exact fun e => ⟨x, hxm, by rw [Bool.and_eq_true, decide_eq_true_eq, decide_eq_true_eq]; exact ⟨rfl, V.int.inj e⟩⟩
          cases c : decide (V.int (L0 x) = V.int 0) with
          | true => exact iteT ⟨_, rfl, hA (by rw [← c]; exact hp) _ (Same.refl _)⟩
          | false => exact iteF (hB (by rw [← c]; exact hp) _ (Same.refl _))
        · intro H3 s4 hD3
          rw [hpf] at hD3
          have hf3 := s4 _ _ (upd_same (H := Hb) (a := lk) (o := .frz od (.dK (nd (gs.map fun g => g.name) fun x => .int (L0 x)))))
          refine ⟨hf3, ?_⟩
          -- found = []
          refine ⟨Nat.zero_le _, fun fo nfo => ?_⟩
          have nfw : fo ≠ wt := fun z => by rw [z, upd_ne nwl, hD3] at nfo; cases nfo
          have nfl : fo ≠ lk := fun z => by rw [z, upd_same] at nfo; cases nfo
          have nfb : Hb fo = none := by
            rw [upd_ne nfl] at nfo
            have := s4.free nfo
            rw [upd_ne nfl] at this
            exact this
          have k0 : Kp [lk] Hb (upd (upd H3 lk (.dK (nd (gs.map fun g => g.name) fun x => .int (L0 x)))) fo (.lst [])) := by
            intro q o hq hn
            have h1 : q ≠ lk := by simpa using hn
            have h2 : q ≠ fo := ne_of_none hq nfb
            rw [upd_ne h2, upd_ne h1]
            exact s4 q o (by rw [upd_ne h1]; exact hq)
          have sK : ∀ {H'}, Kp [lk] Hb H' → Same H H' := fun {H'} k q o hq => k q o (sb q o hq) (by
            intro z
            rw [List.mem_singleton.mp z, nlk] at hq
            cases hq)
          -- while waiting != []
          refine ⟨fun m σ H' => ∃ (F : List Sf33.Gate) (rs' : List Addr) (Wn : List Bytes) (L : Bytes → Int) (v4 v5 v6 v7 v11 : Option V), m = gs.length - F.length ∧
              σ = [some (.ref lg), some (.ref kd), some (.ref tk), some (.ref lk), v4, v5, v6, v7, some (.ref bn), some (.ref wt), some (.ref fo), v11, none] ∧ Kp [lk] Hb H' ∧
              H' lk = some (.dK (nd (gs.map fun g => g.name) fun x => .int (L x))) ∧ H' wt = some (.lst (Wn.map sv)) ∧ H' fo = some (.lst (rs'.map V.ref)) ∧ GA H [] rs' F ∧ Gn.KInv gs kws F Wn L,
            ⟨gs.length - 0, [], [], (gs.map fun g => g.name).filter fun x => decide (L0 x = 0), L0, v4, v5, v6, v7, none, rfl, rfl, k0, ?_, ?_, ?_, .nil, Gn.KInv.start hgn hL⟩, ?_⟩
          · rw [upd_ne nfl.symm, upd_same]
          · rw [upd_ne nfw.symm, upd_ne nwl]
            exact hD3
          · rw [upd_same]
            rfl
          · rintro m σ H4 ⟨F, rs', Wn, L, v4, v5, v6, v7, v11, rfl, rfl, k4, hl4, hw4, hf4, hGF, kinv⟩
            have hFl := hGF.length
            have hle := kinv.le
            refine ⟨_, rfl, Nat.zero_le _, fun e ne => ⟨_, _, .lst (SqL.of (by rw [upd_ne (ne_of_none hw4 ne)]; exact hw4)) (data_words Wn), .lst (SqL.of upd_same) .nil, shaped_words _, shaped_nil, _, rfl, ?_⟩⟩
            have k5 : Kp [lk] Hb (upd H4 e (.lst [])) := fun q o hq hn => by
              have h1 := k4 q o hq hn
              rw [upd_ne (ne_of_none h1 ne)]
              exact h1
            have hl5 : (upd H4 e (.lst [])) lk = some (.dK (nd (gs.map fun g => g.name) fun x => .int (L x))) := by rw [upd_ne (ne_of_none hl4 ne)]; exact hl4
            have hw5 : (upd H4 e (.lst [])) wt = some (.lst (Wn.map sv)) := by rw [upd_ne (ne_of_none hw4 ne)]; exact hw4
            have hf5 : (upd H4 e (.lst [])) fo = some (.lst (rs'.map V.ref)) := by rw [upd_ne (ne_of_none hf4 ne)]; exact hf4
            generalize upd H4 e (.lst []) = H5 at *
            rw [eqv_nil]
            by_cases hw0 : Wn = []
            · subst hw0
              refine iteF' (by rw [decide_eq_true (by rfl)]; rfl) ?_
              have s5 := sK k5
              -- want(len(found) == len(gates)); return found
              refine ⟨_, rfl, fo, _, rfl, .inl (SqL.of hf5), _, rfl, lg, _, rfl, .inl (SqL.of (s5 _ _ hlg)), rfl, _, rfl, fun e => ?_, fun e => kX _ F L s5 kinv ?_⟩
              · refine ⟨_, rfl, kS _ fo rs' F L s5 kinv ?_ hf5 (hGF.same s5)⟩
                have := V.int.inj (of_decide_eq_true e)
                rw [List.length_map, List.length_map] at this
                omega
              · intro z
                refine of_decide_eq_false e ?_
                rw [List.length_map, List.length_map, hFl, z, hrs]
            · refine iteT' (by rw [decide_eq_false (fun z => hw0 (List.map_eq_nil_iff.mp z))]; rfl) ?_
              refine ⟨fun σ' H' => ∃ m', m' < gs.length - F.length ∧ ∃ (F : List Sf33.Gate) (rs' : List Addr) (Wn : List Bytes) (L : Bytes → Int) (v4 v5 v6 v7 v11 : Option V), m' = gs.length - F.length ∧
                  σ' = [some (.ref lg), some (.ref kd), some (.ref tk), some (.ref lk), v4, v5, v6, v7, some (.ref bn), some (.ref wt), some (.ref fo), v11, none] ∧ Kp [lk] Hb H' ∧
                  H' lk = some (.dK (nd (gs.map fun g => g.name) fun x => .int (L x))) ∧ H' wt = some (.lst (Wn.map sv)) ∧ H' fo = some (.lst (rs'.map V.ref)) ∧ GA H [] rs' F ∧ Gn.KInv gs kws F Wn L, fun _ _ h => h, ?_⟩
              obtain ⟨W', hh, rfl⟩ : ∃ W' hh, Wn = W' ++ [hh] := ⟨Wn.dropLast, Wn.getLast hw0, (List.dropLast_concat_getLast hw0).symm⟩
              obtain ⟨g, hg, rfl⟩ := kinv.wg hh (List.mem_append_right _ (List.mem_singleton.mpr rfl))
              obtain ⟨gn1, gn2, gn3⟩ := hgs g hg
              obtain ⟨ig, hig⟩ := List.mem_iff_getElem?.mp hg
              obtain ⟨p, hp⟩ : ∃ p, rs[ig]? = some p := ⟨rs[ig]'(by rw [hrs]; exact (List.getElem?_eq_some_iff.mp hig).1), List.getElem?_eq_getElem _⟩
              rw [List.length_append, List.length_singleton] at hle
              -- here = waiting.pop()
              refine ⟨_, rfl, .inl ⟨rfl, _, SqL.of hw5⟩, wt, _, sv g.name, rfl, rfl, hw5, ?_, ?_⟩
              · rw [List.map_append, List.length_append, List.getElem?_append_right (by simp)]
                simp
              · have edl : ((W' ++ [g.name]).map sv).dropLast = W'.map sv := by rw [List.map_append, List.map_singleton, List.dropLast_concat]
                rw [edl]
                have k6 : Kp [lk] Hb (upd H5 wt (.lst (W'.map sv))) := fun q o hq hn => by
                  rw [upd_ne (ne_of_none hq nwb)]
                  exact k5 q o hq hn
                have hl6 : (upd H5 wt (.lst (W'.map sv))) lk = some (.dK (nd (gs.map fun g => g.name) fun x => .int (L x))) := by rw [upd_ne nwl.symm]; exact hl5
                have hw6 : (upd H5 wt (.lst (W'.map sv))) wt = some (.lst (W'.map sv)) := upd_same
                have hf6 : (upd H5 wt (.lst (W'.map sv))) fo = some (.lst (rs'.map V.ref)) := by rw [upd_ne nfw]; exact hf5
                generalize upd H5 wt (.lst (W'.map sv)) = H6 at *
                have hb6 := k6 _ _ hbb (by simpa using nbl)
                have hgm : g.name ∈ gs.map fun g => g.name := List.mem_map_of_mem hg
                -- found.append(by_name[here])
                refine ⟨_, rfl, .inl ⟨rfl, _, SqL.of hf6⟩, _, rfl, _, rfl, bn, av g.name, rfl, dget_nd hb6 gn1 hgm, fo, _, _, rfl, rfl, hf6, ?_, ?_⟩
                · rw [List.length_map, hFl]
                  exact line_lt (by omega)
                · have eapp : rs'.map V.ref ++ [av g.name] = (rs' ++ [p]).map V.ref := by rw [hav ig p g hp hig, List.map_append]; rfl
                  rw [eapp]
                  have k7 : Kp [lk] Hb (upd H6 fo (.lst ((rs' ++ [p]).map V.ref))) := fun q o hq hn => by
                    rw [upd_ne (ne_of_none hq nfb)]
                    exact k6 q o hq hn
                  have hl7 : (upd H6 fo (.lst ((rs' ++ [p]).map V.ref))) lk = some (.dK (nd (gs.map fun g => g.name) fun x => .int (L x))) := by rw [upd_ne nfl.symm]; exact hl6
                  have hw7 : (upd H6 fo (.lst ((rs' ++ [p]).map V.ref))) wt = some (.lst (W'.map sv)) := by rw [upd_ne nfw.symm]; exact hw6
                  have hf7 : (upd H6 fo (.lst ((rs' ++ [p]).map V.ref))) fo = some (.lst ((rs' ++ [p]).map V.ref)) := upd_same
                  generalize upd H6 fo (.lst ((rs' ++ [p]).map V.ref)) = H7 at *
                  have hGF' : GA H [] (rs' ++ [p]) (F ++ [g]) := by
                    obtain ⟨g', q, hg', hg1, hg2⟩ := ga_at hG hp
                    rw [hig] at hg'
                    cases hg'
                    exact paired_snoc hGF ⟨by simp, q, hg1, hg2, by simp⟩
                  have hbeg := Gn.KInv.begin hgn hap kinv hg
                  -- for name in takers.get(here, [])
                  obtain ⟨kvs, t1, t2, t3, t4, t5⟩ := hTb
                  have ntl2 : tk ∉ [lk] := by simpa using ntl
                  have ht7 := k7 _ _ t1 ntl2
                  have etk : Tk (pairs kws gs) g.name = Gn.tk gs g.name := Tk_pairs (hap g hg) gs
                  refine ⟨_, rfl, tk, rfl, .inl ⟨kvs, .inl ht7⟩, _, rfl, Nat.zero_le _, fun e2 ne2 => ?_⟩
                  have k8 : Kp [lk] Hb (upd H7 e2 (.lst [])) := fun q o hq hn => by
                    have h1 := k7 q o hq hn
                    rw [upd_ne (ne_of_none h1 ne2)]
                    exact h1
                  have hl8 : (upd H7 e2 (.lst [])) lk = some (.dK (nd (gs.map fun g => g.name) fun x => .int (L x))) := by rw [upd_ne (ne_of_none hl7 ne2)]; exact hl7
                  have hw8 : (upd H7 e2 (.lst [])) wt = some (.lst (W'.map sv)) := by rw [upd_ne (ne_of_none hw7 ne2)]; exact hw7
                  have hf8 : (upd H7 e2 (.lst [])) fo = some (.lst ((rs' ++ [p]).map V.ref)) := by rw [upd_ne (ne_of_none hf7 ne2)]; exact hf7
                  have ht8 := k8 _ _ t1 ntl2
                  obtain ⟨a, o, ho, ha, hla, hn1⟩ : ∃ a o, DGet (upd H7 e2 (.lst [])) tk (sv g.name) o ∧ o.getD (.ref e2) = .ref a ∧ (upd H7 e2 (.lst [])) a = some (.lst ((Gn.tk gs g.name).map sv)) ∧ a ≠ wt := by
                    have hd0 := DGet.k (k := kn g.name) ht8
                    by_cases c : Tk (pairs kws gs) g.name = []
                    · rw [t3 _ gn1 c] at hd0
                      refine ⟨e2, none, hd0, rfl, ?_, (ne_of_none hw7 ne2).symm⟩
                      rw [upd_same, ← etk, c]
                      rfl
                    · obtain ⟨q, q1, q2, q3⟩ := t4 _ gn1 c
                      rw [q1] at hd0
                      refine ⟨q, some (.ref q), hd0, rfl, ?_, ne_of_none q2 nwb⟩
                      rw [← etk]
                      exact k8 _ _ q2 (by
                        rw [List.mem_singleton]
                        exact ne_of q2 hlb (by intro z; cases z))
                  generalize upd H7 e2 (.lst []) = H8 at *
                  have hnla : a ≠ lk := ne_of hla hl8 (by intro z; cases z)
                  refine ⟨o, ho, a, ha, ⟨_, SqL.of hla⟩, for_list (K := K) (a := a) (xs := (Gn.tk gs g.name).map sv) (fun j σ H' => ∃ (W2 : List Bytes) (L2 : Bytes → Int) (v4 : Option V),
                      σ = [some (.ref lg), some (.ref kd), some (.ref tk), some (.ref lk), v4, v5, v6, v7, some (.ref bn), some (.ref wt), some (.ref fo), some (sv g.name), none] ∧ Kp [lk] Hb H' ∧
                      H' lk = some (.dK (nd (gs.map fun g => g.name) fun x => .int (L2 x))) ∧ H' wt = some (.lst (W2.map sv)) ∧ H' fo = some (.lst ((rs' ++ [p]).map V.ref)) ∧ H' a = some (.lst ((Gn.tk gs g.name).map sv)) ∧
                      Gn.KIn gs kws (F ++ [g]) ((Gn.tk gs g.name).drop j) W2 L2) ?_ ?_ ?_ ?_⟩
                  · exact ⟨W', L, v4, rfl, k8, hl8, hw8, hf8, hla, hbeg⟩
                  · rintro j σ H' _ ⟨W2, L2, v4, _, _, _, _, _, h, _⟩
                    exact SqL.of h
                  · rintro j x σ H9 hx ⟨W2, L2, v4, rfl, k9, hl9, hw9, hf9, ha9, kin⟩
                    obtain ⟨nm, hnm', rfl⟩ := map_at hx
                    have hnn : ∃ g ∈ gs, g.name = nm := Gn.tk_mem (List.mem_of_getElem? hnm')
                    have hnmm : nm ∈ gs.map fun g => g.name := by
                      obtain ⟨g', h1, h2⟩ := hnn
                      exact List.mem_map.mpr ⟨g', h1, h2⟩
                    have hnN := hnm nm hnmm
                    have edrop : (Gn.tk gs g.name).drop j = nm :: (Gn.tk gs g.name).drop (j + 1) := by
                      obtain ⟨hj, e⟩ := List.getElem?_eq_some_iff.mp hnm'
                      rw [List.drop_eq_getElem_cons hj, e]
                    rw [edrop] at kin
                    have kst := kin.step hgn hnn
                    -- lacking[name] -= 1
                    refine ⟨_, rfl, _, rfl, lk, .int (L2 nm), rfl, dget_nd hl9 hnN hnmm, L2 nm, 1, rfl, rfl, _, DPut.k (k := kn nm) hl9 ?_, ?_⟩
                    · rw [nd_length, hnl]
                      exact line_lt (by omega)
                    · have eput : putK (nd (gs.map fun g => g.name) fun x => V.int (L2 x)) (kn nm) (.int (L2 nm - 1)) = nd (gs.map fun g => g.name) fun x => .int ((Gn.kstep (L2, W2) nm).1 x) := by
                        rw [nd_put hnN hnmm]
                        refine nd_congr fun z _ => ?_
                        show (if z = nm then V.int (L2 nm - 1) else V.int (L2 z)) = V.int (if z = nm then L2 nm - 1 else L2 z)
                        split <;> rfl
                      rw [eput]
                      have k10 : Kp [lk] Hb (upd H9 lk (.dK (nd (gs.map fun g => g.name) fun x => .int ((Gn.kstep (L2, W2) nm).1 x)))) := Kp.put k9 (.inl (by simp))
                      have hl10 : (upd H9 lk (.dK (nd (gs.map fun g => g.name) fun x => .int ((Gn.kstep (L2, W2) nm).1 x)))) lk = some (.dK (nd (gs.map fun g => g.name) fun x => .int ((Gn.kstep (L2, W2) nm).1 x))) := upd_same
                      have hw10 : (upd H9 lk (.dK (nd (gs.map fun g => g.name) fun x => .int ((Gn.kstep (L2, W2) nm).1 x)))) wt = some (.lst (W2.map sv)) := by rw [upd_ne nwl]; exact hw9
                      have hf10 : (upd H9 lk (.dK (nd (gs.map fun g => g.name) fun x => .int ((Gn.kstep (L2, W2) nm).1 x)))) fo = some (.lst ((rs' ++ [p]).map V.ref)) := by rw [upd_ne nfl]; exact hf9
                      have ha10 : (upd H9 lk (.dK (nd (gs.map fun g => g.name) fun x => .int ((Gn.kstep (L2, W2) nm).1 x)))) a = some (.lst ((Gn.tk gs g.name).map sv)) := by rw [upd_ne hnla]; exact ha9
                      generalize upd H9 lk (.dK (nd (gs.map fun g => g.name) fun x => .int ((Gn.kstep (L2, W2) nm).1 x))) = H10 at *
                      have e1 : (Gn.kstep (L2, W2) nm).1 nm = L2 nm - 1 := if_pos rfl
                      have e2 : (Gn.kstep (L2, W2) nm).2 = if L2 nm - 1 = 0 then W2 ++ [nm] else W2 := rfl
                      -- if lacking[name] == 0
                      refine ⟨_, rfl, _, rfl, lk, _, rfl, dget_nd hl10 hnN hnmm, rfl, _, rfl, ?_⟩
                      have hW2 : W2.length ≤ 1024 := by
                        have h1 : W2.length ≤ (gs.map fun g => g.name).length := Gn.nodup_le (Gn.nodup_append_right kin.nd) fun y hy => by
                          obtain ⟨g', h1, h2⟩ := kin.wg y hy
                          exact List.mem_map.mpr ⟨g', h1, h2⟩
                        omega
                      by_cases c0 : L2 nm - 1 = 0
                      · refine iteT' (decide_eq_true (by rw [e1, c0])) ?_
                        rw [if_pos c0] at e2
                        rw [e2] at kst
                        refine ⟨_, rfl, .inl ⟨rfl, _, SqL.of hw10⟩, _, rfl, wt, _, _, rfl, rfl, hw10, ?_, W2 ++ [nm], _, some (sv nm), rfl, ?_, ?_, ?_, ?_, ?_, kst⟩
                        · rw [List.length_map]
                          exact line_lt (by omega)
                        · exact Kp.put k10 (.inr nwb)
                        · rw [upd_ne nwl.symm]
                          exact hl10
                        · rw [upd_same, List.map_append]
                          rfl
                        · rw [upd_ne nfw]
                          exact hf10
                        · rw [upd_ne hn1]
                          exact ha10
                      · refine iteF' (decide_eq_false (by rw [e1]; exact fun z => c0 (V.int.inj z))) ?_
                        rw [if_neg c0] at e2
                        rw [e2] at kst
                        exact ⟨W2, _, some (sv nm), rfl, k10, hl10, hw10, hf10, ha10, kst⟩
                  · rintro σ H9 ⟨W2, L2, v4, rfl, k9, hl9, hw9, hf9, ha9, kin⟩
                    rw [List.drop_eq_nil_of_le (by rw [List.length_map]; exact Nat.le_refl _)] at kin
                    refine ⟨gs.length - (F ++ [g]).length, by rw [List.length_append, List.length_singleton]; omega, F ++ [g], rs' ++ [p], W2, L2, v4, v5, v6, v7, _, rfl, rfl, k9, hl9, hw9, hf9, hGF', Gn.KIn.done kinv hg kin⟩
end
end Gw

/-! # Net.__init__, net_of -/
namespace Gw
open PySem PySem.Spec PyProof.Rows L2
open Sf33 (Bytes)
/-- a comprehension that keeps some, beside a list of what the items stand for -/
theorem lc_filtP {be : Type} {J : It} {xs : List V} {G : Hp → Prop} {Y : Nat → Hp → V → Hp → Prop} {g : TG} {tt : TT} {te : TE} {vs : List Nat} {σ : L2.St} {H1 : Hp} {D : Addr} {Qd : Hp → Prop} (R : V → be → Prop)
    (w : Walk J xs.length G Y) (hY : ∀ (i : Nat) (H : Hp) (x : V) (H' : Hp), Y i H x H' → H' = H ∧ xs[i]? = some x) (ys : List be) (q : be → Bool) (hp : Paired R xs ys) (hz : xs.length ≤ 1000000) (nD : H1 D = none) (hG : ∀ H, Same H1 H → G H)
    (hs : ∀ (i : Nat) (x : V) (y : be) (H : Hp) (A : VK) (B : Hp → Prop), xs[i]? = some x → ys[i]? = some y → R x y → Same H1 H → (q y = true → ∀ H', Same H H' → A x H') → (q y = false → ∀ H', Same H H' → B H') →
      g x (wipe σ vs) H fun σ2 H2 => wipe σ2 vs = wipe σ vs ∧ tt σ2 H2 fun b H3 => if b = true then te σ2 H3 A else B H3)
    (hd : ∀ H' xs', Same H1 H' → H' D = some (.lst xs') → Paired R xs' (ys.filter q) → Qd H') :
    ∃ W : Nat → Nat → Hp → Prop, (∃ m, W 0 m (upd H1 D (.lst []))) ∧ ∀ i m H, W i m H →
      (J.stop i H ∧ Qd H) ∨ (J.go i H ∧ ∃ Nx : Hp → Prop, (∀ H', Nx H' → ∃ m', m' < m ∧ W (i + 1) m' H') ∧ ∀ x H', J.yld i H x H' → g x (wipe σ vs) H' fun σ2 H2 => wipe σ2 vs = wipe σ vs ∧ tt σ2 H2 fun b H3 =>
        if b = true then te σ2 H3 fun y H4 => ∃ acc, H4 D = some (.lst acc) ∧ acc.length < sizeLine ∧ Nx (upd H4 D (.lst (acc ++ [y]))) else Nx H3) := by
  have hlen : xs.length = ys.length := hp.length
  refine lc_it w (fun i H => Same H1 H ∧ ∃ xs', H D = some (.lst xs') ∧ Paired R xs' ((ys.take i).filter q)) ⟨same_upd nD, [], upd_same, .nil⟩ (fun i H _ h => hG H h.1) ?_ ?_
  · rintro i x H H' hi ⟨s1, xs', hD, hp'⟩ y
    obtain ⟨rfl, hx⟩ := hY i H x H' y
    obtain ⟨z, hz', hR⟩ := paired_at hp hx
    have em : ys.take (i + 1) = ys.take i ++ [z] := take_more hz'
    refine hs i x z H' _ _ hx hz' hR s1 (fun hq H2 s2 => ⟨_, s2 _ _ hD, ?_, same_upd' (s1.trans s2) nD, xs' ++ [x], upd_same, ?_⟩) (fun hq H2 s2 => ⟨s1.trans s2, xs', s2 _ _ hD, ?_⟩)
    · have h1 := List.length_filter_le q (ys.take i)
      rw [List.length_take] at h1
      rw [hp'.length]
      exact line_lt (by omega)
    · rw [em, List.filter_append, List.filter_cons, if_pos hq]
      exact paired_snoc hp' hR
    · rw [em, List.filter_append, List.filter_cons, if_neg (by rw [hq]; exact Bool.noConfusion), List.filter_nil, List.append_nil]
      exact hp'
  · rintro H ⟨s1, xs', hD, hp'⟩
    rw [hlen, List.take_length] at hp'
    exact hd H xs' s1 hD hp'
/-- items that are gates -/
def IsG (H : Hp) : V → Sf33.Gate → Prop := fun v g => ∃ p q, v = .ref p ∧ H p = some (.tup [sv g.name, sv (Gn.kn g.kind), .ref q]) ∧ H q = some (.lst (g.from_.map sv))
theorem isG_of {H : Hp} {bad : List Addr} : ∀ {rs : List Addr} {gs : List Sf33.Gate}, GA H bad rs gs → Paired (IsG H) (rs.map V.ref) gs
  | _, _, .nil => .nil
  | _, _, .cons ⟨_, q, h1, h2, _⟩ t => .cons ⟨_, q, rfl, h1, h2⟩ (isG_of t)
theorem isG_to {H H' : Hp} (s : Same H H') : ∀ {xs : List V} {gs : List Sf33.Gate}, Paired (IsG H) xs gs → ∃ rs, xs = rs.map V.ref ∧ GA H' [] rs gs
  | _, _, .nil => ⟨[], rfl, .nil⟩
  | _, _, .cons ⟨p, q, e, h1, h2⟩ t => by
    obtain ⟨rs, e2, h⟩ := isG_to s t
    exact ⟨p :: rs, by rw [e, e2]; rfl, .cons ⟨by simp, q, s _ _ h1, s _ _ h2, by simp⟩ h⟩
theorem GA.keepLT {H H' : Hp} {bad : List Addr} (k : ∀ b o, H b = some o → (∀ C dx fs, o ≠ .ins C dx fs) → H' b = some o) : ∀ {rs : List Addr} {gs : List Sf33.Gate}, GA H bad rs gs → GA H' bad rs gs
  | _, _, .nil => .nil
  | _, _, .cons ⟨h1, q, h2, h3, h4⟩ t => .cons ⟨h1, q, k _ _ h2 (by intro _ _ _ z; cases z), k _ _ h3 (by intro _ _ _ z; cases z), h4⟩ (GA.keepLT k t)
theorem kw_nodup {n : Sf33.Net} (f : Gn.Fine n) : (Gn.kw n).Nodup := by
  unfold Gn.kw
  refine List.nodup_append.mpr ⟨f.insn, f.regsn, fun a ha b hb e => ?_⟩
  obtain ⟨g, hg, e2⟩ := List.mem_map.mp hb
  exact f.in_gate ha (Gn.mem_regs.mp hg).1 (by rw [e, e2])
theorem inV_reg (k : Sf33.Kind) : inV (sv (Gn.kn k)) [sv (Gn.kn (.reg false)), sv (Gn.kn (.reg true))] = k.isReg := by
  have h : ∀ k ∈ Gn.kinds, inV (sv (Gn.kn k)) [sv (Gn.kn (.reg false)), sv (Gn.kn (.reg true))] = k.isReg := by decide +kernel
  exact h k (Gn.kinds_all k)
/-- the net's attributes -/
def fN (li lo lr lg : Addr) : List (Str × V) := [("inputs", .ref li), ("outputs", .ref lo), ("registers", .ref lr), ("gates", .ref lg)]
theorem fN_in {li lo lr lg : Addr} : (fN li lo lr lg).lookup ("inputs" : Str) = some (.ref li) := lk_here
theorem fN_out {li lo lr lg : Addr} : (fN li lo lr lg).lookup ("outputs" : Str) = some (.ref lo) := (lk_past (by decide +kernel)).trans lk_here
theorem fN_reg {li lo lr lg : Addr} : (fN li lo lr lg).lookup ("registers" : Str) = some (.ref lr) := (lk_past (by decide +kernel)).trans ((lk_past (by decide +kernel)).trans lk_here)
theorem fN_gat {li lo lr lg : Addr} : (fN li lo lr lg).lookup ("gates" : Str) = some (.ref lg) := (lk_past (by decide +kernel)).trans ((lk_past (by decide +kernel)).trans ((lk_past (by decide +kernel)).trans lk_here))
def fN3 (li lo lr : Addr) : List (Str × V) := [("inputs", .ref li), ("outputs", .ref lo), ("registers", .ref lr)]
theorem fN3_new {li lo lr : Addr} : putF "registers" (.ref lr) (putF "outputs" (.ref lo) (putF "inputs" (.ref li) [])) = fN3 li lo lr :=
  (congrArg (putF "registers" (.ref lr)) (put_past (f := "outputs") (g := "inputs") (r := []) (by decide +kernel))).trans ((put_past (by decide +kernel)).trans (congrArg _ (put_past (by decide +kernel))))
theorem fN_new {li lo lr lg : Addr} : putF "gates" (.ref lg) (fN3 li lo lr) = fN li lo lr lg :=
  (put_past (by decide +kernel)).trans (congrArg _ ((put_past (by decide +kernel)).trans (congrArg _ (put_past (by decide +kernel)))))
theorem fN3_in {li lo lr : Addr} : (fN3 li lo lr).lookup ("inputs" : Str) = some (.ref li) := lk_here
theorem fN3_reg {li lo lr : Addr} : (fN3 li lo lr).lookup ("registers" : Str) = some (.ref lr) := (lk_past (by decide +kernel)).trans ((lk_past (by decide +kernel)).trans lk_here)
theorem fN3_first {li lo lr : Addr} : (fN3 li lo lr).lookup ("first_names" : Str) = none := (lk_past (by decide +kernel)).trans ((lk_past (by decide +kernel)).trans ((lk_past (by decide +kernel)).trans rfl))
structure NetAt (C : Addr) (H : Hp) (t : Addr) (n : Sf33.Net) (F : List Sf33.Gate) (dx li lo lr lg : Addr) (rr rg : List Addr) : Prop where
  at_ : H t = some (.ins C dx (fN li lo lr lg))
  ins : H li = some (.lst (n.ins.map sv))
  outs : H lo = some (.lst (n.outs.map sv))
  regs : H lr = some (.lst (rr.map V.ref))
  gats : H lg = some (.lst (rg.map V.ref))
  gr : GA H [] rr n.regs
  gg : GA H [] rg F
theorem NetAt.same {C : Addr} {H H' : Hp} {t : Addr} {n : Sf33.Net} {F : List Sf33.Gate} {dx li lo lr lg : Addr} {rr rg : List Addr} (N : NetAt C H t n F dx li lo lr lg rr rg) (s : Same H H') : NetAt C H' t n F dx li lo lr lg rr rg :=
  ⟨s _ _ N.at_, s _ _ N.ins, s _ _ N.outs, s _ _ N.regs, s _ _ N.gats, N.gr.same s, N.gg.same s⟩
section
variable {P : Program} {w : World} {K : PySem.W.Frag} {mg : Str → Option Value} {base : Heap}
theorem scNInit : FnScope ["self", "told", "known", "gate"] ["self", "told"] (defScope sNInit) := ⟨rfl, rfl, rfl, by decide +kernel, rfl, by decide +kernel, by decide +kernel⟩
def spNInit (CT C CF : Addr) : Sp := fun vs H Q E => ∃ (t dx told li lo lg : Addr) (rs : List Addr) (n : Sf33.Net), vs = [.ref t, .ref told] ∧ H t = some (.ins C dx []) ∧ ToldAt CT H told li lo lg rs n ∧ Gn.Ok n ∧ Gn.wants n ∧
  (¬ Gn.noCircle n → ∀ H', Kp [t] H H' → E (.ref CF) none H') ∧
  (Gn.noCircle n → ∀ (H' : Hp) (F : List Sf33.Gate) (lr lg' : Addr) (rr rg : List Addr), Gn.Ord n F → Kp [t] H H' → NetAt C H' t n F dx li lo lr lg' rr rg → Q .non H')
theorem ok_ninit {CT C CF f fF fO : Addr} {fd fdF fdO : FuncData} (F : Fun K "__init__" "Net.__init__" sNInit f fd) (TT : TTold K mg CT) (T : TNet K mg C) (gR : GTup K mg "REGISTERS" [sv (Gn.kn (.reg false)), sv (Gn.kn (.reg true))])
    (GF : FnOk P w K mg base CX0 1 fF fdF ["self"] (spFirst C)) (mF : Meth K C "first_names" fF) (bF : Binds K fdF ["self"] [])
    (GO : FnOk P w K mg base (L2.CX P w) 2 fO fdO ["gates", "known"] (spOrder CF)) (gO : mg "in_order" = some (.ref fO)) (kO : PySem.W.keepIn K (.ref fO) = true) (bO : Binds K fdO ["gates", "known"] []) :
    FnOk P w K mg base (L2.CX P w) 3 f fd ["self", "told"] (spNInit CT C CF) := by
  obtain ⟨aR, gR, sR⟩ := gR
  refine F.okX scNInit (fun vs H Q E h => ?_) (fun cdv A outer s H vs Q E hr h => ⟨_,
      pss_cons (ps_fld (pv 0) (pe_fld (pv 1) rfl) rfl) (pss_cons (ps_fld (pv 0) (pe_fld (pv 1) rfl) rfl)
      (pss_cons (ps_fld (pv 0) (pe_lc (own := [("gate", 3)]) (g := gName 3) (tt := tTest (tOp (rIn K false) (tOp (rIxT K) (tVar 3) (tC (.int 1))) (tC (.ref aR)))) (te := tVar 3) rfl scNInit.nd (pi_list (pe_fld (pv 1) rfl)) (blkOk_by (N := ["self", "told", "known", "gate"]) (sc := defScope sNInit) (by decide +kernel))
          (fun _ _ _ _ _ => pg_name (i := 3) scNInit.nd rfl (Or.inl rfl)) (fun _ _ _ _ _ => by exact pts_one (pt_cmpR op_in_seq (pe_ix ix_tup (pv 3) pe_int (fun _ _ => rfl)) (pe_glob (v := .ref aR) rfl gR rfl) (by rfl))) (fun _ _ _ _ _ => pv 3)) rfl)
      (pss_cons (ps_set (i := 2) scNInit.nd rfl (.inl rfl) (pe_meth0 (pv 0) T.cl mF GF (hr.mono (by decide)) bF .nil pass0))
      (pss_one (ps_fld (pv 0) (pe_callS GO hr (by rfl) gO kO bO (fun σ => passAt (takes_of rfl rfl rfl rfl) σ) (pa_cons
        (pe_lc (own := [("gate", 3)]) (g := gName 3) (tt := tTest (tOp (rIn K true) (tOp (rIxT K) (tVar 3) (tC (.int 1))) (tC (.ref aR)))) (te := tVar 3) rfl scNInit.nd (pi_list (pe_fld (pv 1) rfl)) (blkOk_by (N := ["self", "told", "known", "gate"]) (sc := defScope sNInit) (by decide +kernel))
          (fun _ _ _ _ _ => pg_name (i := 3) scNInit.nd rfl (Or.inl rfl)) (fun _ _ _ _ _ => by exact pts_one (pt_cmpR op_notIn_seq (pe_ix ix_tup (pv 3) pe_int (fun _ _ => rfl)) (pe_glob (v := .ref aR) rfl gR rfl) (by rfl))) (fun _ _ _ _ _ => pv 3)) (pa_cons (pv 2) pa_nil))) rfl))))), ?_⟩)
  · obtain ⟨t, dx, told, li, lo, lg, rs, n, rfl, _⟩ := h
    rfl
  · obtain ⟨t, dx, told, li, lo, lg, rs, n, rfl, ht, hT, ok, wn, kX, kS⟩ := h
    obtain ⟨w1, w2, w3, w4, w5, w6⟩ := wn
    have fine : Gn.Fine n := ⟨w1, w5, w6⟩
    have hgl : n.gates.length ≤ 1024 := by
      have : n.names.length = n.ins.length + n.gates.length := by
        show (n.ins ++ n.gates.map fun g => g.name).length = _
        rw [List.length_append, List.length_map]
      omega
    have hrs : rs.length = n.gates.length := hT.ga.length
    obtain ⟨dxt, htd⟩ := hT.at_
    have ntt : told ≠ t := ne_of htd ht (by intro z; exact List.cons_ne_nil _ _ (HO.ins.inj z).2.2)
    have nin : ∀ b o, H b = some o → (∀ C dx fs, o ≠ .ins C dx fs) → b ≠ t := fun b o hb h => ne_of hb ht (h _ _ _)
    -- self.inputs, self.outputs
    refine ⟨_, rfl, told, CT, dxt, _, _, rfl, htd, TT.cl, TT.nI, fT_in, _, rfl, t, C, dx, [], rfl, ht, T.cl, T.nI, (by show 0 < 1000; decide), ?_⟩
    refine ⟨_, rfl, told, CT, dxt, _, _, rfl, (by rw [upd_ne ntt]; exact htd), TT.cl, TT.nO, fT_out, _, rfl, t, C, dx, _, rfl, upd_same, T.cl, T.nO, (by show 1 < 1000; decide), ?_⟩
    rw [upd_upd]
    have k2 : Kp [t] H (upd H t (.ins C dx (putF "outputs" (.ref lo) (putF "inputs" (.ref li) [])))) := Kp.put (Kp.refl _ _) (.inl (by simp))
    have ht2 : (upd H t (.ins C dx (putF "outputs" (.ref lo) (putF "inputs" (.ref li) [])))) t = some (.ins C dx (putF "outputs" (.ref lo) (putF "inputs" (.ref li) []))) := upd_same
    generalize upd H t (.ins C dx (putF "outputs" (.ref lo) (putF "inputs" (.ref li) []))) = H2 at *
    have lt2 : ∀ b o, H b = some o → (∀ C dx fs, o ≠ .ins C dx fs) → H2 b = some o := fun b o hb h => k2 b o hb (by simpa using nin b o hb h)
    have ga2 : GA H2 [] rs n.gates := (hT.ga.keepLT lt2).less (by simp)
    have hlg2 := lt2 _ _ hT.gat (by intro _ _ _ z; cases z)
    have htd2 := k2 _ _ htd (by simpa using ntt)
    -- self.registers
    refine ⟨_, rfl, told, CT, dxt, _, _, rfl, htd2, TT.cl, TT.nG, fT_gat, lg, rfl, ⟨_, SqL.of hlg2⟩, fun D nD => ?_⟩
    refine lc_filtP (xs := rs.map V.ref) (IsG H2) walk_list yAt n.gates (fun g => g.kind.isReg) (isG_of ga2) (by rw [List.length_map]; omega) nD (fun H' s => SqL.of (s _ _ hlg2)) ?_ ?_
    · rintro i x g Hx A1 B1 hx hg ⟨p, q, rfl, h1, h2⟩ s1 hA hB
      refine ⟨rfl, _, rfl, p, _, 1, _, rfl, rfl, SqT.of (s1 _ _ h1), at_nat (j := 1) rfl rfl, aR, _, rfl, .inr (sR _), rfl, rfl, _, rfl, ?_⟩
      cases c : g.kind.isReg with
      | true => exact iteT' (by show inV (sv (Gn.kn g.kind)) _ = true; rw [inV_reg, c]) ⟨_, rfl, hA c _ (Same.refl _)⟩
      | false => exact iteF' (by show inV (sv (Gn.kn g.kind)) _ = false; rw [inV_reg, c]) (hB c _ (Same.refl _))
    · intro H3 xs' s3 hD hpg
      obtain ⟨rr, rfl, gar⟩ := isG_to s3 hpg
      have ht3 := s3 _ _ ht2
      refine ⟨_, rfl, t, C, dx, _, rfl, ht3, T.cl, T.nR, (by show 2 < 1000; decide), ?_⟩
      rw [fN3_new]
      have nDt : D ≠ t := ne_of hD ht3 (by intro z; cases z)
      have k4 : Kp [t] H3 (upd H3 t (.ins C dx (fN3 li lo D))) := Kp.put (Kp.refl _ _) (.inl (by simp))
      have ht4 : (upd H3 t (.ins C dx (fN3 li lo D))) t = some (.ins C dx (fN3 li lo D)) := upd_same
      generalize upd H3 t (.ins C dx (fN3 li lo D)) = H4 at *
      have lt4 : ∀ b o, H3 b = some o → (∀ C dx fs, o ≠ .ins C dx fs) → H4 b = some o := fun b o hb h => k4 b o hb (by simpa using ne_of hb ht3 (h _ _ _))
      have lt24 : ∀ b o, H2 b = some o → (∀ C dx fs, o ≠ .ins C dx fs) → H4 b = some o := fun b o hb h => lt4 b o (s3 _ _ hb) h
      have k04 : Kp [t] H H4 := fun b o hb hn => k4 b o (s3 _ _ (k2 b o hb hn)) hn
      have hli4 := lt24 _ _ (lt2 _ _ hT.ins (by intro _ _ _ z; cases z)) (by intro _ _ _ z; cases z)
      have hD4 := lt4 _ _ hD (by intro _ _ _ z; cases z)
      have gar4 : GA H4 [] rr n.regs := gar.keepLT lt4
      have okn : ∀ x ∈ Gn.kw n, Sf33.isName x = true := fun x hx => by
        rcases List.mem_append.mp hx with hx | hx
        · exact ok.ins x hx
        · obtain ⟨g, hg, e⟩ := List.mem_map.mp hx
          rw [← e]; exact ok.name g (Gn.mem_regs.mp hg).1
      have hkl : (Gn.kw n).length ≤ 1024 := Nat.le_trans (Gn.nodup_le (kw_nodup fine) fun x hx => Gn.kw_names hx) w2
      -- known = self.first_names()
      refine ⟨_, rfl, t, dx, _, rfl, ht4, fN3_first, t, dx, li, D, _, rr, n.ins, n.regs, rfl, ht4, fN3_in, fN3_reg, hli4, hD4, gar4, kw_nodup fine, okn, hkl, fun H5 kd s5 nkd hkd => ?_⟩
      have ht5 := s5 _ _ ht4
      have ga5 : GA H5 [] rs n.gates := (ga2.keepLT lt24).same s5
      have hlg5 := s5 _ _ (lt24 _ _ hlg2 (by intro _ _ _ z; cases z))
      have htd5 := s5 _ _ (k04 _ _ htd (by simpa using ntt))
      -- self.gates
      refine ⟨_, rfl, told, CT, dxt, _, _, rfl, htd5, TT.cl, TT.nG, fT_gat, lg, rfl, ⟨_, SqL.of hlg5⟩, fun D2 nD2 => ?_⟩
      refine lc_filtP (xs := rs.map V.ref) (IsG H5) walk_list yAt n.gates (fun g => !g.kind.isReg) (isG_of ga5) (by rw [List.length_map]; omega) nD2 (fun H' s => SqL.of (s _ _ hlg5)) ?_ ?_
      · rintro i x g Hx A1 B1 hx hg ⟨p, q, rfl, h1, h2⟩ s1 hA hB
        refine ⟨rfl, _, rfl, p, _, 1, _, rfl, rfl, SqT.of (s1 _ _ h1), at_nat (j := 1) rfl rfl, aR, _, rfl, .inr (sR _), rfl, rfl, _, rfl, ?_⟩
        cases c : g.kind.isReg with
        | true => exact iteF' (by show (!inV (sv (Gn.kn g.kind)) _) = false; rw [inV_reg, c]; rfl) (hB (by rw [c]; rfl) _ (Same.refl _))
        | false => exact iteT' (by show (!inV (sv (Gn.kn g.kind)) _) = true; rw [inV_reg, c]; rfl) ⟨_, rfl, hA (by rw [c]; rfl) _ (Same.refl _)⟩
      · intro H6 xs2 s6 hD2 hpg2
        obtain ⟨rg, rfl, gag⟩ := isG_to s6 hpg2
        have k06 : Kp [t] H H6 := fun b o hb hn => s6 _ _ (s5 _ _ (k04 b o hb hn))
        refine ⟨_, rfl, D2, kd, rg, Gn.gs n, Gn.kw n, rfl, hD2, gag, s6 _ _ hkd, okn, fun g hg => ?_, fine.gsn, fun g hg => fine.apart hg, ?_, fun H7 F L s7 kinv hne => ?_, fun H7 p rs' F L s7 kinv heq hp hga => ?_⟩
        · have hm := (Gn.mem_gs.mp hg).1
          exact ⟨ok.name g hm, ok.from_ g hm, by rw [ok.ar g hm]; exact ar_le _⟩
        · exact Nat.le_trans (Gn.gs_le n) w2
        · exact kX (Gn.kahn_no fine kinv hne) H7 fun b o hb hn => s7 _ _ (k06 b o hb hn)
        · have ht7 := s7 _ _ (s6 _ _ ht5)
          refine ⟨_, rfl, t, C, dx, _, rfl, ht7, T.cl, T.nG, (by show 3 < 1000; decide), ?_⟩
          rw [fN_new]
          have k8 : ∀ b o, H7 b = some o → (∀ C dx fs, o ≠ .ins C dx fs) → (upd H7 t (.ins C dx (fN li lo D p))) b = some o := fun b o hb h => by
            rw [upd_ne (ne_of hb ht7 (h _ _ _))]
            exact hb
          have up : ∀ b o, H4 b = some o → (∀ C dx fs, o ≠ .ins C dx fs) → (upd H7 t (.ins C dx (fN li lo D p))) b = some o := fun b o hb h => k8 b o (s7 _ _ (s6 _ _ (s5 _ _ hb))) h
          refine kS (Gn.kahn_yes fine kinv heq) _ F D p rr rs' (Gn.kahn_ord fine kinv heq) ?_ ⟨upd_same, ?_, ?_, ?_, ?_, ?_, ?_⟩
          · exact fun b o hb hn => by
              rw [upd_ne (by simpa using hn)]
              exact s7 _ _ (k06 b o hb hn)
          · exact up _ _ hli4 (by intro _ _ _ z; cases z)
          · exact up _ _ (lt24 _ _ (lt2 _ _ hT.outs (by intro _ _ _ z; cases z)) (by intro _ _ _ z; cases z)) (by intro _ _ _ z; cases z)
          · exact up _ _ hD4 (by intro _ _ _ z; cases z)
          · exact k8 _ _ hp (by intro _ _ _ z; cases z)
          · exact gar4.keepLT up
          · exact hga.keepLT k8
/-! ### net_of -/
theorem passLen {X : Cx} {W : WX} (tk : Takes X W) (k : Nat) (hN : X.N.length = k) : Passes (L2.CX X.prog X.w) X (fun cls d H => ∀ σ : L2.St, σ.length = k → W cls d σ H) :=
  fun pins σ H s e s' I c => tk e s' (XE.of_call I (fun cls d H' h => h σ (I.len.trans hN)) c)
theorem scNetOf : FnScope ["text", "told", "found"] ["text"] (defScope sNetOf) := ⟨rfl, rfl, rfl, by decide +kernel, rfl, by decide +kernel, by decide +kernel⟩
def spNetOf (K : PySem.W.Frag) (C : Addr) : Sp := fun vs H Q _ => ∃ (a : Addr) (b : Bytes), vs = [.ref a] ∧ SqL K H a (b.map iv) ∧ b.length ≤ 65536 ∧
  (Sf33.network (b.length : Int) b = none → ∀ H', Same H H' → Q .non H') ∧
  (∀ n, Sf33.network (b.length : Int) b = some n → Gn.Ok n → Gn.wants n → Gn.noCircle n → ∀ (H' : Hp) (t : Addr) (F : List Sf33.Gate) (dx li lo lr lg : Addr) (rr rg : List Addr), Gn.Ord n F → Same H H' → NetAt C H' t n F dx li lo lr lg rr rg → Q (.ref t) H')
theorem ok_netOf {CT C CF f fT fW fI : Addr} {fd fdT fdW fdI : FuncData} (F : Fun K "net_of" "net_of" sNetOf f fd) (T : Err K mg CF) (TN : TNet K mg C) (M : Mk K C fI)
    (GT : FnOk P w K mg base (L2.CX P w) 3 fT fdT ["text"] (spToldBy K CT CF)) (gT : mg "told_by" = some (.ref fT)) (kT : PySem.W.keepIn K (.ref fT) = true) (bT : Binds K fdT ["text"] [])
    (GW : FnOk P w K mg base (L2.CX P w) 2 fW fdW ["told"] (spWantN CT CF)) (gW : mg "want_names" = some (.ref fW)) (kW : PySem.W.keepIn K (.ref fW) = true) (bW : Binds K fdW ["told"] [])
    (GI : FnOk P w K mg base (L2.CX P w) 3 fI fdI ["self", "told"] (spNInit CT C CF)) (bI : Binds K fdI ["self", "told"] []) :
    FnOk P w K mg base CX0 5 f fd ["text"] (spNetOf K C) := by
  refine F.ok scNetOf (fun vs H Q E h => ?_) (fun cdv A outer s H vs Q E hr h => ⟨_,
      pss_cons (ps_try_only (tb := fun W => tSeq (tAsg (tCallS (spToldBy K CT CF) (WE W) (tCons (tVar 0) tNil)) (gName 1)) (tSeq (tDrop (tCallS (spWantN CT CF) (WE W) (tCons (tVar 1) tNil))) (tAsg (tMake C (spNInit CT C CF) [] (fun cls d H => ∀ σ : L2.St, σ.length = 3 → W cls d σ H) (tCons (tVar 1) tNil)) (gName 2))))
          (ts := fun _ _ _ => tAsg (tC .non) (gName 2)) (Wout := fun _ _ _ _ => False) rfl rfl ⟨rfl, by decide, .inl T.gF⟩ takes0
        (fun W pn xe tk _ => pss_cons (ps_set (i := 1) scNetOf.nd rfl (.inl rfl) (pe_callS GT (hr.mono (by decide)) (by rfl) gT kT bT (fun σ => passAt tk σ) (by exact (pa_cons (pv 0) pa_nil))))
          (pss_cons (ps_expr (pe_callS GW (hr.mono (by decide)) (by rfl) gW kW bW (fun σ => passAt tk σ) (by exact (pa_cons (pv 1) pa_nil))))
          (pss_one (ps_set (i := 2) scNetOf.nd rfl (.inl rfl) (pe_make M GI hr (by rfl) TN.gC bI .nil (passLen tk 3 rfl) (by exact (pa_cons (pv 1) pa_nil)))))))
        (fun _ _ _ _ _ _ _ => pss_one (ps_set (i := 2) scNetOf.nd rfl (.inl rfl) pe_non)))
      (pss_one (ps_ret (pv 2))), ?_⟩)
  · obtain ⟨a, b, rfl, _⟩ := h
    rfl
  · obtain ⟨a, b, rfl, hS, hb, kN, kS⟩ := h
    rw [Gn.network_eq hb] at kN kS
    -- told = told_by(text)
    refine ⟨_, rfl, a, b, rfl, hS, hb, fun hN H' s => ⟨true, T.eF, fun _ a0 na => ⟨_, rfl, kN (by rw [hN]; rfl) H' s⟩, fun q => Bool.noConfusion q⟩, fun n hn H1 t li lo lg rs s1 T1 => ?_⟩
    have ok : Gn.Ok n := Gn.ok_told Gn.ok_empty hn
    rw [hn, Option.bind_some] at kN kS
    have hsz : Gn.size n ≤ 65536 := by
      have := Gn.size_toldBy_take (b := b) (i := (Gn.rows b).length) (n := n) (by rw [List.take_length]; exact hn)
      omega
    -- want_names(told)
    refine ⟨_, rfl, t, li, lo, lg, rs, n, rfl, T1, ok, hsz, fun hw H' s => ⟨true, T.eF, fun _ a0 na => ⟨_, rfl, kN (if_neg fun z => hw ((Gn.right_iff n).mp z).1) H' (s1.trans s)⟩, fun q => Bool.noConfusion q⟩, fun hw H2 s2 => ?_⟩
    -- found = Net(told)
    refine ⟨_, rfl, fun x dx nx ndx nex => ?_⟩
    have s12 := s1.trans s2
    have sx : Same H2 (upd (upd H2 dx (.own x)) x (.ins C dx [])) := (same_upd ndx).trans (same_upd (by rw [upd_ne (fun z => nex z.symm)]; exact nx))
    have kpS : ∀ {H'}, Kp [x] (upd (upd H2 dx (.own x)) x (.ins C dx [])) H' → Same H H' := fun {H'} k q o hq => by
      have h1 := s12 _ _ hq
      exact k q o (sx _ _ h1) (by simpa using ne_of_none h1 nx)
    refine ⟨x, dx, t, li, lo, lg, rs, n, rfl, upd_same, (T1.same s2).same sx, ok, hw, fun hc H' k σ hσ => ?_, fun hc H' F lr lg' rr rg ord k NA => ⟨rfl, ?_⟩⟩
    · refine ⟨true, T.eF, fun _ a0 na => ⟨.non, ?_, kN (if_neg fun z => hc ((Gn.right_iff n).mp z).2) H' (kpS k)⟩, fun q => Bool.noConfusion q⟩
      exact List.getElem?_set_self (by omega)
    · exact ⟨_, rfl, kS n (if_pos ((Gn.right_iff n).mpr ⟨hw, hc⟩)) ok hw hc H' x F dx li lo lr lg' rr rg ord (kpS k) NA⟩
end
end Gw

/-! # list(d.values()); a dict that was just made walked by its keys; bytes handed in -/
namespace Gw
open PySem PySem.Spec PyProof.Rows L2
open Sf33 (Bytes)
/-- the view of a dict's values -/
def valsO (p d : Addr) : HO := .ext fun h => h.IsValuesView p d
theorem valsO_ok {P : Program} {w : World} {H : Hp} {h : Heap} {p d : Addr} (e : h.get? p = some { cls := .type "dict_values", data := .fields #[.ref d] }) : ObjOk P w H h p (valsO p d) :=
  ⟨⟨_, e, rfl, rfl⟩, ⟨_, e⟩, fun h1 h2 x k => by
    obtain ⟨o, ho, r⟩ := x
    exact ⟨o, k o ho, r⟩⟩
section
variable {X : Cx}
def rVals : V → List V → Hp → VK → Prop := fun x xs H Q => ∃ (a : Addr) (kvs : KVs), x = .ref a ∧ xs = [] ∧ H a = some (.dK kvs) ∧ ∀ p, H p = none → Q (.ref p) (upd H p (valsO p a))
theorem mt_vals : MtR X "dict.values" rVals := by
  intro pins s σ H x xs v us Q I rx rxs h
  obtain ⟨a, kvs, rfl, rfl, ha, q⟩ := h
  cases rx
  cases rxs
  obtain ⟨z, lo, vs, rel, dd⟩ := I.hok a _ ha
  refine call_meetsIn F.slot_dict_values dd.typeIs F.entry_dict_values (F.args_dict_values_1 _) (meets_dict_values (mixKind X.prog X.w) a lo) ⟨⟨vs, dd⟩, ?_⟩
  have hf : H s.heap.objs.size = none := I.hok.fresh (Nat.le_refl _)
  exact ⟨.ref s.heap.objs.size, upd H s.heap.objs.size (valsO s.heap.objs.size a), I.laid (t' := s.toks) (fun b u e => Heap.get?_push_of_some _ e) (Nat.le_refl _) (valsO_ok (Heap.get?_push_size _ rfl)), rfl, q _ hf⟩
theorem vals_of : ∀ {xs : List V} {us : List Value}, xs.length = us.length → (∀ (i : Nat) (x : V) (u : Value), xs[i]? = some x → us[i]? = some u → RelV x u) → Vals xs us
  | [], [], _, _ => .nil
  | [], _ :: _, h, _ => by cases h
  | _ :: _, [], h, _ => by cases h
  | x :: xs, u :: us, h, k => .cons (k 0 x u rfl rfl) (vals_of (Nat.succ.inj h) fun i y v e1 e2 => k (i + 1) y v e1 e2)
theorem kv_get : ∀ {kvs : KVs} {vs : List (Key × Value)}, KV kvs vs → ∀ {i : Nat} {p : Key × V} {q : Key × Value}, kvs[i]? = some p → vs[i]? = some q → p.1 = q.1 ∧ RelV p.2 q.2
  | _, _, .nil, i, p, q, h, _ => by simp at h
  | _, _, .cons r t, 0, p, q, h1, h2 => by
    have e1 := Option.some.inj h1
    have e2 := Option.some.inj h2
    subst e1
    subst e2
    exact r
  | _, _, .cons r t, i + 1, p, q, h1, h2 => kv_get t (i := i) h1 h2
/-- list(v), v the view of a dict's values -/
theorem call_listVals (hc : X.calm = true) : CallR X (.type "list") (fun xs H Q => ∃ (p d : Addr) (kvs : KVs), xs = [.ref p] ∧ H p = some (valsO p d) ∧ H d = some (.dK kvs) ∧ ∀ q, H q = none → Q (.ref q) (upd H q (.lst (kvs.map (·.2))))) := by
  intro pins s σ H xs us Q I r h
  obtain ⟨p, d, kvs, ex, hp, hd, q⟩ := h
  subst ex
  obtain ⟨u, eu, rx⟩ := vals1 r
  subst eu
  cases rx
  obtain ⟨hv, _, _⟩ := (show ObjOk X.prog X.w H s.heap p (valsO p d) from I.hok p _ hp)
  obtain ⟨z, lo, vs, rel, dd⟩ := I.hok d _ hd
  obtain ⟨ep, hat⟩ := dd.dictAt
  have hlen : kvs.length = vs.length := rel.length
  refine PySem.W.kdl_call (PySem.W.kdl_values (knd := mixKind X.prog X.w) (r := p) (d := d) (kvs := vs) (ep := ep)) (I.ok.hd hc) ⟨hv, hat⟩ (by rw [← hlen]; exact z) fun h' tk acc c hk hD hacc => ?_
  have hvs : Vals (kvs.map (·.2)) acc.toList := vals_of ((List.length_map _).trans (hlen.trans (hacc.1.symm.trans Array.length_toList.symm))) fun i x u e1 e2 => by
    obtain ⟨kv, h1, rfl⟩ := map_at e1
    obtain ⟨k, h2⟩ := hacc.2 i u (by rw [← Array.getElem?_toList]; exact e2)
    exact (kv_get rel h1 h2).2
  refine ⟨.ref s.heap.objs.size, upd H s.heap.objs.size (.lst (kvs.map (·.2))), I.laid (t' := tk) hk (Nat.le_refl _) ⟨by rw [List.length_map]; exact z, acc.toList, c, hvs, ?_⟩, rfl, q _ (I.hok.fresh (Nat.le_refl _))⟩
  rw [Array.toArray_toList]
  exact hD
/-- a dict that's just been made, by its keys: nobody writes to it from now on -/
def tKept (td : TE) : TE := fun σ H Q => td σ H fun x H1 => ∃ d kvs, x = .ref d ∧ H1 d = some (.dK kvs) ∧ ∀ o, Q x (upd H1 d (.frz o (.dK kvs)))
theorem pe_kept {e : Expr} {td : TE} (he : PE X e td) : PE X e (tKept td) := by
  refine ⟨fun pins s σ H Q I h => ?_⟩
  refine thn (he.run pins s σ H _ I h) fun u s1 ⟨x, H1, I1, rx, d, kvs, ex, hd, q⟩ => ?_
  obtain ⟨od, I2⟩ := I1.lock hd trivial
  exact ⟨x, _, I2, rx, q od⟩
end
/-! ### bytes handed in as numbers -/
theorem ofNat_toNat {z : Int} (h : 0 ≤ z ∧ z ≤ 255) : iv (UInt8.ofNat z.toNat) = .int z := by
  unfold iv
  have h1 : (UInt8.ofNat z.toNat).toNat = z.toNat := by
    rw [UInt8.toNat_ofNat']
    omega
  rw [h1]
  congr 1
  omega
theorem bytes_iv : ∀ {ns : List Int}, (∀ z ∈ ns, 0 ≤ z ∧ z ≤ 255) → (Sf33Neutral.bytesOf ns).map iv = ns.map V.int
  | [], _ => rfl
  | z :: ns, h => by
    show iv (UInt8.ofNat z.toNat) :: (Sf33Neutral.bytesOf ns).map iv = V.int z :: ns.map V.int
    rw [ofNat_toNat (h z (List.mem_cons_self ..)), bytes_iv fun y hy => h y (List.mem_cons_of_mem _ hy)]
theorem bytes_len (ns : List Int) : (Sf33Neutral.bytesOf ns).length = ns.length := List.length_map _
end Gw

/-! # plain_bits, bits_of, Net.values -/
namespace Gw
open PySem PySem.Spec PyProof.Rows L2
open Sf33 (Bytes)
abbrev sPlain : Stmt := topS 8
abbrev sBitsOf : Stmt := topS 9
abbrev sValues : Stmt := inClass (topS 33) 2
/-! ### bits of numbers that aren't below 0 -/
theorem bAnd (a b : Nat) : Builtin.bitAnd (a : Int) (b : Int) = ((a &&& b : Nat) : Int) := by
  unfold Builtin.bitAnd
  rw [decide_eq_true (Int.natCast_nonneg a), decide_eq_true (Int.natCast_nonneg b)]
  rfl
theorem bOr (a b : Nat) : Builtin.bitOr (a : Int) (b : Int) = ((a ||| b : Nat) : Int) := bitOr_nn (Int.natCast_nonneg a) (Int.natCast_nonneg b)
theorem bXor (a b : Nat) : Builtin.bitXor (a : Int) (b : Int) = ((a ^^^ b : Nat) : Int) := Bits.bitXor_pp (Int.natCast_nonneg a) (Int.natCast_nonneg b)
/-- ~a & c -/
theorem bNotAnd (a c : Nat) : Builtin.bitAnd (Builtin.bitNot (a : Int)) (c : Int) = ((c - (c &&& a) : Nat) : Int) := by
  have h1 : Builtin.bitNot (a : Int) = -(a : Int) - 1 := rfl
  have h2 : Builtin.bitNot (Builtin.bitNot (a : Int)) = (a : Int) := by
    show -(-(a : Int) - 1) - 1 = (a : Int)
    omega
  have h3 : decide ((0 : Int) ≤ Builtin.bitNot (a : Int)) = false := decide_eq_false (by rw [h1]; omega)
  unfold Builtin.bitAnd
  rw [h3, decide_eq_true (Int.natCast_nonneg c)]
  show (c : Int) - (((c : Int).toNat &&& (Builtin.bitNot (Builtin.bitNot (a : Int))).toNat : Nat) : Int) = _
  rw [h2, Int.toNat_natCast, Int.toNat_natCast]
  have h4 : c &&& a ≤ c := Nat.and_le_left
  omega
def nv (n : Nat) : V := .int (n : Int)
def turnedL : List (Str × V) := [(S (Gn.kn .nand), sv (Gn.kn .and)), (S (Gn.kn .nor), sv (Gn.kn .or)), (S (Gn.kn .xnor), sv (Gn.kn .xor)), (S (Gn.kn .not), sv (Gn.kn .buf)), (S (Gn.kn .one), sv (Gn.kn .zero))]
theorem turned_look (k : Sf33.Kind) : turnedL.lookup (S (Gn.kn k)) = (Gn.turned k).map fun j => sv (Gn.kn j) := by
  have h : ∀ k ∈ Gn.kinds, turnedL.lookup (S (Gn.kn k)) = (Gn.turned k).map fun j => sv (Gn.kn j) := by decide +kernel
  exact h k (Gn.kinds_all k)
section
variable {P : Program} {w : World} {K : PySem.W.Frag} {mg : Str → Option Value} {base : Heap}
theorem scPlain : FnScope ["kind", "some", "a", "b", "c"] ["kind", "some"] (defScope sPlain) := ⟨rfl, rfl, rfl, by decide +kernel, rfl, by decide +kernel, by decide +kernel⟩
/-- the kinds that aren't turned ones -/
def isPlain (k : Sf33.Kind) : Prop := k = .zero ∨ k = .buf ∨ k = .and ∨ k = .or ∨ k = .xor ∨ k = .maj ∨ k = .mux
def spPlain (K : PySem.W.Frag) : Sp := fun vs H Q _ => ∃ (k : Sf33.Kind) (q : Addr) (l : List Nat), vs = [sv (Gn.kn k), .ref q] ∧ SqL K H q (l.map nv) ∧ isPlain k ∧ l.length = Gn.ar k ∧ Q (nv (Gn.plN k l)) H
theorem ok_plain {f : Addr} {fd : FuncData} (F : Fun K "plain_bits" "plain_bits" sPlain f fd) (gZ : GStr mg "ZERO" (S (Gn.kn .zero))) : FnOk P w K mg base CX0 1 f fd ["kind", "some"] (spPlain K) := by
  obtain ⟨tZ, gZ⟩ := gZ
  refine F.ok scPlain (fun vs H Q E h => ?_) (fun cdv A outer s H vs Q E hr h => ⟨_,
      pss_cons (ps_if (pt_cmpR op_eq (pv 0) (pe_glob (v := sv (Gn.kn .zero)) rfl gZ ⟨_, rfl⟩) (nomark _)) (pss_one (ps_ret pe_int)) pss_nil)
      (pss_cons (ps_if (pt_cmpR op_eq (pv 0) pe_str (nomark _)) (pss_one (ps_ret (pe_ix ix_list (pv 1) pe_int (fun _ _ => rfl)))) pss_nil)
      (pss_cons (ps_if (pt_cmpR op_eq (pv 0) pe_str (nomark _)) (pss_one (ps_ret (pe_op op_and (pe_ix ix_list (pv 1) pe_int (fun _ _ => rfl)) (pe_ix ix_list (pv 1) pe_int (fun _ _ => rfl))))) pss_nil)
      (pss_cons (ps_if (pt_cmpR op_eq (pv 0) pe_str (nomark _)) (pss_one (ps_ret (pe_op op_or (pe_ix ix_list (pv 1) pe_int (fun _ _ => rfl)) (pe_ix ix_list (pv 1) pe_int (fun _ _ => rfl))))) pss_nil)
      (pss_cons (ps_if (pt_cmpR op_eq (pv 0) pe_str (nomark _)) (pss_one (ps_ret (pe_op op_xor (pe_ix ix_list (pv 1) pe_int (fun _ _ => rfl)) (pe_ix ix_list (pv 1) pe_int (fun _ _ => rfl))))) pss_nil)
      (pss_cons (ps_asg (pv 1) (pg_unl rfl (pgs_cons (pg_name (i := 2) scPlain.nd rfl (.inl rfl)) (pgs_cons (pg_name (i := 3) scPlain.nd rfl (.inl rfl)) (pgs_cons (pg_name (i := 4) scPlain.nd rfl (.inl rfl)) pgs_nil)))))
      (pss_cons (ps_if (pt_cmpR op_eq (pv 0) pe_str (nomark _)) (pss_one (ps_ret (pe_op op_or (pe_op op_or (pe_op op_and (pv 2) (pv 3)) (pe_op op_and (pv 2) (pv 4))) (pe_op op_and (pv 3) (pv 4))))) pss_nil)
      (pss_one (ps_ret (pe_op op_or (pe_op op_and (pv 2) (pv 3)) (pe_op op_and (pe_un un_inv (pv 2)) (pv 4))))))))))), ?_⟩)
  · obtain ⟨k, q, l, rfl, _⟩ := h
    rfl
  · obtain ⟨k, q, l, rfl, hq, hk, hl, hQ⟩ := h
    rcases hk with rfl | rfl | rfl | rfl | rfl | rfl | rfl
    · refine ⟨_, rfl, rfl, _, rfl, iteT' (by decide +kernel) ?_⟩
      exact hQ
    · obtain ⟨x, rfl⟩ : ∃ x, l = [x] := List.length_eq_one_iff.mp hl
      refine ⟨_, rfl, rfl, _, rfl, iteF' (by decide +kernel) ?_⟩
      refine ⟨_, rfl, rfl, _, rfl, iteT' (by decide +kernel) ?_⟩
      exact ⟨_, rfl, q, _, 0, nv x, rfl, rfl, hq, at_nat (j := 0) rfl rfl, hQ⟩
    · obtain ⟨x, y, rfl⟩ : ∃ x y, l = [x, y] := by
        match l, hl with
        | [x, y], _ => exact ⟨x, y, rfl⟩
      refine ⟨_, rfl, rfl, _, rfl, iteF' (by decide +kernel) ?_⟩
      refine ⟨_, rfl, rfl, _, rfl, iteF' (by decide +kernel) ?_⟩
      refine ⟨_, rfl, rfl, _, rfl, iteT' (by decide +kernel) ?_⟩
      exact ⟨_, rfl, q, _, 0, nv x, rfl, rfl, hq, at_nat (j := 0) rfl rfl, _, rfl, q, _, 1, nv y, rfl, rfl, hq, at_nat (j := 1) rfl rfl, (x : Int), (y : Int), rfl, rfl, by show Q (V.int (Builtin.bitAnd (x : Int) (y : Int))) H; rw [bAnd]; exact hQ⟩
    · obtain ⟨x, y, rfl⟩ : ∃ x y, l = [x, y] := by
        match l, hl with
        | [x, y], _ => exact ⟨x, y, rfl⟩
      refine ⟨_, rfl, rfl, _, rfl, iteF' (by decide +kernel) ?_⟩
      refine ⟨_, rfl, rfl, _, rfl, iteF' (by decide +kernel) ?_⟩
      refine ⟨_, rfl, rfl, _, rfl, iteF' (by decide +kernel) ?_⟩
      refine ⟨_, rfl, rfl, _, rfl, iteT' (by decide +kernel) ?_⟩
      exact ⟨_, rfl, q, _, 0, nv x, rfl, rfl, hq, at_nat (j := 0) rfl rfl, _, rfl, q, _, 1, nv y, rfl, rfl, hq, at_nat (j := 1) rfl rfl, (x : Int), (y : Int), rfl, rfl, by show Q (V.int (Builtin.bitOr (x : Int) (y : Int))) H; rw [bOr]; exact hQ⟩
    · obtain ⟨x, y, rfl⟩ : ∃ x y, l = [x, y] := by
        match l, hl with
        | [x, y], _ => exact ⟨x, y, rfl⟩
      refine ⟨_, rfl, rfl, _, rfl, iteF' (by decide +kernel) ?_⟩
      refine ⟨_, rfl, rfl, _, rfl, iteF' (by decide +kernel) ?_⟩
      refine ⟨_, rfl, rfl, _, rfl, iteF' (by decide +kernel) ?_⟩
      refine ⟨_, rfl, rfl, _, rfl, iteF' (by decide +kernel) ?_⟩
      refine ⟨_, rfl, rfl, _, rfl, iteT' (by decide +kernel) ?_⟩
      exact ⟨_, rfl, q, _, 0, nv x, rfl, rfl, hq, at_nat (j := 0) rfl rfl, _, rfl, q, _, 1, nv y, rfl, rfl, hq, at_nat (j := 1) rfl rfl, (x : Int), (y : Int), rfl, rfl, by show Q (V.int (Builtin.bitXor (x : Int) (y : Int))) H; rw [bXor]; exact hQ⟩
    · obtain ⟨x, y, z, rfl⟩ : ∃ x y z, l = [x, y, z] := by
        match l, hl with
        | [x, y, z], _ => exact ⟨x, y, z, rfl⟩
      refine ⟨_, rfl, rfl, _, rfl, iteF' (by decide +kernel) ?_⟩
      refine ⟨_, rfl, rfl, _, rfl, iteF' (by decide +kernel) ?_⟩
      refine ⟨_, rfl, rfl, _, rfl, iteF' (by decide +kernel) ?_⟩
      refine ⟨_, rfl, rfl, _, rfl, iteF' (by decide +kernel) ?_⟩
      refine ⟨_, rfl, rfl, _, rfl, iteF' (by decide +kernel) ?_⟩
      refine ⟨_, rfl, q, _, rfl, hq, rfl, _, _, rfl, _, _, rfl, _, _, rfl, rfl, ?_⟩
      refine ⟨_, rfl, rfl, _, rfl, iteT' (by decide +kernel) ?_⟩
      refine ⟨_, rfl, _, rfl, (x : Int), (y : Int), rfl, rfl, _, rfl, _, rfl, (x : Int), (z : Int), rfl, rfl, _, _, rfl, rfl, _, rfl, _, rfl, (y : Int), (z : Int), rfl, rfl, _, _, rfl, rfl, ?_⟩
      show Q (V.int (Builtin.bitOr (Builtin.bitOr (Builtin.bitAnd (x : Int) (y : Int)) (Builtin.bitAnd (x : Int) (z : Int))) (Builtin.bitAnd (y : Int) (z : Int)))) H
      rw [bAnd, bAnd, bAnd, bOr, bOr]
      exact hQ
    · obtain ⟨x, y, z, rfl⟩ : ∃ x y z, l = [x, y, z] := by
        match l, hl with
        | [x, y, z], _ => exact ⟨x, y, z, rfl⟩
      refine ⟨_, rfl, rfl, _, rfl, iteF' (by decide +kernel) ?_⟩
      refine ⟨_, rfl, rfl, _, rfl, iteF' (by decide +kernel) ?_⟩
      refine ⟨_, rfl, rfl, _, rfl, iteF' (by decide +kernel) ?_⟩
      refine ⟨_, rfl, rfl, _, rfl, iteF' (by decide +kernel) ?_⟩
      refine ⟨_, rfl, rfl, _, rfl, iteF' (by decide +kernel) ?_⟩
      refine ⟨_, rfl, q, _, rfl, hq, rfl, _, _, rfl, _, _, rfl, _, _, rfl, rfl, ?_⟩
      refine ⟨_, rfl, rfl, _, rfl, iteF' (by decide +kernel) ?_⟩
      refine ⟨_, rfl, _, rfl, (x : Int), (y : Int), rfl, rfl, _, rfl, (x : Int), rfl, _, rfl, _, (z : Int), rfl, rfl, _, _, rfl, rfl, ?_⟩
      show Q (V.int (Builtin.bitOr (Builtin.bitAnd (x : Int) (y : Int)) (Builtin.bitAnd (Builtin.bitNot (x : Int)) (z : Int)))) H
      rw [bAnd, bNotAnd, bOr]
      exact hQ
/-! ### bits_of -/
theorem scBitsOf : FnScope ["kind", "some", "ones"] ["kind", "some", "ones"] (defScope sBitsOf) := ⟨rfl, rfl, rfl, by decide +kernel, rfl, by decide +kernel, by decide +kernel⟩
def spBitsOf (K : PySem.W.Frag) : Sp := fun vs H Q _ => ∃ (k : Sf33.Kind) (q : Addr) (l : List Nat) (o : Nat), vs = [sv (Gn.kn k), .ref q, nv o] ∧ SqL K H q (l.map nv) ∧ k.isReg = false ∧ l.length = Gn.ar k ∧ Q (nv (Gn.gtN k l o)) H
theorem turned_plain {k j : Sf33.Kind} (h : Gn.turned k = some j) : isPlain j ∧ Gn.ar j = Gn.ar k := by
  cases k <;> simp only [Gn.turned, Option.some.injEq, reduceCtorEq] at h <;> (subst h; exact ⟨by unfold isPlain; simp, rfl⟩)
theorem untured_plain {k : Sf33.Kind} (h : Gn.turned k = none) (hr : k.isReg = false) : isPlain k := by
  unfold isPlain
  cases k <;> simp_all [Gn.turned, Sf33.Kind.isReg]
theorem ok_bitsOf {f fP : Addr} {fd fdP : FuncData} (F : Fun K "bits_of" "bits_of" sBitsOf f fd) (gT : GDict K w mg "TURNED" turnedL)
    (GP : FnOk P w K mg base CX0 1 fP fdP ["kind", "some"] (spPlain K)) (gP : mg "plain_bits" = some (.ref fP)) (kP : PySem.W.keepIn K (.ref fP) = true) (bP : Binds K fdP ["kind", "some"] []) : FnOk P w K mg base CX0 2 f fd ["kind", "some", "ones"] (spBitsOf K) := by
  obtain ⟨aT, esT, nT, gT, DT, ET⟩ := gT
  refine F.ok scBitsOf (fun vs H Q E h => ?_) (fun cdv A outer s H vs Q E hr h => ⟨_,
      pss_cons (ps_if (pt_cmpR (op_in_kd DT) (pv 0) (pe_glob (v := .ref aT) rfl gT rfl) (by rfl))
        (pss_one (ps_ret (pe_op op_xor (pe_call GP hr (by rfl) gP kP bP .nil pass0 (pa_cons (pe_ix ix_kdict (pe_glob (v := .ref aT) rfl gT rfl) (pv 0) (fun _ _ => rfl)) (pa_cons (pv 1) pa_nil))) (pv 2)))) pss_nil)
      (pss_one (ps_ret (pe_op op_and (pe_call GP hr (by rfl) gP kP bP .nil pass0 (pa_cons (pv 0) (pa_cons (pv 1) pa_nil))) (pv 2)))), ?_⟩)
  · obtain ⟨k, q, l, o, rfl, _⟩ := h
    rfl
  · obtain ⟨k, q, l, o, rfl, hq, hr', hl, hQ⟩ := h
    have hlk := turned_look k
    obtain ⟨rk, hrk, hrs⟩ := gdict_in DT ET (S (Gn.kn k))
    refine ⟨_, rfl, S (Gn.kn k), rk, rfl, rfl, hrk, _, rfl, ?_⟩
    unfold Gn.gtN at hQ
    cases ht : Gn.turned k with
    | some j =>
      rw [ht] at hQ hlk
      refine iteT' (by rw [hrs, hlk]; rfl) ?_
      obtain ⟨hj1, hj2⟩ := turned_plain ht
      obtain ⟨u, hu, ru⟩ := gdict_some DT ET hlk
      refine ⟨_, rfl, aT, S (Gn.kn k), sv (Gn.kn j), rfl, rfl, ⟨esT, nT, u, DT.at_, DT.lit, hu, ru⟩, _, rfl, j, q, l, rfl, hq, hj1, by rw [hl, hj2], _, rfl, (Gn.plN j l : Int), (o : Int), rfl, rfl, ?_⟩
      show Q (V.int (Builtin.bitXor (Gn.plN j l : Int) (o : Int))) H
      rw [bXor]
      exact hQ
    | none =>
      rw [ht] at hQ hlk
      refine iteF' (by rw [hrs, hlk]; rfl) ?_
      refine ⟨_, rfl, _, rfl, k, q, l, rfl, hq, untured_plain ht hr', hl, _, rfl, (Gn.plN k l : Int), (o : Int), rfl, rfl, ?_⟩
      show Q (V.int (Builtin.bitAnd (Gn.plN k l : Int) (o : Int))) H
      rw [bAnd]
      exact hQ
/-! ### Net.values -/
theorem putK_le (kvs : KVs) (k : Key) (v : V) : (putK kvs k v).length ≤ kvs.length + 1 := by
  by_cases c : k ∈ kvs.map (·.1)
  · rw [putK_len_old c]; omega
  · rw [putK_new' c, List.length_append]; exact Nat.le_refl _
theorem scValues : FnScope ["self", "bits", "ones", "name", "kind", "some", "one"] ["self", "bits", "ones"] (defScope sValues) := ⟨rfl, rfl, rfl, by decide +kernel, rfl, by decide +kernel, by decide +kernel⟩
/-- m columns: the bits that names have in each; what inputs and registers have stands in the dict -/
def spValues (C : Addr) : Sp := fun vs H Q _ => ∃ (t bd : Addr) (n : Sf33.Net) (F : List Sf33.Gate) (dx li lo lr lg : Addr) (rr rg : List Addr) (m : Nat) (kvs : KVs) (B : Bytes → Nat) (v : Nat → Bytes → Bool), vs = [.ref t, .ref bd, nv (2 ^ m - 1)] ∧ NetAt C H t n F dx li lo lr lg rr rg ∧ Gn.Ord n F ∧ Gn.Ok n ∧ Gn.wants n ∧
  H bd = some (.dK kvs) ∧ kvs.length ≤ 4000 ∧ (∀ x ∈ Gn.kw n, valV kvs (kn x) = some (nv (B x)) ∧ Gn.Col m (B x) fun c => v c x) ∧
  (∀ c, c < m → ∀ g ∈ Gn.gs n, v c g.name = g.kind.run (g.from_.map (v c))) ∧
  ∀ (H' : Hp) (kvs' : KVs) (B' : Bytes → Nat), Kp [bd] H H' → H' bd = some (.dK kvs') → (∀ x ∈ n.names, valV kvs' (kn x) = some (nv (B' x)) ∧ Gn.Col m (B' x) fun c => v c x) → Q (.ref bd) H'
theorem ok_values {C f fB : Addr} {fd fdB : FuncData} (F : Fun K "values" "Net.values" sValues f fd) (T : TNet K mg C)
    (GB : FnOk P w K mg base CX0 2 fB fdB ["kind", "some", "ones"] (spBitsOf K)) (gB : mg "bits_of" = some (.ref fB)) (kB : PySem.W.keepIn K (.ref fB) = true) (bB : Binds K fdB ["kind", "some", "ones"] []) : FnOk P w K mg base CX0 3 f fd ["self", "bits", "ones"] (spValues C) := by
  refine F.ok scValues (fun vs H Q E h => ?_) (fun cdv A outer s H vs Q E hr h => ⟨_,
      pss_cons (ps_for PassesOwn.never rfl (pi_list (pe_fld (pv 0) rfl)) (pg_tup rfl (pgs_cons (pg_name (i := 3) scValues.nd rfl (.inl rfl)) (pgs_cons (pg_name (i := 4) scValues.nd rfl (.inl rfl)) (pgs_cons (pg_name (i := 5) scValues.nd rfl (.inl rfl)) pgs_nil))))
        (pss_one (ps_dput (hu_of hr) (pv 1) (pv 3) (pe_call GB hr (by rfl) gB kB bB .nil pass0 (pa_cons (pv 4) (pa_cons
          (pe_lc (own := [("one", 6)]) (g := gName 6) (tt := tYes) rfl scValues.nd (pi_list (pv 5)) (blkOk_by (N := ["self", "bits", "ones", "name", "kind", "some", "one"]) (sc := defScope sValues) (by decide +kernel))
            (fun _ _ _ _ _ => pg_name (i := 6) scValues.nd rfl (Or.inl rfl)) (fun _ _ _ _ _ => pts_nil) (fun _ _ _ _ _ => pe_dget (hu_of hr) (pv 1) (pv 6) (fun _ _ => rfl))) (pa_cons (pv 2) pa_nil)))) rfl)))
      (pss_one (ps_ret (pv 1))), ?_⟩)
  · obtain ⟨t, bd, n, F, dx, li, lo, lr, lg, rr, rg, m, kvs, B, v, rfl, _⟩ := h
    rfl
  · obtain ⟨t, bd, n, F, dx, li, lo, lr, lg, rr, rg, m, kvs, B, v, rfl, NA, ord, ok, wn, hbd, hkl, hB, hv, q⟩ := h
    have fine := wn.fine
    have hFl : F.length ≤ 1024 := by
      have h1 : (F.map fun g => g.name).length ≤ n.names.length := Gn.nodup_le ord.nd fun x hx => by
        obtain ⟨g, hg, e⟩ := List.mem_map.mp hx
        rw [← e]
        exact Gn.gate_names (Gn.mem_gs.mp (ord.sub g hg)).1
      rw [List.length_map] at h1
      exact Nat.le_trans h1 wn.2.1
    have hrg : rg.length = F.length := NA.gg.length
    have nbd : ∀ b o, H b = some o → (∀ kvs, o ≠ .dK kvs) → b ≠ bd := fun b o hb h => ne_of hb hbd (h _)
    have lift : ∀ {H'}, Kp [bd] H H' → ∀ b o, H b = some o → (∀ kvs, o ≠ .dK kvs) → H' b = some o := fun {H'} k b o hb h => k b o hb (by simpa using nbd b o hb h)
    refine ⟨_, rfl, t, C, dx, _, _, rfl, NA.at_, T.cl, T.nG, fN_gat, lg, rfl, ⟨_, SqL.of NA.gats⟩, for_list (K := K) (a := lg) (xs := rg.map V.ref) (fun i σ H' => ∃ (v3 v4 v5 : Option V) (kvs' : KVs) (B' : Bytes → Nat),
        σ = [some (.ref t), some (.ref bd), some (nv (2 ^ m - 1)), v3, v4, v5, none] ∧ Kp [bd] H H' ∧ H' bd = some (.dK kvs') ∧ kvs'.length ≤ 4000 + i ∧
        ∀ x, (x ∈ Gn.kw n ∨ x ∈ (F.take i).map fun g => g.name) → valV kvs' (kn x) = some (nv (B' x)) ∧ Gn.Col m (B' x) fun c => v c x) ?_ ?_ ?_ ?_⟩
    · refine ⟨none, none, none, kvs, B, rfl, Kp.refl _ _, hbd, hkl, fun x hx => hB x ?_⟩
      rcases hx with hx | hx
      · exact hx
      · rw [List.take_zero] at hx; cases hx
    · rintro i σ H' _ ⟨v3, v4, v5, kvs', B', _, k, _⟩
      exact SqL.of (lift k _ _ NA.gats (by intro _ z; cases z))
    · rintro i x σ H1 hx ⟨v3, v4, v5, kvs', B', rfl, k1, hb1, hl1, hB1⟩
      obtain ⟨p, hp, rfl⟩ := map_at hx
      obtain ⟨g, q', hg, hg1, hg2⟩ := ga_at NA.gg hp
      have hgs := ord.sub g (List.mem_of_getElem? hg)
      have hgm := (Gn.mem_gs.mp hgs).1
      have hi : i < F.length := (List.getElem?_eq_some_iff.mp hg).1
      have hq' := lift k1 _ _ hg2 (by intro _ z; cases z)
      refine ⟨p, _, rfl, SqT.of (lift k1 _ _ hg1 (by intro _ z; cases z)), rfl, _, _, rfl, _, _, rfl, _, _, rfl, rfl, ?_⟩
      -- bits_of(kind, [bits[one] for one in some], ones)
      refine ⟨_, rfl, _, rfl, q', rfl, ⟨_, SqL.of hq'⟩, fun D nD => ?_⟩
      have har : g.from_.length ≤ 3 := by rw [ok.ar g hgm]; exact ar_le _
      have hin : ∀ d ∈ g.from_, d ∈ Gn.kw n ∨ d ∈ (F.take i).map fun g => g.name := fun d hd => ord.tp i g hg d hd
      refine lc_mapW (xs := g.from_.map sv) walk_list yAt ((g.from_.map B').map nv) (by simp) (by rw [List.length_map]; omega) nD (fun H' s => SqL.of (s _ _ hq')) ?_ gName_mono ?_
      · intro j y u H2 Q1 hy hu s2 hq2
        obtain ⟨d, hd, rfl⟩ := map_at hy
        obtain ⟨z, hz, rfl⟩ := map_at hu
        obtain ⟨d', hd', rfl⟩ := map_at hz
        rw [hd] at hd'
        cases hd'
        have hdg := DGet.k (k := kn d) (s2 _ _ hb1)
        rw [(hB1 d (hin d (List.mem_of_getElem? hd))).1] at hdg
        exact ⟨rfl, _, rfl, _, rfl, bd, _, rfl, hdg, hq2 _ (Same.refl _)⟩
      · intro H2 s2 hD
        have hb2 := s2 _ _ hb1
        have hcol := Gn.gt_col (Gn.mem_gs.mp hgs).2 (ok.ar g hgm) fun d hd => (hB1 d (hin d hd)).2
        refine ⟨_, rfl, g.kind, D, g.from_.map B', 2 ^ m - 1, rfl, SqL.of hD, (Gn.mem_gs.mp hgs).2, by rw [List.length_map]; exact ok.ar g hgm, ?_⟩
        refine ⟨_, rfl, _, rfl, bd, _, rfl, DPut.k (k := kn g.name) hb2 (line_lt (by omega)), ?_⟩
        refine ⟨_, _, _, putK kvs' (kn g.name) (nv (Gn.gtN g.kind (g.from_.map B') (2 ^ m - 1))), fun z => if z = g.name then Gn.gtN g.kind (g.from_.map B') (2 ^ m - 1) else B' z, rfl, Kp.put (k1.trans (Kp.of s2)) (.inl (by simp)), upd_same, ?_, fun z hz => ?_⟩
        · have := putK_le kvs' (kn g.name) (nv (Gn.gtN g.kind (g.from_.map B') (2 ^ m - 1)))
          omega
        · rw [valV_put]
          by_cases e : z = g.name
          · subst e
            rw [if_pos rfl]
            dsimp only
            rw [if_pos rfl]
            exact ⟨rfl, hcol.congr fun c hc => (hv c hc g hgs).symm⟩
          · have e2 : ¬ kn z = kn g.name := fun h => e (kn_inj h (ok.name g hgm))
            rw [if_neg e2]
            dsimp only
            rw [if_neg e]
            refine hB1 z ?_
            rcases hz with hz | hz
            · exact .inl hz
            · rw [take_more hg, List.map_append, List.mem_append] at hz
              rcases hz with hz | hz
              · exact .inr hz
              · rw [List.map_singleton, List.mem_singleton] at hz
                exact absurd hz e
    · rintro σ H1 ⟨v3, v4, v5, kvs', B', rfl, k1, hb1, hl1, hB1⟩
      rw [List.length_map, hrg, List.take_length] at hB1
      refine ⟨_, rfl, q _ kvs' B' k1 hb1 fun x hx => hB1 x ?_⟩
      rcases Gn.names_cases hx with h | ⟨g, hg, e⟩
      · exact .inl h
      · exact .inr (List.mem_map.mpr ⟨g, ord.all g hg, e⟩)
end
end Gw

/-! # all_bits, all_outputs, are_comparable, same -/
namespace Gw
open PySem PySem.Spec PyProof.Rows L2
open PySem.W (Codec)
open Sf33 (Bytes)
abbrev sAllBits : Stmt := topS 40
abbrev sAllOutputs : Stmt := topS 41
abbrev sComparable : Stmt := topS 42
abbrev sSame : Stmt := topS 43
/-! ### numbers -/
theorem pow_int (k : Nat) : (2 : Int) ^ k = ((2 ^ k : Nat) : Int) := by
  rw [Int.natCast_pow]
  rfl
theorem pow_nv (k : Nat) : V.int ((2 : Int) ^ k) = nv (2 ^ k) := congrArg V.int (pow_int k)
theorem pow1_int (k : Nat) : (2 : Int) ^ k - 1 = ((2 ^ k - 1 : Nat) : Int) := by
  rw [pow_int]
  have := Nat.two_pow_pos k
  omega
theorem mulp_int (a k : Nat) : (a : Int) * (2 : Int) ^ k = ((a * 2 ^ k : Nat) : Int) := by
  rw [pow_int, Int.natCast_mul]
/-- a & -a -/
theorem bLow (a : Nat) (h : 0 < a) : Builtin.bitAnd (a : Int) (-(a : Int)) = ((a - (a &&& (a - 1)) : Nat) : Int) := by
  have h3 : decide ((0 : Int) ≤ -(a : Int)) = false := decide_eq_false (by omega)
  have h2 : Builtin.bitNot (-(a : Int)) = ((a - 1 : Nat) : Int) := by
    show -(-(a : Int)) - 1 = _
    omega
  unfold Builtin.bitAnd
  rw [h3, decide_eq_true (Int.natCast_nonneg a)]
  show (a : Int) - (((a : Int).toNat &&& (Builtin.bitNot (-(a : Int))).toNat : Nat) : Int) = _
  rw [h2, Int.toNat_natCast, Int.toNat_natCast]
  have h4 : a &&& (a - 1) ≤ a := Nat.and_le_left
  omega
theorem bits_pow (i : Nat) : Builtin.Int.intBits (((2 ^ i : Nat) : Int)) = i + 1 := by
  have h := Nat.two_pow_pos i
  unfold Builtin.Int.intBits
  have e : ((((2 ^ i : Nat) : Int)) == 0) = false := beq_eq_false_iff_ne.mpr (by omega)
  rw [e, Int.natAbs_natCast, Nat.log2_two_pow]
  rfl
section
variable {P : Program} {w : World} {K : PySem.W.Frag} {mg : Str → Option Value} {base : Heap}
/-! ### all_bits -/
theorem scAllBits : FnScope ["k", "many", "size", "found"] ["k", "many"] (defScope sAllBits) := ⟨rfl, rfl, rfl, by decide +kernel, rfl, by decide +kernel, by decide +kernel⟩
def spAllBits : Sp := fun vs H Q _ => ∃ k many : Nat, vs = [nv k, nv many] ∧ k < many ∧ many ≤ 16 ∧ ∀ B, Gn.Col (2 ^ many) B (fun c => c.testBit k) → Q (nv B) H
theorem ok_allBits {f : Addr} {fd : FuncData} (F : Fun K "all_bits" "all_bits" sAllBits f fd) : FnOk P w K mg base CX0 1 f fd ["k", "many"] spAllBits := by
  refine F.ok scAllBits (fun vs H Q E h => ?_) (fun cdv A outer s H vs Q E hr h => ⟨_,
      pss_cons (ps_set (i := 2) scAllBits.nd rfl (.inl rfl) (pe_op op_shlN pe_int (pv 0)))
      (pss_cons (ps_set (i := 3) scAllBits.nd rfl (.inl rfl) (pe_op op_shlN (pe_op op_sub (pe_op op_oneShl pe_int (pe_op op_oneShl pe_int (pv 0))) pe_int) (pe_op op_oneShl pe_int (pv 0))))
      (pss_cons (ps_while PassesOwn.never (pt_cmpR op_lt (pv 2) (pe_op op_oneShl pe_int (pv 1)) (nomark _))
        (pss_cons (ps_set (i := 3) scAllBits.nd rfl (.inl rfl) (pe_op op_or (pv 3) (pe_op op_shlN (pv 3) (pv 2))))
        (pss_one (ps_set (i := 2) scAllBits.nd rfl (.inl rfl) (pe_op op_mul pe_int (pv 2))))))
      (pss_one (ps_ret (pv 3))))), ?_⟩)
  · obtain ⟨k, many, rfl, _⟩ := h
    rfl
  · obtain ⟨k, many, rfl, hk, hm, q⟩ := h
    have p16 : ∀ j, j ≤ 16 → 2 ^ j ≤ 65536 := fun j hj => Nat.pow_le_pow_right (by decide) hj
    have pk := p16 k (by omega)
    refine ⟨_, rfl, 2, k, rfl, rfl, shl_ok (n := 2) (by decide) (by omega), ?_⟩
    refine ⟨_, rfl, k, rfl, rfl, by omega, 2 ^ k, rfl, pow_nv k, by omega, _, _, rfl, rfl, _, rfl, k, rfl, rfl, by omega, _, 2 ^ k, rfl, pow_nv k, ?_, ?_⟩
    · rw [pow1_int]
      refine shl_ok (n := 2 ^ k) ?_ (by omega)
      have := Nat.two_pow_pos (2 ^ k)
      rw [Int.natAbs_natCast]
      omega
    · refine ⟨fun m σ H' => ∃ j found : Nat, m = many - j ∧ σ = [some (nv k), some (nv many), some (nv (2 ^ j)), some (nv found)] ∧ H' = H ∧ k < j ∧ j ≤ many ∧ Gn.Col (2 ^ j) found (fun c => c.testBit k),
        ⟨_, k + 1, (2 ^ 2 ^ k - 1) * 2 ^ 2 ^ k, rfl, ?_, rfl, by omega, by omega, Gn.all_base k⟩, ?_⟩
      · have e1 : V.int (2 * (2 : Int) ^ k) = nv (2 ^ (k + 1)) := by
          unfold nv
          rw [pow_int, Nat.pow_succ]
          congr 1
          omega
        have e2 : V.int (((2 : Int) ^ 2 ^ k - 1) * (2 : Int) ^ 2 ^ k) = nv ((2 ^ 2 ^ k - 1) * 2 ^ 2 ^ k) := by
          unfold nv
          rw [pow1_int, mulp_int]
        rw [← e1, ← e2]
        rfl
      · rintro m σ H' ⟨j, found, rfl, rfl, rfl, hj, hjm, col⟩
        refine ⟨_, rfl, _, rfl, many, rfl, rfl, by omega, _, _, rfl, rfl, _, rfl, ?_⟩
        by_cases c : j < many
        · have hlt : 2 ^ j < 2 ^ many := Nat.pow_lt_pow_right (by decide) c
          refine iteT' (decide_eq_true (by rw [pow_int]; omega)) ⟨_, fun σ' H' h => ⟨many - (j + 1), by omega, h⟩, ?_⟩
          have pj := p16 j (by omega)
          refine ⟨_, rfl, _, rfl, _, rfl, _, 2 ^ j, rfl, rfl, shl_ok (n := 2 ^ j) (by rw [Int.natAbs_natCast]; exact col.1) (by omega), _, _, rfl, rfl, ?_⟩
          refine ⟨_, rfl, _, _, rfl, rfl, .inl ⟨by decide, by decide⟩, j + 1, found ||| found * 2 ^ 2 ^ j, rfl, ?_, rfl, by omega, by omega, Gn.all_step hj col⟩
          have e1 : V.int (2 * ((2 ^ j : Nat) : Int)) = nv (2 ^ (j + 1)) := by
            unfold nv
            rw [Nat.pow_succ]
            congr 1
            omega
          have e2 : V.int (Builtin.bitOr (found : Int) ((found : Int) * (2 : Int) ^ 2 ^ j)) = nv (found ||| found * 2 ^ 2 ^ j) := by
            unfold nv
            rw [mulp_int, bOr]
          rw [← e1, ← e2]
          rfl
        · have e : j = many := by omega
          subst e
          refine iteF' (decide_eq_false (by rw [pow_int]; omega)) ?_
          exact ⟨_, rfl, q found col⟩
/-! ### all_outputs -/
theorem scAllOutputs : FnScope ["net", "many", "bits", "k", "name"] ["net"] (defScope sAllOutputs) := ⟨rfl, rfl, rfl, by decide +kernel, rfl, by decide +kernel, by decide +kernel⟩
def spAllOutputs (C : Addr) : Sp := fun vs H Q _ => ∃ (t : Addr) (n : Sf33.Net) (F : List Sf33.Gate) (dx li lo lr lg : Addr) (rr rg : List Addr), vs = [.ref t] ∧ NetAt C H t n F dx li lo lr lg rr rg ∧ Gn.Ord n F ∧ Gn.Ok n ∧ Gn.wants n ∧ Gn.noCircle n ∧ n.regs = [] ∧ n.ins.length ≤ 16 ∧
  ∀ (H' : Hp) (p : Addr) (B : Bytes → Nat), Same H H' → H' p = some (.lst (n.outs.map fun d => nv (B d))) → (∀ d ∈ n.outs, Gn.Col (2 ^ n.ins.length) (B d) fun c => Gn.va n [] c d) → Q (.ref p) H'
theorem ok_allOutputs {C f fB fV : Addr} {fd fdB fdV : FuncData} (F : Fun K "all_outputs" "all_outputs" sAllOutputs f fd) (T : TNet K mg C) (mL : mg "len" = none) (mE : mg "enumerate" = none)
    (GB : FnOk P w K mg base CX0 1 fB fdB ["k", "many"] spAllBits) (gB : mg "all_bits" = some (.ref fB)) (kB : PySem.W.keepIn K (.ref fB) = true) (bB : Binds K fdB ["k", "many"] [])
    (GV : FnOk P w K mg base CX0 3 fV fdV ["self", "bits", "ones"] (spValues C)) (mV : Meth K C "values" fV) (bV : Binds K fdV ["self", "bits", "ones"] []) : FnOk P w K mg base CX0 4 f fd ["net"] (spAllOutputs C) := by
  refine F.ok scAllOutputs (fun vs H Q E h => ?_) (fun cdv A outer s H vs Q E hr h => ⟨_,
      pss_cons (ps_set (i := 1) scAllOutputs.nd rfl (.inl rfl) (pe_callB call_len_seq (by rfl) mL PySem.boot_len (pa_cons (pe_fld (pv 0) rfl) pa_nil)))
      (pss_cons (ps_set (i := 2) scAllOutputs.nd rfl (.inr rfl) pe_dnewK)
      (pss_cons (ps_for PassesOwn.never rfl (pi_enum (by rfl) mE (pa_cons (pe_fld (pv 0) rfl) pa_nil)) (pg_tup rfl (pgs_cons (pg_name (i := 3) scAllOutputs.nd rfl (.inl rfl)) (pgs_cons (pg_name (i := 4) scAllOutputs.nd rfl (.inl rfl)) pgs_nil)))
        (pss_one (ps_dput (hu_of hr) (pv 2) (pv 4) (pe_call GB (hr.mono (by decide)) (by rfl) gB kB bB .nil pass0 (pa_cons (pv 3) (pa_cons (pv 1) pa_nil))) rfl)))
      (pss_cons (ps_set (i := 2) scAllOutputs.nd rfl (.inr rfl) (pe_meth (pv 0) T.cl mV GV hr bV .nil pass0 (pa_cons (pv 2) (pa_cons (pe_op op_sub (pe_op op_oneShl pe_int (pe_op op_oneShl pe_int (pv 1))) pe_int) pa_nil))))
      (pss_one (ps_ret (pe_lc (own := [("name", 4)]) (g := gName 4) (tt := tYes) rfl scAllOutputs.nd (pi_list (pe_fld (pv 0) rfl)) (blkOk_by (N := ["net", "many", "bits", "k", "name"]) (sc := defScope sAllOutputs) (by decide +kernel))
              (fun _ _ _ _ _ => pg_name (i := 4) scAllOutputs.nd rfl (Or.inl rfl)) (fun _ _ _ _ _ => pts_nil) (fun _ _ _ _ _ => pe_dget (hu_of hr) (pv 2) (pv 4) (fun _ _ => rfl)))))))), ?_⟩)
  · obtain ⟨t, n, F, dx, li, lo, lr, lg, rr, rg, rfl, _⟩ := h
    rfl
  · obtain ⟨t, n, F, dx, li, lo, lr, lg, rr, rg, rfl, NA, ord, ok, wn, nc, hreg, hin, q⟩ := h
    have fine := wn.fine
    have pin : 2 ^ n.ins.length ≤ 65536 := Nat.pow_le_pow_right (j := 16) (by decide) hin
    -- many = len(net.inputs)
    refine ⟨_, rfl, t, C, dx, _, _, rfl, NA.at_, T.cl, T.nI, fN_in, li, _, rfl, .inl (SqL.of NA.ins), ?_⟩
    -- bits = {}
    refine fun bd nbd => ?_
    have s1 : Same H (upd H bd (.dK [])) := same_upd nbd
    refine ⟨_, rfl, t, C, dx, _, _, rfl, (NA.same s1).at_, T.cl, T.nI, fN_in, li, _, rfl, SqL.of (NA.same s1).ins, for_it (walk_enum (xs := n.ins.map sv)) (fun j σ H' => ∃ (v3 v4 : Option V) (kvs : KVs),
        σ = [some (.ref t), some (nv n.ins.length), some (.ref bd), v3, v4] ∧ Same H H' ∧ H' bd = some (.dK kvs) ∧ kvs.length ≤ j ∧
        ∀ (r : Nat) (y : Bytes), r < j → n.ins[r]? = some y → ∃ B, valV kvs (kn y) = some (nv B) ∧ Gn.Col (2 ^ n.ins.length) B fun c => c.testBit r) ?_ ?_ ?_ ?_⟩
    · refine ⟨none, none, [], ?_, s1, upd_same, Nat.le_refl _, fun r y hr' _ => absurd hr' (Nat.not_lt_zero _)⟩
      show [some (V.ref t), some (V.int (((n.ins.map sv).length : Nat) : Int)), some (V.ref bd), none, none] = _
      rw [List.length_map]
      rfl
    · rintro j σ H' _ ⟨v3, v4, kvs, _, s2, _⟩
      exact SqL.of (NA.same s2).ins
    · rintro j x σ H2 H3 hj ⟨v3, v4, kvs, rfl, s2, hb2, hkl, hk2⟩ ⟨Tp, x1, x2, rfl, nTp, rfl, e1, e2⟩
      rw [List.length_map] at hj
      have e1' : V.int (j : Int) = x1 := Option.some.inj e1
      subst e1'
      obtain ⟨y, hy, rfl⟩ := map_at e2
      have hyn := ok.ins y (List.mem_of_getElem? hy)
      have sT : Same H2 (upd H2 Tp (.tup [.int (j : Int), sv y])) := same_upd nTp
      refine ⟨Tp, _, rfl, SqT.of upd_same, rfl, _, _, rfl, _, _, rfl, rfl, ?_⟩
      refine ⟨_, rfl, _, rfl, j, n.ins.length, rfl, hj, hin, fun B hB => ?_⟩
      have hput : ∀ x, valV (putK kvs (kn y) (nv B)) (kn x) = if kn x = kn y then some (nv B) else valV kvs (kn x) := fun x => valV_put _ _ _ _
      refine ⟨_, rfl, _, rfl, bd, _, rfl, DPut.k (k := kn y) (sT _ _ hb2) (line_lt (by omega)), _, _, _, rfl, ?_, upd_same, ?_, fun r x hr' hx' => ?_⟩
      · intro b o hb
        have h1 := s2 _ _ hb
        rw [upd_ne (ne_of_none hb nbd)]
        exact sT _ _ h1
      · exact Nat.le_trans (putK_le _ _ _) (by omega)
      · rw [hput]
        by_cases e : x = y
        · rw [if_pos (by rw [e])]
          rw [e] at hx'
          rw [Gn.nodup_get fine.insn hx' hy]
          exact ⟨B, rfl, hB⟩
        · rw [if_neg fun e2 => e (kn_inj e2 hyn)]
          refine hk2 r x ?_ hx'
          rcases Nat.lt_succ_iff_lt_or_eq.mp hr' with h | h
          · exact h
          · rw [h, hy] at hx'
            exact absurd (Option.some.inj hx').symm e
    · rintro σ H2 ⟨v3, v4, kvs, rfl, s2, hb2, hkl, hk2⟩
      rw [List.length_map] at hkl hk2
      have NA2 := NA.same s2
      -- bits = net.values(bits, (1 << (1 << many)) - 1)
      refine ⟨_, rfl, t, dx, _, rfl, NA2.at_, (lk_past (by decide +kernel)).trans ((lk_past (by decide +kernel)).trans ((lk_past (by decide +kernel)).trans ((lk_past (by decide +kernel)).trans rfl))), _, rfl, _, rfl, n.ins.length, rfl, rfl, by omega, 2 ^ n.ins.length, rfl, pow_nv _, by omega, _, _, rfl, rfl, ?_⟩
      refine ⟨t, bd, n, F, dx, li, lo, lr, lg, rr, rg, 2 ^ n.ins.length, kvs, fun x => match valV kvs (kn x) with | some (.int z) => z.toNat | _ => 0, fun c x => Gn.va n [] c x, congrArg (fun z => [V.ref t, V.ref bd, V.int z]) (pow1_int _), NA2, ord, ok, wn, hb2, by omega, fun x hx => ?_, fun _ _ g hg => Gn.va_gate fine nc hg, fun H3 kvs' B' k3 hb3 hB3 => ?_⟩
      · rcases List.mem_append.mp hx with hx | hx
        · obtain ⟨r, hr'⟩ := List.mem_iff_getElem?.mp hx
          obtain ⟨B, hB1, hB2⟩ := hk2 r x (List.getElem?_eq_some_iff.mp hr').1 hr'
          dsimp only
          rw [hB1]
          refine ⟨rfl, (show Gn.Col _ B _ from hB2.congr fun c _ => ?_)⟩
          show c.testBit r = Gn.va n [] c x
          rw [Gn.va_in fine nc hr']
        · rw [hreg] at hx
          cases hx
      · have s3 : Same H H3 := fun b o hb => k3 b o (s2 _ _ hb) (by simpa using ne_of_none hb nbd)
        have NA3 := NA.same s3
        refine ⟨_, rfl, t, C, dx, _, _, rfl, NA3.at_, T.cl, T.nO, fN_out, lo, rfl, ⟨_, SqL.of NA3.outs⟩, fun D nD => ?_⟩
        have hol : n.outs.length ≤ 64 := wn.2.2.2.1
        refine lc_mapW (xs := n.outs.map sv) walk_list yAt (n.outs.map fun d => nv (B' d)) (by simp) (by rw [List.length_map]; omega) nD (fun H' s => SqL.of (s _ _ NA3.outs)) ?_ gName_mono ?_
        · intro j y w' H4 Q1 hy hw' s4 hq
          obtain ⟨d, hd, rfl⟩ := map_at hy
          obtain ⟨d', hd', rfl⟩ := map_at hw'
          rw [hd] at hd'
          cases hd'
          have hdm := List.mem_of_getElem? hd
          have hdg := DGet.k (k := kn d) (s4 _ _ hb3)
          rw [(hB3 d (fine.outs d hdm)).1] at hdg
          exact ⟨rfl, _, rfl, _, rfl, bd, _, rfl, hdg, hq _ (Same.refl _)⟩
        · intro H4 s4 hD
          exact q H4 D B' (s3.trans s4) hD fun d hd => (hB3 d (fine.outs d hd)).2
/-! ### are_comparable -/
def dat (g : Sf33.Gate) : PyData := .tuple [.str (S g.name), .str (S (Gn.kn g.kind)), .list (g.from_.map fun d => PyData.str (S d))]
theorem data_gates {H : Hp} {bad : List Addr} : ∀ {rs : List Addr} {gs : List Sf33.Gate}, GA H bad rs gs → DpAll K H (rs.map V.ref) (gs.map dat)
  | _, _, .nil => .nil
  | _, _, .cons ⟨_, q, h1, h2, _⟩ t => .cons (.tup (SqT.of h1) (.cons (.str _) (.cons (.str _) (.cons (.lst (SqL.of h2) (data_words _)) .nil)))) (data_gates t)
theorem words_lay (ws : List Bytes) : PyData.canLayAll0 (ws.map fun w => PyData.str (S w)) = true := by
  induction ws with
  | nil => simp [PyData.canLayAll0]
  | cons x ws ih =>
    rw [List.map_cons]
    unfold PyData.canLayAll0
    rw [ih, Bool.and_true]
    unfold PyData.canLay0
    exact strOk_S x
theorem words_depth (ws : List Bytes) : PyData.depthAll (ws.map fun w => PyData.str (S w)) = 0 := by
  induction ws with
  | nil => simp [PyData.depthAll]
  | cons x ws ih =>
    rw [List.map_cons]
    unfold PyData.depthAll
    rw [ih]
    simp [PyData.depth]
theorem shaped_gates (gs : List Sf33.Gate) : SeqAt.shaped (.list (gs.map dat)) = true := by
  have h1 : PyData.canLayAll0 (gs.map dat) = true := by
    induction gs with
    | nil => simp [PyData.canLayAll0]
    | cons g gs ih =>
      rw [List.map_cons]
      simp only [PyData.canLayAll0, dat, PyData.canLay0, strOk_S, words_lay, Bool.true_and, Bool.and_true]
      exact ih
  have h2 : PyData.depthAll (gs.map dat) ≤ 2 := by
    induction gs with
    | nil => simp [PyData.depthAll]
    | cons g gs ih =>
      rw [List.map_cons]
      simp only [PyData.depthAll, dat, PyData.depth, words_depth]
      have ih' := ih (by
        rw [List.map_cons] at h1
        unfold PyData.canLayAll0 at h1
        exact (Bool.and_eq_true_iff.mp h1).2)
      omega
  unfold SeqAt.shaped
  rw [Bool.and_eq_true]
  constructor
  · unfold PyData.canLay0
    exact h1
  · unfold PyData.depth
    exact decide_eq_true (by omega)
theorem scComparable : FnScope ["one", "other"] ["one", "other"] (defScope sComparable) := ⟨rfl, rfl, rfl, by decide +kernel, rfl, by decide +kernel, by decide +kernel⟩
def spComparable (C : Addr) : Sp := fun vs H Q _ => ∃ (t t2 : Addr) (n n2 : Sf33.Net) (F F2 : List Sf33.Gate) (dx li lo lr lg dx2 li2 lo2 lr2 lg2 : Addr) (rr rg rr2 rg2 : List Addr), vs = [.ref t, .ref t2] ∧ NetAt C H t n F dx li lo lr lg rr rg ∧ NetAt C H t2 n2 F2 dx2 li2 lo2 lr2 lg2 rr2 rg2 ∧
  ∀ (H' : Hp), Same H H' → Q (.bl (Sf33.fair n n2)) H'
theorem fair_regs {a b : Sf33.Net} (h : ¬(a.regs = [] ∧ b.regs = [])) : Sf33.fair a b = false := by
  unfold Sf33.fair
  by_cases c : a.regs = []
  · have c2 : ¬ b.regs = [] := fun z => h ⟨c, z⟩
    rw [decide_eq_false c2, Bool.false_and, Bool.and_false]
  · rw [decide_eq_false c, Bool.false_and]
theorem fair_lens {a b : Sf33.Net} (h : ¬(a.ins.length = b.ins.length ∧ a.outs.length = b.outs.length)) : Sf33.fair a b = false := by
  unfold Sf33.fair
  by_cases c : a.ins.length = b.ins.length
  · have c2 : ¬ a.outs.length = b.outs.length := fun z => h ⟨c, z⟩
    rw [decide_eq_false c2, Bool.false_and, Bool.and_false, Bool.and_false, Bool.and_false]
  · rw [decide_eq_false c, Bool.false_and, Bool.and_false, Bool.and_false]
theorem ok_comparable {C f : Addr} {fd : FuncData} (F : Fun K "are_comparable" "are_comparable" sComparable f fd) (T : TNet K mg C) (mL : mg "len" = none) (gM : GInt mg "MOST_SAME" 16) : FnOk P w K mg base CX0 1 f fd ["one", "other"] (spComparable C) := by
  obtain ⟨tM, gM⟩ := gM
  refine F.ok scComparable (fun vs H Q E h => ?_) (fun cdv A outer s H vs Q E hr h => ⟨_,
      pss_cons (ps_if (PW.pt (pw_or (pt_cmpR (op_neD hr.units) (pe_fld (pv 0) rfl) (pe_lst pa_nil) (nomark _)) (pw_or1 (pt_cmpR (op_neD hr.units) (pe_fld (pv 1) rfl) (pe_lst pa_nil) (nomark _)))))
        (pss_one (ps_ret pe_bl)) pss_nil)
      (pss_cons (ps_if (PW.pt (pw_or (pt_cmpR op_ne (pe_callB call_len_seq (by rfl) mL PySem.boot_len (pa_cons (pe_fld (pv 0) rfl) pa_nil)) (pe_callB call_len_seq (by rfl) mL PySem.boot_len (pa_cons (pe_fld (pv 1) rfl) pa_nil)) (nomark _))
          (pw_or1 (pt_cmpR op_ne (pe_callB call_len_seq (by rfl) mL PySem.boot_len (pa_cons (pe_fld (pv 0) rfl) pa_nil)) (pe_callB call_len_seq (by rfl) mL PySem.boot_len (pa_cons (pe_fld (pv 1) rfl) pa_nil)) (nomark _)))))
        (pss_one (ps_ret pe_bl)) pss_nil)
      (pss_one (ps_ret (pe_cmpR op_le (pe_callB call_len_seq (by rfl) mL PySem.boot_len (pa_cons (pe_fld (pv 0) rfl) pa_nil)) (pe_glob (v := .int 16) rfl gM ⟨_, rfl⟩) (nomark _))))), ?_⟩)
  · obtain ⟨t, t2, n, n2, F, F2, dx, li, lo, lr, lg, dx2, li2, lo2, lr2, lg2, rr, rg, rr2, rg2, rfl, _⟩ := h
    rfl
  · obtain ⟨t, t2, n, n2, F, F2, dx, li, lo, lr, lg, dx2, li2, lo2, lr2, lg2, rr, rg, rr2, rg2, rfl, NA, NB, q⟩ := h
    refine ⟨_, rfl, t, C, dx, _, _, rfl, NA.at_, T.cl, T.nR, fN_reg, Nat.zero_le _, fun e ne => ?_⟩
    have s1 : Same H (upd H e (.lst [])) := same_upd ne
    refine ⟨_, _, .lst (SqL.of (s1 _ _ NA.regs)) (data_gates (NA.same s1).gr), .lst (SqL.of upd_same) .nil, shaped_gates _, shaped_nil, _, rfl, ?_⟩
    generalize upd H e (.lst []) = H1 at *
    rw [eqv_nil]
    by_cases c1 : n.regs = []
    · refine iteF' (by rw [decide_eq_true (by rw [c1]; rfl)]; rfl) ?_
      have NB1 := NB.same s1
      refine ⟨_, rfl, t2, C, dx2, _, _, rfl, NB1.at_, T.cl, T.nR, fN_reg, Nat.zero_le _, fun e2 ne2 => ?_⟩
      have s2 : Same H1 (upd H1 e2 (.lst [])) := same_upd ne2
      refine ⟨_, _, .lst (SqL.of (s2 _ _ NB1.regs)) (data_gates (NB1.same s2).gr), .lst (SqL.of upd_same) .nil, shaped_gates _, shaped_nil, _, rfl, ?_⟩
      have s12 := s1.trans s2
      generalize upd H1 e2 (.lst []) = H2 at *
      rw [eqv_nil]
      by_cases c2 : n2.regs = []
      · refine iteF' (by rw [decide_eq_true (by rw [c2]; rfl)]; rfl) ?_
        have NA2 := NA.same s12
        have NB2 := NB.same s12
        refine ⟨_, rfl, t, C, dx, _, _, rfl, NA2.at_, T.cl, T.nI, fN_in, li, _, rfl, .inl (SqL.of NA2.ins), _, rfl, t2, C, dx2, _, _, rfl, NB2.at_, T.cl, T.nI, fN_in, li2, _, rfl, .inl (SqL.of NB2.ins), rfl, _, rfl, ?_⟩
        rw [List.length_map, List.length_map]
        by_cases c3 : n.ins.length = n2.ins.length
        · refine iteF' (by rw [c3, decide_eq_true rfl]; rfl) ?_
          refine ⟨_, rfl, t, C, dx, _, _, rfl, NA2.at_, T.cl, T.nO, fN_out, lo, _, rfl, .inl (SqL.of NA2.outs), _, rfl, t2, C, dx2, _, _, rfl, NB2.at_, T.cl, T.nO, fN_out, lo2, _, rfl, .inl (SqL.of NB2.outs), rfl, _, rfl, ?_⟩
          rw [List.length_map, List.length_map]
          by_cases c4 : n.outs.length = n2.outs.length
          · refine iteF' (by rw [c4, decide_eq_true rfl]; rfl) ?_
            refine ⟨_, rfl, t, C, dx, _, _, rfl, NA2.at_, T.cl, T.nI, fN_in, li, _, rfl, .inl (SqL.of NA2.ins), _, _, rfl, rfl, ?_⟩
            have e1 : Sf33.fair n n2 = decide (((n.ins.map sv).length : Int) ≤ 16) := by
              unfold Sf33.fair
              rw [decide_eq_true c1, decide_eq_true c2, decide_eq_true c3, decide_eq_true c4, List.length_map, Bool.true_and, Bool.true_and, Bool.true_and, Bool.true_and]
              refine decide_eq_decide.mpr ?_
              omega
            have h1 := q H2 s12
            rw [e1] at h1
            exact h1
          · refine iteT' (by rw [decide_eq_false fun z => c4 (by have := V.int.inj z; omega)]; rfl) ?_
            have h1 := q H2 s12
            rw [fair_lens fun z => c4 z.2] at h1
            exact h1
        · refine iteT' (by rw [decide_eq_false fun z => c3 (by have := V.int.inj z; omega)]; rfl) ?_
          have h1 := q H2 s12
          rw [fair_lens fun z => c3 z.1] at h1
          exact h1
      · refine iteT' (by rw [decide_eq_false fun z => c2 (List.map_eq_nil_iff.mp z)]; rfl) ?_
        have h1 := q H2 s12
        rw [fair_regs fun z => c2 z.2] at h1
        exact h1
    · refine iteT' (by rw [decide_eq_false fun z => c1 (List.map_eq_nil_iff.mp z)]; rfl) ?_
      have h1 := q H1 s1
      rw [fair_regs fun z => c1 z.1] at h1
      exact h1
/-! ### same -/
theorem scSame : FnScope ["a", "b", "one", "other", "apart", "here", "there"] ["a", "b"] (defScope sSame) := ⟨rfl, rfl, rfl, by decide +kernel, rfl, by decide +kernel, by decide +kernel⟩
def spSame (K : PySem.W.Frag) : Sp := fun vs H Q _ => ∃ (a c : Addr) (ns ms : List Int), vs = [.ref a, .ref c] ∧ SqL K H a (ns.map V.int) ∧ SqL K H c (ms.map V.int) ∧ ns.length ≤ 65536 ∧ (∀ z ∈ ns, 0 ≤ z ∧ z ≤ 255) ∧ ms.length ≤ 65536 ∧ (∀ z ∈ ms, 0 ≤ z ∧ z ≤ 255) ∧
  ∀ (H' : Hp) (p : Addr), H' p = some (.lst ((PySf33.same ns ms).map V.int)) → Q (.ref p) H'
theorem same_eq (ns ms : List Int) : PySf33.same ns ms = match Sf33.network (ns.length : Int) (Sf33Neutral.bytesOf ns), Sf33.network (ms.length : Int) (Sf33Neutral.bytesOf ms) with
    | some x, some y => if Sf33.fair x y = true then (match (List.range (2 ^ x.ins.length)).find? (fun i => x.ready.out (x.ready.values #[] i) != y.ready.out (y.ready.values #[] i)) with
        | some i => [0, (i : Int)]
        | none => [1]) else [-2]
    | _, _ => [-1] := by
  show Sf33Neutral.listOf (match Sf33.network (ns.length : Int) (Sf33Neutral.bytesOf ns), Sf33.network (ms.length : Int) (Sf33Neutral.bytesOf ms) with
    | some x, some y => if Sf33.fair x y = true then (match Sf33.differ x.ready y.ready x.ins.length with
        | some i => ⟨0, [i]⟩
        | none => Sf33.only 1) else Sf33.only (-2)
    | _, _ => Sf33.only (-1)) = _
  cases Sf33.network (ns.length : Int) (Sf33Neutral.bytesOf ns) with
  | none => rfl
  | some x =>
    cases Sf33.network (ms.length : Int) (Sf33Neutral.bytesOf ms) with
    | none => rfl
    | some y =>
      dsimp only
      by_cases c : Sf33.fair x y = true
      · rw [if_pos c, if_pos c]
        unfold Sf33.differ
        cases (List.range (2 ^ x.ins.length)).find? (fun i => x.ready.out (x.ready.values #[] i) != y.ready.out (y.ready.values #[] i)) <;> rfl
      · rw [if_neg c, if_neg c]
        rfl
theorem fair_is {a b : Sf33.Net} (h : Sf33.fair a b = true) : a.regs = [] ∧ b.regs = [] ∧ a.ins.length = b.ins.length ∧ a.outs.length = b.outs.length ∧ a.ins.length ≤ 16 := by
  unfold Sf33.fair at h
  rw [Bool.and_eq_true, Bool.and_eq_true, Bool.and_eq_true, Bool.and_eq_true] at h
  exact ⟨of_decide_eq_true h.1, of_decide_eq_true h.2.1, of_decide_eq_true h.2.2.1, of_decide_eq_true h.2.2.2.1, of_decide_eq_true h.2.2.2.2⟩
/-- whether the first k outputs differ anywhere -/
def dif (x y : Sf33.Net) (k c : Nat) : Bool := (((x.outs.map (Gn.va x [] c)).zip (y.outs.map (Gn.va y [] c))).take k).any fun p => p.1 ^^ p.2
theorem dif_all {x y : Sf33.Net} (h : x.outs.length = y.outs.length) (c : Nat) : (x.ready.out (x.ready.values #[] c) != y.ready.out (y.ready.values #[] c)) = dif x y x.outs.length c := by
  have e1 := Gn.out_eq x [] c
  have e2 := Gn.out_eq y [] c
  have e1' : x.ready.out (x.ready.values #[] c) = Sf33.bits (x.outs.map (Gn.va x [] c)) := e1
  have e2' : y.ready.out (y.ready.values #[] c) = Sf33.bits (y.outs.map (Gn.va y [] c)) := e2
  rw [e1', e2', ← Gn.bits_ne _ _ (by rw [List.length_map, List.length_map, h])]
  unfold dif
  rw [List.take_of_length_le (by rw [List.length_zip, List.length_map]; omega)]
theorem dif_step {x y : Sf33.Net} {k : Nat} {d e : Bytes} (hd : x.outs[k]? = some d) (he : y.outs[k]? = some e) (c : Nat) : dif x y (k + 1) c = (dif x y k c || (Gn.va x [] c d ^^ Gn.va y [] c e)) := by
  have hz : ((x.outs.map (Gn.va x [] c)).zip (y.outs.map (Gn.va y [] c)))[k]? = some (Gn.va x [] c d, Gn.va y [] c e) := by
    rw [List.getElem?_zip_eq_some]
    exact ⟨by rw [List.getElem?_map, hd]; rfl, by rw [List.getElem?_map, he]; rfl⟩
  unfold dif
  rw [take_more hz, List.any_append, List.any_cons, List.any_nil, Bool.or_false]
theorem ok_same {C f fN fA fC : Addr} {fd fdN fdA fdC : FuncData} (F : Fun K "same" "same" sSame f fd) (gNo : GLst K mg "NO_NETWORK" [.int (-1)]) (gAl : GLst K mg "NOT_ALIKE" [.int (-2)]) (mLi : mg "list" = none) (mZ : mg "zip" = none)
    (GN : FnOk P w K mg base CX0 5 fN fdN ["text"] (spNetOf K C)) (gN : mg "net_of" = some (.ref fN)) (kN : PySem.W.keepIn K (.ref fN) = true) (bN : Binds K fdN ["text"] [])
    (GA : FnOk P w K mg base CX0 4 fA fdA ["net"] (spAllOutputs C)) (gA : mg "all_outputs" = some (.ref fA)) (kA : PySem.W.keepIn K (.ref fA) = true) (bA : Binds K fdA ["net"] [])
    (GC : FnOk P w K mg base CX0 1 fC fdC ["one", "other"] (spComparable C)) (gC : mg "are_comparable" = some (.ref fC)) (kC : PySem.W.keepIn K (.ref fC) = true) (bC : Binds K fdC ["one", "other"] []) : FnOk P w K mg base CX0 6 f fd ["a", "b"] (spSame K) := by
  obtain ⟨aNo, gNo, sNo⟩ := gNo
  obtain ⟨aAl, gAl, sAl⟩ := gAl
  refine F.ok scSame (fun vs H Q E h => ?_) (fun cdv A outer s H vs Q E hr h => ⟨_,
      pss_cons (ps_set (i := 2) scSame.nd rfl (.inl rfl) (pe_call GN hr (by rfl) gN kN bN .nil pass0 (pa_cons (pv 0) pa_nil)))
      (pss_cons (ps_set (i := 3) scSame.nd rfl (.inl rfl) (pe_call GN hr (by rfl) gN kN bN .nil pass0 (pa_cons (pv 1) pa_nil)))
      (pss_cons (ps_if (PW.pt (pw_or (pt_cmp (pc_isN (pv 2))) (pw_or1 (pt_cmp (pc_isN (pv 3))))))
        (pss_one (ps_ret (pe_callTy call_list_of (by rfl) mLi boot_list0 (pa_cons (pe_glob (v := .ref aNo) rfl gNo rfl) pa_nil)))) pss_nil)
      (pss_cons (ps_if (pt_not (pt_val (pe_call GC (hr.mono (by decide)) (by rfl) gC kC bC .nil pass0 (pa_cons (pv 2) (pa_cons (pv 3) pa_nil)))))
        (pss_one (ps_ret (pe_callTy call_list_of (by rfl) mLi boot_list0 (pa_cons (pe_glob (v := .ref aAl) rfl gAl rfl) pa_nil)))) pss_nil)
      (pss_cons (ps_set (i := 4) scSame.nd rfl (.inl rfl) pe_int)
      (pss_cons (ps_for PassesOwn.never rfl (pi_zip (by rfl) mZ (pa_cons (pe_call GA (hr.mono (by decide)) (by rfl) gA kA bA .nil pass0 (pa_cons (pv 2) pa_nil)) (pa_cons (pe_call GA (hr.mono (by decide)) (by rfl) gA kA bA .nil pass0 (pa_cons (pv 3) pa_nil)) pa_nil)))
          (pg_tup rfl (pgs_cons (pg_name (i := 5) scSame.nd rfl (.inl rfl)) (pgs_cons (pg_name (i := 6) scSame.nd rfl (.inl rfl)) pgs_nil)))
        (pss_one (ps_set (i := 4) scSame.nd rfl (.inl rfl) (pe_op op_or (pv 4) (pe_op op_xor (pv 5) (pv 6))))))
      (pss_cons (ps_if (pt_cmpR op_eq (pv 4) pe_int (nomark _)) (pss_one (ps_ret (pe_lst (pa_cons pe_int pa_nil)))) pss_nil)
      (pss_one (ps_ret (pe_lst (pa_cons pe_int (pa_cons (pe_op op_sub (pe_bits (pe_op op_and (pv 4) (pe_un un_neg (pv 4)))) pe_int) pa_nil))))))))))), ?_⟩)
  · obtain ⟨a, c, ns, ms, rfl, _⟩ := h
    rfl
  · obtain ⟨a, c, ns, ms, rfl, hS, hS2, hlen, hns, hlen2, hms, q⟩ := h
    rw [same_eq] at q
    -- one = net_of(a), other = net_of(b)
    refine ⟨_, rfl, a, Sf33Neutral.bytesOf ns, rfl, (by rw [bytes_iv hns]; exact hS), (by rw [bytes_len]; exact hlen), fun hN H1 s1 => ?_, fun n hn ok wn nc H1 t F dx li lo lr lg rr rg ord s1 NA => ?_⟩
    · rw [bytes_len] at hN
      rw [hN] at q
      refine ⟨_, rfl, c, Sf33Neutral.bytesOf ms, rfl, (by rw [bytes_iv hms]; exact s1.seq hS2), (by rw [bytes_len]; exact hlen2), fun hN2 H2 s2 => ?_, fun n2 hn2 ok2 wn2 nc2 H2 t2 F2 dx2 li2 lo2 lr2 lg2 rr2 rg2 ord2 s2 NB => ?_⟩
      all_goals
        refine ⟨_, rfl, _, rfl, iteT' rfl (iteT' rfl ?_)⟩
        exact ⟨aNo, _, rfl, .inl (sNo _), fun p np => q _ p upd_same⟩
    · rw [bytes_len] at hn
      rw [hn] at q
      refine ⟨_, rfl, c, Sf33Neutral.bytesOf ms, rfl, (by rw [bytes_iv hms]; exact s1.seq hS2), (by rw [bytes_len]; exact hlen2), fun hN2 H2 s2 => ?_, fun n2 hn2 ok2 wn2 nc2 H2 t2 F2 dx2 li2 lo2 lr2 lg2 rr2 rg2 ord2 s2 NB => ?_⟩
      · rw [bytes_len] at hN2
        rw [hN2] at q
        refine ⟨_, rfl, _, rfl, iteF' rfl ⟨_, rfl, _, rfl, iteT' rfl ?_⟩⟩
        exact ⟨aNo, _, rfl, .inl (sNo _), fun p np => q _ p upd_same⟩
      · rw [bytes_len] at hn2
        rw [hn2] at q
        dsimp only at q
        refine ⟨_, rfl, _, rfl, iteF' rfl ⟨_, rfl, _, rfl, iteF' rfl ?_⟩⟩
        have NA2 := NA.same s2
        -- not are_comparable(one, other)
        refine ⟨_, rfl, _, rfl, t, t2, n, n2, F, F2, dx, li, lo, lr, lg, dx2, li2, lo2, lr2, lg2, rr, rg, rr2, rg2, rfl, NA2, NB, fun H3 s3 => ⟨_, rfl, ?_⟩⟩
        cases hf : Sf33.fair n n2 with
        | false =>
          rw [hf, if_neg Bool.false_ne_true] at q
          refine iteT' rfl ?_
          exact ⟨aAl, _, rfl, .inl (sAl _), fun p np => q _ p upd_same⟩
        | true =>
          rw [hf, if_pos rfl] at q
          refine iteF' rfl ?_
          obtain ⟨f1, f2, f3, f4, f5⟩ := fair_is hf
          have NA3 := NA2.same s3
          -- zip(all_outputs(one), all_outputs(other))
          refine ⟨_, rfl, t, n, F, dx, li, lo, lr, lg, rr, rg, rfl, NA3, ord, ok, wn, nc, f1, f5, fun H4 D1 B1 s4 hD1 hB1 => ?_⟩
          refine ⟨_, rfl, t2, n2, F2, dx2, li2, lo2, lr2, lg2, rr2, rg2, rfl, (NB.same s3).same s4, ord2, ok2, wn2, nc2, f2, by rw [← f3]; exact f5, fun H5 D2 B2 s5 hD2 hB2 => ?_⟩
          refine ⟨D1, D2, _, _, rfl, SqL.of (s5 _ _ hD1), SqL.of hD2, for_it (walk_zip (n := n.outs.length) (xs := n.outs.map fun d => nv (B1 d)) (ys := n2.outs.map fun d => nv (B2 d)) (by rw [List.length_map, List.length_map, f4, Nat.min_self])) (fun i σ H' => ∃ (v5 v6 : Option V) (ap : Nat), σ = [some (.ref a), some (.ref c), some (.ref t), some (.ref t2), some (nv ap), v5, v6] ∧ Same H5 H' ∧ Gn.Col (2 ^ n.ins.length) ap (dif n n2 i)) ?_ ?_ ?_ ?_⟩
          · exact ⟨none, none, 0, rfl, Same.refl _, Gn.Col.zero _⟩
          · rintro i σ H' _ ⟨v5, v6, ap, _, s6, _⟩
            exact ⟨SqL.of (s6 _ _ (s5 _ _ hD1)), SqL.of (s6 _ _ hD2)⟩
          · rintro i z σ H' H6 _ ⟨v5, v6, ap, rfl, s6, col⟩ ⟨T, x, y, rfl, nT, rfl, hx, hy⟩
            obtain ⟨d, hd, rfl⟩ := map_at hx
            obtain ⟨e, he, rfl⟩ := map_at hy
            refine ⟨T, _, rfl, SqT.of upd_same, rfl, _, _, rfl, _, _, rfl, rfl, ?_⟩
            refine ⟨_, rfl, _, rfl, _, rfl, _, _, rfl, rfl, _, _, rfl, rfl, some (nv (B1 d)), some (nv (B2 e)), ap ||| (B1 d ^^^ B2 e), ?_, s6.trans (same_upd nT), ?_⟩
            · have e1 : V.int (Builtin.bitOr (ap : Int) (Builtin.bitXor (B1 d : Int) (B2 e : Int))) = nv (ap ||| (B1 d ^^^ B2 e)) := by
                unfold nv
                rw [bXor, bOr]
              rw [← e1]
              rfl
            · have h1 := hB1 d (List.mem_of_getElem? hd)
              have h2 := hB2 e (List.mem_of_getElem? he)
              rw [← f3] at h2
              exact (col.or (h1.xor h2)).congr fun k _ => (dif_step hd he k).symm
          · rintro σ H' ⟨v5, v6, ap, rfl, s6, col⟩
            have hall : ∀ k, k < 2 ^ n.ins.length → (n.ready.out (n.ready.values #[] k) != n2.ready.out (n2.ready.values #[] k)) = dif n n2 n.outs.length k := fun k _ => dif_all f4 k
            refine ⟨_, rfl, rfl, _, rfl, ?_⟩
            by_cases h0 : ap = 0
            · rw [Gn.find_none col hall h0] at q
              refine iteT' (decide_eq_true (by rw [h0]; rfl)) ?_
              exact ⟨(by show 1 ≤ sizeLine; exact line_of (by decide)), fun p np => q _ p upd_same⟩
            · obtain ⟨i, i1, i2, i3⟩ := Gn.lowest ap (by omega)
              rw [Gn.find_some col hall i2 i3] at q
              refine iteF' (decide_eq_false fun z => h0 (by have := V.int.inj z; omega)) ?_
              refine ⟨_, rfl, _, rfl, _, rfl, _, _, rfl, rfl, _, rfl, _, _, rfl, rfl, (by show 2 ≤ sizeLine; exact line_of (by decide)), fun p np => q _ p ?_⟩
              rw [upd_same]
              have e1 : ((Builtin.Int.intBits (Builtin.bitAnd (ap : Int) (-(ap : Int))) : Nat) : Int) - 1 = (i : Int) := by
                rw [bLow ap (by omega), i1, bits_pow]
                omega
              show some (HO.lst [V.int 0, V.int (((Builtin.Int.intBits (Builtin.bitAnd (ap : Int) (-(ap : Int))) : Nat) : Int) - 1)]) = _
              rw [e1]
              rfl
end

/-! ### what the top has written, fact by fact -/
/-- an error of the class at S is what «except S» names -/
theorem exm_self {K : PySem.W.Frag} {S : Addr} (h1 : PySem.W.subIn K (.ref S) (.type "BaseException") = some true) (h2 : PySem.W.isClsIn K S = true) (h3 : PySem.W.typeIn K (.ref S) = some (.type "type")) (h4 : PySem.W.subIn K (.ref S) (.ref S) = some true) :
    PySem.W.exmOne K (.ref S) (.ref S) = some true := by
  have e1 : (PySem.W.subIn K (.ref S) (.type "BaseException") == some true) = true := by rw [h1] <;> rfl
  have e2 : ((PySem.W.clsIn K S).isSome && PySem.W.typeIn K (.ref S) == some (.type "type")) = true := by
    have h2' : (PySem.W.clsIn K S).isSome = true := h2
    rw [h2', h3] <;> rfl
  show (if (PySem.W.subIn K (.ref S) (.type "BaseException") == some true) = true then (if ((PySem.W.clsIn K S).isSome && PySem.W.typeIn K (.ref S) == some (.type "type")) = true then PySem.W.subIn K (.ref S) (.ref S) else none) else none) = some true
  rw [if_pos e1, if_pos e2]
  exact h4
def sizesX : List (Str × V) := [(⟨#[122, 101, 114, 111]⟩, .int 0), (⟨#[111, 110, 101]⟩, .int 0), (⟨#[110, 111, 116]⟩, .int 1), (⟨#[98, 117, 102]⟩, .int 1), (⟨#[114, 101, 103]⟩, .int 1), (⟨#[114, 101, 103, 49]⟩, .int 1), (⟨#[97, 110, 100]⟩, .int 2), (⟨#[111, 114]⟩, .int 2), (⟨#[120, 111, 114]⟩, .int 2), (⟨#[110, 97, 110, 100]⟩, .int 2), (⟨#[110, 111, 114]⟩, .int 2), (⟨#[120, 110, 111, 114]⟩, .int 2), (⟨#[109, 97, 106]⟩, .int 3), (⟨#[109, 117, 120]⟩, .int 3)]
theorem sizesX_eq : sizesX = sizesL := by decide +kernel
def turnedX : List (Str × V) := [(⟨#[110, 97, 110, 100]⟩, .str ⟨#[97, 110, 100]⟩), (⟨#[110, 111, 114]⟩, .str ⟨#[111, 114]⟩), (⟨#[120, 110, 111, 114]⟩, .str ⟨#[120, 111, 114]⟩), (⟨#[110, 111, 116]⟩, .str ⟨#[98, 117, 102]⟩), (⟨#[111, 110, 101]⟩, .str ⟨#[122, 101, 114, 111]⟩)]
theorem turnedX_eq : turnedX = turnedL := by decide +kernel
theorem all_mk {P : Program} {w : World} {K : PySem.W.Frag} {h : Heap} {mg : Str → Option Value} {fa C N CF : Addr}
    {fTInit fTake fNInit fFirst fValues fWant fSign fLines fWords fIsName fToldBy fOrder fWantN fNetOf fPlain fBitsOf fAllBits fAllOutputs fComparable fSame : Addr}
    {odTInit anTInit odTake anTake odNInit anNInit odFirst anFirst odValues anValues odWant anWant odSign anSign odLines anLines odWords anWords odIsName anIsName odToldBy anToldBy odOrder anOrder odWantN anWantN odNetOf anNetOf odPlain anPlain odBitsOf anBitsOf odAllBits anAllBits odAllOutputs anAllOutputs odComparable anComparable odSame anSame : Option Addr}
    {slTInit slTake slNInit slFirst slValues slWant slSign slLines slWords slIsName slToldBy slOrder slWantN slNetOf slPlain slBitsOf slAllBits slAllOutputs slComparable slSame : Array (Option Value)}
    {ocTInit kVTInit dcTInit pmTInit cdTInit ctTInit ocTake kVTake dcTake pmTake cdTake ctTake ocNInit kVNInit dcNInit pmNInit cdNInit ctNInit ocFirst kVFirst dcFirst pmFirst cdFirst ctFirst ocValues kVValues dcValues pmValues cdValues ctValues ocWant kVWant dcWant pmWant cdWant ctWant ocSign kVSign dcSign pmSign cdSign ctSign ocLines kVLines dcLines pmLines cdLines ctLines ocWords kVWords dcWords pmWords cdWords ctWords ocIsName kVIsName dcIsName pmIsName cdIsName ctIsName ocToldBy kVToldBy dcToldBy pmToldBy cdToldBy ctToldBy ocOrder kVOrder dcOrder pmOrder cdOrder ctOrder ocWantN kVWantN dcWantN pmWantN cdWantN ctWantN ocNetOf kVNetOf dcNetOf pmNetOf cdNetOf ctNetOf ocPlain kVPlain dcPlain pmPlain cdPlain ctPlain ocBitsOf kVBitsOf dcBitsOf pmBitsOf cdBitsOf ctBitsOf ocAllBits kVAllBits dcAllBits pmAllBits cdAllBits ctAllBits ocAllOutputs kVAllOutputs dcAllOutputs pmAllOutputs cdAllOutputs ctAllOutputs ocComparable kVComparable dcComparable pmComparable cdComparable ctComparable ocSame kVSame dcSame pmSame cdSame ctSame : Value}
    {tLINE_END tREMARK tLOW_LINE tLONGEST_NAME tMOST_NAMES tMOST_INPUTS tMOST_OUTPUTS tMOST_SAME tLETTERS tDIGITS tINPUTS tOUTPUTS tZERO tBLANKS0 tBLANKS1 tREGISTERS0 tREGISTERS1 tNO_NETWORK0 tNOT_ALIKE0 : Tok}
    {aBLANKS aREGISTERS aNO_NETWORK aNOT_ALIKE aSIZES aTURNED : Addr}
    {dBLANKS dREGISTERS : Option Addr}
    {nBLANKS nREGISTERS nNO_NETWORK nNOT_ALIKE nSIZES nTURNED : Nat}
    {slBLANKS slREGISTERS slNO_NETWORK slNOT_ALIKE : Array (Option Value)}
    {esSIZES esTURNED : Array DictEntry}
    (X : K.In h) (G : h.Ns mainGlobals mg) (hfa : mg "same" = some (.ref fa))
    (gC : PySem.W.nsIn K mainGlobals "Told" = some (some (.ref C)))
    (gN : PySem.W.nsIn K mainGlobals "Net" = some (some (.ref N)))
    (gCF : PySem.W.nsIn K mainGlobals "NoNetwork" = some (some (.ref CF)))
    (aTInit : PySem.W.findIn K (.ref C) "__init__" = some (some (.ref fTInit)))
    (iTInit : PySem.W.isFn K (.ref fTInit) = true)
    (lTInit : K.lookup fTInit = some ⟨ocTInit, odTInit, .func (PySem.W.fnOf "__init__" "Told.__init__" (defArgs sTInit) (defBody sTInit) (defScope sTInit) .none kVTInit dcTInit pmTInit anTInit cdTInit ctTInit), slTInit⟩)
    (cTInit : PySem.W.codeIn K cdTInit "Told.__init__" = true)
    (kTInit : PySem.W.keepIn K (.ref fTInit) = true)
    (aTake : PySem.W.findIn K (.ref C) "take" = some (some (.ref fTake)))
    (iTake : PySem.W.isFn K (.ref fTake) = true)
    (lTake : K.lookup fTake = some ⟨ocTake, odTake, .func (PySem.W.fnOf "take" "Told.take" (defArgs sTake) (defBody sTake) (defScope sTake) .none kVTake dcTake pmTake anTake cdTake ctTake), slTake⟩)
    (cTake : PySem.W.codeIn K cdTake "Told.take" = true)
    (kTake : PySem.W.keepIn K (.ref fTake) = true)
    (aNInit : PySem.W.findIn K (.ref N) "__init__" = some (some (.ref fNInit)))
    (iNInit : PySem.W.isFn K (.ref fNInit) = true)
    (lNInit : K.lookup fNInit = some ⟨ocNInit, odNInit, .func (PySem.W.fnOf "__init__" "Net.__init__" (defArgs sNInit) (defBody sNInit) (defScope sNInit) .none kVNInit dcNInit pmNInit anNInit cdNInit ctNInit), slNInit⟩)
    (cNInit : PySem.W.codeIn K cdNInit "Net.__init__" = true)
    (kNInit : PySem.W.keepIn K (.ref fNInit) = true)
    (aFirst : PySem.W.findIn K (.ref N) "first_names" = some (some (.ref fFirst)))
    (iFirst : PySem.W.isFn K (.ref fFirst) = true)
    (lFirst : K.lookup fFirst = some ⟨ocFirst, odFirst, .func (PySem.W.fnOf "first_names" "Net.first_names" (defArgs sFirst) (defBody sFirst) (defScope sFirst) .none kVFirst dcFirst pmFirst anFirst cdFirst ctFirst), slFirst⟩)
    (cFirst : PySem.W.codeIn K cdFirst "Net.first_names" = true)
    (kFirst : PySem.W.keepIn K (.ref fFirst) = true)
    (aValues : PySem.W.findIn K (.ref N) "values" = some (some (.ref fValues)))
    (iValues : PySem.W.isFn K (.ref fValues) = true)
    (lValues : K.lookup fValues = some ⟨ocValues, odValues, .func (PySem.W.fnOf "values" "Net.values" (defArgs sValues) (defBody sValues) (defScope sValues) .none kVValues dcValues pmValues anValues cdValues ctValues), slValues⟩)
    (cValues : PySem.W.codeIn K cdValues "Net.values" = true)
    (kValues : PySem.W.keepIn K (.ref fValues) = true)
    (aWant : PySem.W.nsIn K mainGlobals "want" = some (some (.ref fWant)))
    (lWant : K.lookup fWant = some ⟨ocWant, odWant, .func (PySem.W.fnOf "want" "want" (defArgs sWant) (defBody sWant) (defScope sWant) .none kVWant dcWant pmWant anWant cdWant ctWant), slWant⟩)
    (cWant : PySem.W.codeIn K cdWant "want" = true)
    (kWant : PySem.W.keepIn K (.ref fWant) = true)
    (aSign : PySem.W.nsIn K mainGlobals "sign_of" = some (some (.ref fSign)))
    (lSign : K.lookup fSign = some ⟨ocSign, odSign, .func (PySem.W.fnOf "sign_of" "sign_of" (defArgs sSign) (defBody sSign) (defScope sSign) .none kVSign dcSign pmSign anSign cdSign ctSign), slSign⟩)
    (cSign : PySem.W.codeIn K cdSign "sign_of" = true)
    (kSign : PySem.W.keepIn K (.ref fSign) = true)
    (aLines : PySem.W.nsIn K mainGlobals "lines_of" = some (some (.ref fLines)))
    (lLines : K.lookup fLines = some ⟨ocLines, odLines, .func (PySem.W.fnOf "lines_of" "lines_of" (defArgs sLines) (defBody sLines) (defScope sLines) .none kVLines dcLines pmLines anLines cdLines ctLines), slLines⟩)
    (cLines : PySem.W.codeIn K cdLines "lines_of" = true)
    (kLines : PySem.W.keepIn K (.ref fLines) = true)
    (aWords : PySem.W.nsIn K mainGlobals "words_of" = some (some (.ref fWords)))
    (lWords : K.lookup fWords = some ⟨ocWords, odWords, .func (PySem.W.fnOf "words_of" "words_of" (defArgs sWords) (defBody sWords) (defScope sWords) .none kVWords dcWords pmWords anWords cdWords ctWords), slWords⟩)
    (cWords : PySem.W.codeIn K cdWords "words_of" = true)
    (kWords : PySem.W.keepIn K (.ref fWords) = true)
    (aIsName : PySem.W.nsIn K mainGlobals "is_name" = some (some (.ref fIsName)))
    (lIsName : K.lookup fIsName = some ⟨ocIsName, odIsName, .func (PySem.W.fnOf "is_name" "is_name" (defArgs sIsName) (defBody sIsName) (defScope sIsName) .none kVIsName dcIsName pmIsName anIsName cdIsName ctIsName), slIsName⟩)
    (cIsName : PySem.W.codeIn K cdIsName "is_name" = true)
    (kIsName : PySem.W.keepIn K (.ref fIsName) = true)
    (aToldBy : PySem.W.nsIn K mainGlobals "told_by" = some (some (.ref fToldBy)))
    (lToldBy : K.lookup fToldBy = some ⟨ocToldBy, odToldBy, .func (PySem.W.fnOf "told_by" "told_by" (defArgs sToldBy) (defBody sToldBy) (defScope sToldBy) .none kVToldBy dcToldBy pmToldBy anToldBy cdToldBy ctToldBy), slToldBy⟩)
    (cToldBy : PySem.W.codeIn K cdToldBy "told_by" = true)
    (kToldBy : PySem.W.keepIn K (.ref fToldBy) = true)
    (aOrder : PySem.W.nsIn K mainGlobals "in_order" = some (some (.ref fOrder)))
    (lOrder : K.lookup fOrder = some ⟨ocOrder, odOrder, .func (PySem.W.fnOf "in_order" "in_order" (defArgs sOrder) (defBody sOrder) (defScope sOrder) .none kVOrder dcOrder pmOrder anOrder cdOrder ctOrder), slOrder⟩)
    (cOrder : PySem.W.codeIn K cdOrder "in_order" = true)
    (kOrder : PySem.W.keepIn K (.ref fOrder) = true)
    (aWantN : PySem.W.nsIn K mainGlobals "want_names" = some (some (.ref fWantN)))
    (lWantN : K.lookup fWantN = some ⟨ocWantN, odWantN, .func (PySem.W.fnOf "want_names" "want_names" (defArgs sWantN) (defBody sWantN) (defScope sWantN) .none kVWantN dcWantN pmWantN anWantN cdWantN ctWantN), slWantN⟩)
    (cWantN : PySem.W.codeIn K cdWantN "want_names" = true)
    (kWantN : PySem.W.keepIn K (.ref fWantN) = true)
    (aNetOf : PySem.W.nsIn K mainGlobals "net_of" = some (some (.ref fNetOf)))
    (lNetOf : K.lookup fNetOf = some ⟨ocNetOf, odNetOf, .func (PySem.W.fnOf "net_of" "net_of" (defArgs sNetOf) (defBody sNetOf) (defScope sNetOf) .none kVNetOf dcNetOf pmNetOf anNetOf cdNetOf ctNetOf), slNetOf⟩)
    (cNetOf : PySem.W.codeIn K cdNetOf "net_of" = true)
    (kNetOf : PySem.W.keepIn K (.ref fNetOf) = true)
    (aPlain : PySem.W.nsIn K mainGlobals "plain_bits" = some (some (.ref fPlain)))
    (lPlain : K.lookup fPlain = some ⟨ocPlain, odPlain, .func (PySem.W.fnOf "plain_bits" "plain_bits" (defArgs sPlain) (defBody sPlain) (defScope sPlain) .none kVPlain dcPlain pmPlain anPlain cdPlain ctPlain), slPlain⟩)
    (cPlain : PySem.W.codeIn K cdPlain "plain_bits" = true)
    (kPlain : PySem.W.keepIn K (.ref fPlain) = true)
    (aBitsOf : PySem.W.nsIn K mainGlobals "bits_of" = some (some (.ref fBitsOf)))
    (lBitsOf : K.lookup fBitsOf = some ⟨ocBitsOf, odBitsOf, .func (PySem.W.fnOf "bits_of" "bits_of" (defArgs sBitsOf) (defBody sBitsOf) (defScope sBitsOf) .none kVBitsOf dcBitsOf pmBitsOf anBitsOf cdBitsOf ctBitsOf), slBitsOf⟩)
    (cBitsOf : PySem.W.codeIn K cdBitsOf "bits_of" = true)
    (kBitsOf : PySem.W.keepIn K (.ref fBitsOf) = true)
    (aAllBits : PySem.W.nsIn K mainGlobals "all_bits" = some (some (.ref fAllBits)))
    (lAllBits : K.lookup fAllBits = some ⟨ocAllBits, odAllBits, .func (PySem.W.fnOf "all_bits" "all_bits" (defArgs sAllBits) (defBody sAllBits) (defScope sAllBits) .none kVAllBits dcAllBits pmAllBits anAllBits cdAllBits ctAllBits), slAllBits⟩)
    (cAllBits : PySem.W.codeIn K cdAllBits "all_bits" = true)
    (kAllBits : PySem.W.keepIn K (.ref fAllBits) = true)
    (aAllOutputs : PySem.W.nsIn K mainGlobals "all_outputs" = some (some (.ref fAllOutputs)))
    (lAllOutputs : K.lookup fAllOutputs = some ⟨ocAllOutputs, odAllOutputs, .func (PySem.W.fnOf "all_outputs" "all_outputs" (defArgs sAllOutputs) (defBody sAllOutputs) (defScope sAllOutputs) .none kVAllOutputs dcAllOutputs pmAllOutputs anAllOutputs cdAllOutputs ctAllOutputs), slAllOutputs⟩)
    (cAllOutputs : PySem.W.codeIn K cdAllOutputs "all_outputs" = true)
    (kAllOutputs : PySem.W.keepIn K (.ref fAllOutputs) = true)
    (aComparable : PySem.W.nsIn K mainGlobals "are_comparable" = some (some (.ref fComparable)))
    (lComparable : K.lookup fComparable = some ⟨ocComparable, odComparable, .func (PySem.W.fnOf "are_comparable" "are_comparable" (defArgs sComparable) (defBody sComparable) (defScope sComparable) .none kVComparable dcComparable pmComparable anComparable cdComparable ctComparable), slComparable⟩)
    (cComparable : PySem.W.codeIn K cdComparable "are_comparable" = true)
    (kComparable : PySem.W.keepIn K (.ref fComparable) = true)
    (aSame : PySem.W.nsIn K mainGlobals "same" = some (some (.ref fSame)))
    (lSame : K.lookup fSame = some ⟨ocSame, odSame, .func (PySem.W.fnOf "same" "same" (defArgs sSame) (defBody sSame) (defScope sSame) .none kVSame dcSame pmSame anSame cdSame ctSame), slSame⟩)
    (cSame : PySem.W.codeIn K cdSame "same" = true)
    (kSame : PySem.W.keepIn K (.ref fSame) = true)
    (pgC : PySem.W.plainGet K C Str.empty = true)
    (hdC : PySem.W.hasDictIn K C = true)
    (poC : PySem.W.plainOver K C = true)
    (saC : PySem.W.findIn K (.ref C) "__setattr__" = some (some (.builtin "object.__setattr__")))
    (mkC : PySem.W.makesIn K C = true)
    (kcC : PySem.W.keepIn K (.ref C) = true)
    (pgN : PySem.W.plainGet K N Str.empty = true)
    (hdN : PySem.W.hasDictIn K N = true)
    (poN : PySem.W.plainOver K N = true)
    (saN : PySem.W.findIn K (.ref N) "__setattr__" = some (some (.builtin "object.__setattr__")))
    (mkN : PySem.W.makesIn K N = true)
    (kcN : PySem.W.keepIn K (.ref N) = true)
    (nCinputs : PySem.W.findIn K (.ref C) "inputs" = some none)
    (nCoutputs : PySem.W.findIn K (.ref C) "outputs" = some none)
    (nCgates : PySem.W.findIn K (.ref C) "gates" = some none)
    (nNinputs : PySem.W.findIn K (.ref N) "inputs" = some none)
    (nNoutputs : PySem.W.findIn K (.ref N) "outputs" = some none)
    (nNregisters : PySem.W.findIn K (.ref N) "registers" = some none)
    (nNgates : PySem.W.findIn K (.ref N) "gates" = some none)
    (xF : PySem.W.excIn K CF [.type "ValueError", .type "Exception", .type "BaseException", .type "object"] "ValueError.__new__" = true)
    (kF : PySem.W.keepIn K (.ref CF) = true)
    (bF : PySem.W.subIn K (.ref CF) (.type "BaseException") = some true)
    (tF : PySem.W.typeIn K (.ref CF) = some (.type "type"))
    (iF : PySem.W.isClsIn K CF = true)
    (sF : PySem.W.subIn K (.ref CF) (.ref CF) = some true)
    (vLINE_END : PySem.W.nsIn K mainGlobals "LINE_END" = some (some (.int 10 tLINE_END)))
    (vREMARK : PySem.W.nsIn K mainGlobals "REMARK" = some (some (.int 35 tREMARK)))
    (vLOW_LINE : PySem.W.nsIn K mainGlobals "LOW_LINE" = some (some (.int 95 tLOW_LINE)))
    (vLONGEST_NAME : PySem.W.nsIn K mainGlobals "LONGEST_NAME" = some (some (.int 15 tLONGEST_NAME)))
    (vMOST_NAMES : PySem.W.nsIn K mainGlobals "MOST_NAMES" = some (some (.int 1024 tMOST_NAMES)))
    (vMOST_INPUTS : PySem.W.nsIn K mainGlobals "MOST_INPUTS" = some (some (.int 64 tMOST_INPUTS)))
    (vMOST_OUTPUTS : PySem.W.nsIn K mainGlobals "MOST_OUTPUTS" = some (some (.int 64 tMOST_OUTPUTS)))
    (vMOST_SAME : PySem.W.nsIn K mainGlobals "MOST_SAME" = some (some (.int 16 tMOST_SAME)))
    (vLETTERS : PySem.W.nsIn K mainGlobals "LETTERS" = some (some (.str sLetters tLETTERS)))
    (vDIGITS : PySem.W.nsIn K mainGlobals "DIGITS" = some (some (.str sDigits tDIGITS)))
    (vINPUTS : PySem.W.nsIn K mainGlobals "INPUTS" = some (some (.str ⟨#[105, 110]⟩ tINPUTS)))
    (vOUTPUTS : PySem.W.nsIn K mainGlobals "OUTPUTS" = some (some (.str ⟨#[111, 117, 116]⟩ tOUTPUTS)))
    (vZERO : PySem.W.nsIn K mainGlobals "ZERO" = some (some (.str ⟨#[122, 101, 114, 111]⟩ tZERO)))
    (vBLANKS : PySem.W.nsIn K mainGlobals "BLANKS" = some (some (.ref aBLANKS)))
    (wBLANKS : K.lookup aBLANKS = some ⟨.type "tuple", dBLANKS, .seq #[.int 32 tBLANKS0, .int 9 tBLANKS1] nBLANKS, slBLANKS⟩)
    (vREGISTERS : PySem.W.nsIn K mainGlobals "REGISTERS" = some (some (.ref aREGISTERS)))
    (wREGISTERS : K.lookup aREGISTERS = some ⟨.type "tuple", dREGISTERS, .seq #[.str ⟨#[114, 101, 103]⟩ tREGISTERS0, .str ⟨#[114, 101, 103, 49]⟩ tREGISTERS1] nREGISTERS, slREGISTERS⟩)
    (vNO_NETWORK : PySem.W.nsIn K mainGlobals "NO_NETWORK" = some (some (.ref aNO_NETWORK)))
    (wNO_NETWORK : K.lookup aNO_NETWORK = some ⟨.type "list", none, .seq #[.int (-1) tNO_NETWORK0] nNO_NETWORK, slNO_NETWORK⟩)
    (vNOT_ALIKE : PySem.W.nsIn K mainGlobals "NOT_ALIKE" = some (some (.ref aNOT_ALIKE)))
    (wNOT_ALIKE : K.lookup aNOT_ALIKE = some ⟨.type "list", none, .seq #[.int (-2) tNOT_ALIKE0] nNOT_ALIKE, slNOT_ALIKE⟩)
    (vSIZES : PySem.W.nsIn K mainGlobals "SIZES" = some (some (.ref aSIZES)))
    (wSIZES : K.lookup aSIZES = some ⟨.type "dict", none, .dict esSIZES nSIZES, #[]⟩)
    (ySIZES : PySem.W.KeysLit w.params esSIZES.toList)
    (zSIZES : Ents esSIZES.toList sizesX)
    (uSIZES : (aSIZES == sysModules) = false)
    (vTURNED : PySem.W.nsIn K mainGlobals "TURNED" = some (some (.ref aTURNED)))
    (wTURNED : K.lookup aTURNED = some ⟨.type "dict", none, .dict esTURNED nTURNED, #[]⟩)
    (yTURNED : PySem.W.KeysLit w.params esTURNED.toList)
    (zTURNED : Ents esTURNED.toList turnedX)
    (uTURNED : (aTURNED == sysModules) = false)
    (mlen : PySem.W.nsIn K mainGlobals "len" = some none)
    (mall : PySem.W.nsIn K mainGlobals "all" = some none)
    (mdict : PySem.W.nsIn K mainGlobals "dict" = some none)
    (mlist : PySem.W.nsIn K mainGlobals "list" = some none)
    (mord : PySem.W.nsIn K mainGlobals "ord" = some none)
    (mzip : PySem.W.nsIn K mainGlobals "zip" = some none)
    (menumerate : PySem.W.nsIn K mainGlobals "enumerate" = some none)
    : ∃ fd : FuncData, (∀ (s : Shared) (us : List Value), us.length = (["a", "b"] : List Str).length → BindsTo s fd ⟨us, []⟩ ((["a", "b"] : List Str).zip us)) ∧ ∀ base : Heap, K.In base → base.Ns mainGlobals mg → FnOk P w K mg base CX0 6 fa fd ["a", "b"] (spSame K) := by
  have e := hfa.symm.trans (PySem.W.mg_of X G aSame)
  cases e
  have FTInit := fun_mk (st := sTInit) lTInit cTInit kTInit
  have bTInit := FTInit.binds (ps := ["self"]) fun _ _ _ _ _ _ us hl => match us, hl with | [_], _ => rfl
  have FTake := fun_mk (st := sTake) lTake cTake kTake
  have bTake := FTake.binds (ps := ["self", "words"]) fun _ _ _ _ _ _ us hl => match us, hl with | [_, _], _ => rfl
  have FNInit := fun_mk (st := sNInit) lNInit cNInit kNInit
  have bNInit := FNInit.binds (ps := ["self", "told"]) fun _ _ _ _ _ _ us hl => match us, hl with | [_, _], _ => rfl
  have FFirst := fun_mk (st := sFirst) lFirst cFirst kFirst
  have bFirst := FFirst.binds (ps := ["self"]) fun _ _ _ _ _ _ us hl => match us, hl with | [_], _ => rfl
  have FValues := fun_mk (st := sValues) lValues cValues kValues
  have bValues := FValues.binds (ps := ["self", "bits", "ones"]) fun _ _ _ _ _ _ us hl => match us, hl with | [_, _, _], _ => rfl
  have FWant := fun_mk (st := sWant) lWant cWant kWant
  have bWant := FWant.binds (ps := ["truth"]) fun _ _ _ _ _ _ us hl => match us, hl with | [_], _ => rfl
  have FSign := fun_mk (st := sSign) lSign cSign kSign
  have bSign := FSign.binds (ps := ["byte"]) fun _ _ _ _ _ _ us hl => match us, hl with | [_], _ => rfl
  have FLines := fun_mk (st := sLines) lLines cLines kLines
  have bLines := FLines.binds (ps := ["text"]) fun _ _ _ _ _ _ us hl => match us, hl with | [_], _ => rfl
  have FWords := fun_mk (st := sWords) lWords cWords kWords
  have bWords := FWords.binds (ps := ["line"]) fun _ _ _ _ _ _ us hl => match us, hl with | [_], _ => rfl
  have FIsName := fun_mk (st := sIsName) lIsName cIsName kIsName
  have bIsName := FIsName.binds (ps := ["word"]) fun _ _ _ _ _ _ us hl => match us, hl with | [_], _ => rfl
  have FToldBy := fun_mk (st := sToldBy) lToldBy cToldBy kToldBy
  have bToldBy := FToldBy.binds (ps := ["text"]) fun _ _ _ _ _ _ us hl => match us, hl with | [_], _ => rfl
  have FOrder := fun_mk (st := sOrder) lOrder cOrder kOrder
  have bOrder := FOrder.binds (ps := ["gates", "known"]) fun _ _ _ _ _ _ us hl => match us, hl with | [_, _], _ => rfl
  have FWantN := fun_mk (st := sWantN) lWantN cWantN kWantN
  have bWantN := FWantN.binds (ps := ["told"]) fun _ _ _ _ _ _ us hl => match us, hl with | [_], _ => rfl
  have FNetOf := fun_mk (st := sNetOf) lNetOf cNetOf kNetOf
  have bNetOf := FNetOf.binds (ps := ["text"]) fun _ _ _ _ _ _ us hl => match us, hl with | [_], _ => rfl
  have FPlain := fun_mk (st := sPlain) lPlain cPlain kPlain
  have bPlain := FPlain.binds (ps := ["kind", "some"]) fun _ _ _ _ _ _ us hl => match us, hl with | [_, _], _ => rfl
  have FBitsOf := fun_mk (st := sBitsOf) lBitsOf cBitsOf kBitsOf
  have bBitsOf := FBitsOf.binds (ps := ["kind", "some", "ones"]) fun _ _ _ _ _ _ us hl => match us, hl with | [_, _, _], _ => rfl
  have FAllBits := fun_mk (st := sAllBits) lAllBits cAllBits kAllBits
  have bAllBits := FAllBits.binds (ps := ["k", "many"]) fun _ _ _ _ _ _ us hl => match us, hl with | [_, _], _ => rfl
  have FAllOutputs := fun_mk (st := sAllOutputs) lAllOutputs cAllOutputs kAllOutputs
  have bAllOutputs := FAllOutputs.binds (ps := ["net"]) fun _ _ _ _ _ _ us hl => match us, hl with | [_], _ => rfl
  have FComparable := fun_mk (st := sComparable) lComparable cComparable kComparable
  have bComparable := FComparable.binds (ps := ["one", "other"]) fun _ _ _ _ _ _ us hl => match us, hl with | [_, _], _ => rfl
  have FSame := fun_mk (st := sSame) lSame cSame kSame
  have gI : GStr mg "INPUTS" (S (Sf33.txt "in")) := ⟨_, (PySem.W.mg_of X G vINPUTS).trans (congrArg (fun z => some (Value.str z _)) (by decide +kernel))⟩
  have gO : GStr mg "OUTPUTS" (S (Sf33.txt "out")) := ⟨_, (PySem.W.mg_of X G vOUTPUTS).trans (congrArg (fun z => some (Value.str z _)) (by decide +kernel))⟩
  have gL : GStr mg "LETTERS" sLetters := ⟨_, PySem.W.mg_of X G vLETTERS⟩
  have gB : GTup K mg "BLANKS" [.int 32, .int 9] := ⟨aBLANKS, PySem.W.mg_of X G vBLANKS, fun H => .inr ⟨_, _, _, wBLANKS, rfl, rfl, (by show 2 ≤ sizeLine; exact line_of (by decide)), .cons ⟨_, rfl⟩ (.cons ⟨_, rfl⟩ .nil)⟩⟩
  have gR : GTup K mg "REGISTERS" [sv (Gn.kn (.reg false)), sv (Gn.kn (.reg true))] := ⟨aREGISTERS, PySem.W.mg_of X G vREGISTERS, fun H => .inr ⟨_, _, _, wREGISTERS, rfl, rfl, (by show 2 ≤ sizeLine; exact line_of (by decide)), .cons ⟨_, congrArg (fun z => Value.str z _) (by decide +kernel)⟩ (.cons ⟨_, congrArg (fun z => Value.str z _) (by decide +kernel)⟩ .nil)⟩⟩
  have gNo : GLst K mg "NO_NETWORK" [.int (-1)] := ⟨aNO_NETWORK, PySem.W.mg_of X G vNO_NETWORK, fun H => .inr ⟨_, _, _, wNO_NETWORK, rfl, rfl, rfl, (by show 1 ≤ sizeLine; exact line_of (by decide)), .cons ⟨_, rfl⟩ .nil⟩⟩
  have gZ : GDict K w mg "SIZES" sizesL := ⟨aSIZES, esSIZES, nSIZES, PySem.W.mg_of X G vSIZES, ⟨wSIZES, ySIZES, uSIZES⟩, sizesX_eq ▸ zSIZES⟩
  have ER : Err K mg CF := ⟨PySem.W.mg_of X G gCF, xF, kF, bF, tF, exm_self bF iF tF sF⟩
  have TT : TTold K mg C := ⟨⟨pgC, hdC, poC, saC⟩, PySem.W.mg_of X G gC, nCinputs, nCoutputs, nCgates⟩
  have TN : TNet K mg N := ⟨⟨pgN, hdN, poN, saN⟩, PySem.W.mg_of X G gN, nNinputs, nNoutputs, nNregisters, nNgates⟩
  have mL := PySem.W.mg_none_of X G mlen
  have mA := PySem.W.mg_none_of X G mall
  have mD := PySem.W.mg_none_of X G mdict
  have mLi := PySem.W.mg_none_of X G mlist
  refine ⟨PySem.W.fnOf "same" "same" (defArgs sSame) (defBody sSame) (defScope sSame) .none kVSame dcSame pmSame anSame cdSame ctSame, fun s us hu => match us, hu with | [_, _], _ => .of_eq rfl, fun base _ _ => ?_⟩
  · have GWant : FnOk P w K mg base (L2.CX P w) 1 fWant _ ["truth"] (spWant CF) := ok_want FWant ER
    have GSign : FnOk P w K mg base CX0 1 fSign _ ["byte"] spSign := ok_sign FSign gL ⟨_, PySem.W.mg_of X G vDIGITS⟩ ⟨_, PySem.W.mg_of X G vLOW_LINE⟩ (PySem.W.mg_none_of X G mord)
    have GLines : FnOk P w K mg base CX0 1 fLines _ ["text"] (spLines K) := ok_lines FLines ⟨_, PySem.W.mg_of X G vLINE_END⟩ ⟨_, PySem.W.mg_of X G vREMARK⟩
    have GWords : FnOk P w K mg base CX0 2 fWords _ ["line"] spWords := ok_words FWords gB GSign (PySem.W.mg_of X G aSign) FSign.kp bSign
    have GIsName : FnOk P w K mg base CX0 1 fIsName _ ["word"] spIsName := ok_isName FIsName gL ⟨_, PySem.W.mg_of X G vLONGEST_NAME⟩ gI gO mL mA
    have GTInit : FnOk P w K mg base CX0 1 fTInit _ ["self"] (spTInit C) := ok_tinit FTInit TT
    have GTake : FnOk P w K mg base (L2.CX P w) 2 fTake _ ["self", "words"] (spTake C CF) := ok_take FTake TT gI gO gZ mL mA GWant (PySem.W.mg_of X G aWant) FWant.kp bWant GIsName (PySem.W.mg_of X G aIsName) FIsName.kp bIsName
    have GToldBy : FnOk P w K mg base (L2.CX P w) 3 fToldBy _ ["text"] (spToldBy K C CF) := ok_toldBy FToldBy TT ⟨mkC, aTInit, iTInit, kcC⟩ GTInit bTInit GTake ⟨aTake, iTake, kTake⟩ bTake GLines (PySem.W.mg_of X G aLines) FLines.kp bLines GWords (PySem.W.mg_of X G aWords) FWords.kp bWords
    have GWantN : FnOk P w K mg base (L2.CX P w) 2 fWantN _ ["told"] (spWantN C CF) := ok_wantN FWantN TT ⟨_, PySem.W.mg_of X G vMOST_NAMES⟩ ⟨_, PySem.W.mg_of X G vMOST_INPUTS⟩ ⟨_, PySem.W.mg_of X G vMOST_OUTPUTS⟩ mL mA mD GWant (PySem.W.mg_of X G aWant) FWant.kp bWant
    have GFirst : FnOk P w K mg base CX0 1 fFirst _ ["self"] (spFirst N) := ok_first FFirst TN mD
    have GOrder : FnOk P w K mg base (L2.CX P w) 2 fOrder _ ["gates", "known"] (spOrder CF) := ok_order FOrder mL mD GWant (PySem.W.mg_of X G aWant) FWant.kp bWant
    have GNInit : FnOk P w K mg base (L2.CX P w) 3 fNInit _ ["self", "told"] (spNInit C N CF) := ok_ninit FNInit TT TN gR GFirst ⟨aFirst, iFirst, kFirst⟩ bFirst GOrder (PySem.W.mg_of X G aOrder) FOrder.kp bOrder
    have GNetOf : FnOk P w K mg base CX0 5 fNetOf _ ["text"] (spNetOf K N) := ok_netOf FNetOf ER TN ⟨mkN, aNInit, iNInit, kcN⟩ GToldBy (PySem.W.mg_of X G aToldBy) FToldBy.kp bToldBy GWantN (PySem.W.mg_of X G aWantN) FWantN.kp bWantN GNInit bNInit
    have gZe : GStr mg "ZERO" (S (Gn.kn .zero)) := ⟨_, (PySem.W.mg_of X G vZERO).trans (congrArg (fun z => some (Value.str z _)) (by decide +kernel))⟩
    have gT : GDict K w mg "TURNED" turnedL := ⟨aTURNED, esTURNED, nTURNED, PySem.W.mg_of X G vTURNED, ⟨wTURNED, yTURNED, uTURNED⟩, turnedX_eq ▸ zTURNED⟩
    have gAl : GLst K mg "NOT_ALIKE" [.int (-2)] := ⟨aNOT_ALIKE, PySem.W.mg_of X G vNOT_ALIKE, fun H => .inr ⟨_, _, _, wNOT_ALIKE, rfl, rfl, rfl, (by show 1 ≤ sizeLine; exact line_of (by decide)), .cons ⟨_, rfl⟩ .nil⟩⟩
    have GPlain : FnOk P w K mg base CX0 1 fPlain _ ["kind", "some"] (spPlain K) := ok_plain FPlain gZe
    have GBitsOf : FnOk P w K mg base CX0 2 fBitsOf _ ["kind", "some", "ones"] (spBitsOf K) := ok_bitsOf FBitsOf gT GPlain (PySem.W.mg_of X G aPlain) FPlain.kp bPlain
    have GValues : FnOk P w K mg base CX0 3 fValues _ ["self", "bits", "ones"] (spValues N) := ok_values FValues TN GBitsOf (PySem.W.mg_of X G aBitsOf) FBitsOf.kp bBitsOf
    have GAllBits : FnOk P w K mg base CX0 1 fAllBits _ ["k", "many"] spAllBits := ok_allBits FAllBits
    have GAllOutputs : FnOk P w K mg base CX0 4 fAllOutputs _ ["net"] (spAllOutputs N) := ok_allOutputs FAllOutputs TN mL (PySem.W.mg_none_of X G menumerate) GAllBits (PySem.W.mg_of X G aAllBits) FAllBits.kp bAllBits GValues ⟨aValues, iValues, kValues⟩ bValues
    have GComparable : FnOk P w K mg base CX0 1 fComparable _ ["one", "other"] (spComparable N) := ok_comparable FComparable TN mL ⟨_, PySem.W.mg_of X G vMOST_SAME⟩
    exact ok_same FSame gNo gAl mLi (PySem.W.mg_none_of X G mzip) GNetOf (PySem.W.mg_of X G aNetOf) FNetOf.kp bNetOf GAllOutputs (PySem.W.mg_of X G aAllOutputs) FAllOutputs.kp bAllOutputs GComparable (PySem.W.mg_of X G aComparable) FComparable.kp bComparable
end Gw
open PySem PySem.W PyProof.Rows
set_option maxRecDepth 100000 in
set_option maxHeartbeats 8000000 in
theorem PySem.Challenge.cw_gatenets_s03_same_holds : PySem.Challenge.rw_gatenets_s03_same.Holds := by
  w_on; k_headS; (case hw => exact ⟨[.list [], .list []], by decide +kernel, by decide +kernel⟩)
  k_fillS
  refine L2.walk_specK (r := PySem.Challenge.rw_gatenets_s03_same) (k := 6) (CX := L2.CX0) (ps := ["a", "b"]) (sp := Gw.spSame) (by decide +kernel) rfl rfl ⟨rfl, by decide, by decide⟩ (fun w h Y => PySem.W.kIn_of Y) ?F ?S (fun _ _ _ _ z => z)
  case F =>
    intro w mg fa h Y KX G hmg
    refine' Gw.all_mk KX G hmg ?gC ?gN ?gCF ?aTInit ?iTInit ?lTInit ?cTInit ?kTInit ?aTake ?iTake ?lTake ?cTake ?kTake ?aNInit ?iNInit ?lNInit ?cNInit ?kNInit ?aFirst ?iFirst ?lFirst ?cFirst ?kFirst ?aValues ?iValues ?lValues ?cValues ?kValues ?aWant ?lWant ?cWant ?kWant ?aSign ?lSign ?cSign ?kSign ?aLines ?lLines ?cLines ?kLines ?aWords ?lWords ?cWords ?kWords ?aIsName ?lIsName ?cIsName ?kIsName ?aToldBy ?lToldBy ?cToldBy ?kToldBy ?aOrder ?lOrder ?cOrder ?kOrder ?aWantN ?lWantN ?cWantN ?kWantN ?aNetOf ?lNetOf ?cNetOf ?kNetOf ?aPlain ?lPlain ?cPlain ?kPlain ?aBitsOf ?lBitsOf ?cBitsOf ?kBitsOf ?aAllBits ?lAllBits ?cAllBits ?kAllBits ?aAllOutputs ?lAllOutputs ?cAllOutputs ?kAllOutputs ?aComparable ?lComparable ?cComparable ?kComparable ?aSame ?lSame ?cSame ?kSame ?pgC ?hdC ?poC ?saC ?mkC ?kcC ?pgN ?hdN ?poN ?saN ?mkN ?kcN ?nCinputs ?nCoutputs ?nCgates ?nNinputs ?nNoutputs ?nNregisters ?nNgates ?xF ?kF ?bF ?tF ?iF ?sF ?vLINE_END ?vREMARK ?vLOW_LINE ?vLONGEST_NAME ?vMOST_NAMES ?vMOST_INPUTS ?vMOST_OUTPUTS ?vMOST_SAME ?vLETTERS ?vDIGITS ?vINPUTS ?vOUTPUTS ?vZERO ?vBLANKS ?wBLANKS ?vREGISTERS ?wREGISTERS ?vNO_NETWORK ?wNO_NETWORK ?vNOT_ALIKE ?wNOT_ALIKE ?vSIZES ?wSIZES ?ySIZES ?zSIZES ?uSIZES ?vTURNED ?wTURNED ?yTURNED ?zTURNED ?uTURNED ?mlen ?mall ?mdict ?mlist ?mord ?mzip ?menumerate
    (case gC => k_is)
    (case gN => k_is)
    (case gCF => k_is)
    (case aTInit => k_is)
    (case iTInit => k_is)
    (case lTInit => k_is)
    (case cTInit => k_is)
    (case kTInit => k_is)
    (case aTake => k_is)
    (case iTake => k_is)
    (case lTake => k_is)
    (case cTake => k_is)
    (case kTake => k_is)
    (case aNInit => k_is)
    (case iNInit => k_is)
    (case lNInit => k_is)
    (case cNInit => k_is)
    (case kNInit => k_is)
    (case aFirst => k_is)
    (case iFirst => k_is)
    (case lFirst => k_is)
    (case cFirst => k_is)
    (case kFirst => k_is)
    (case aValues => k_is)
    (case iValues => k_is)
    (case lValues => k_is)
    (case cValues => k_is)
    (case kValues => k_is)
    (case aWant => k_is)
    (case lWant => k_is)
    (case cWant => k_is)
    (case kWant => k_is)
    (case aSign => k_is)
    (case lSign => k_is)
    (case cSign => k_is)
    (case kSign => k_is)
    (case aLines => k_is)
    (case lLines => k_is)
    (case cLines => k_is)
    (case kLines => k_is)
    (case aWords => k_is)
    (case lWords => k_is)
    (case cWords => k_is)
    (case kWords => k_is)
    (case aIsName => k_is)
    (case lIsName => k_is)
    (case cIsName => k_is)
    (case kIsName => k_is)
    (case aToldBy => k_is)
    (case lToldBy => k_is)
    (case cToldBy => k_is)
    (case kToldBy => k_is)
    (case aOrder => k_is)
    (case lOrder => k_is)
    (case cOrder => k_is)
    (case kOrder => k_is)
    (case aWantN => k_is)
    (case lWantN => k_is)
    (case cWantN => k_is)
    (case kWantN => k_is)
    (case aNetOf => k_is)
    (case lNetOf => k_is)
    (case cNetOf => k_is)
    (case kNetOf => k_is)
    (case aPlain => k_is)
    (case lPlain => k_is)
    (case cPlain => k_is)
    (case kPlain => k_is)
    (case aBitsOf => k_is)
    (case lBitsOf => k_is)
    (case cBitsOf => k_is)
    (case kBitsOf => k_is)
    (case aAllBits => k_is)
    (case lAllBits => k_is)
    (case cAllBits => k_is)
    (case kAllBits => k_is)
    (case aAllOutputs => k_is)
    (case lAllOutputs => k_is)
    (case cAllOutputs => k_is)
    (case kAllOutputs => k_is)
    (case aComparable => k_is)
    (case lComparable => k_is)
    (case cComparable => k_is)
    (case kComparable => k_is)
    (case aSame => k_is)
    (case lSame => k_is)
    (case cSame => k_is)
    (case kSame => k_is)
    (case pgC => k_is)
    (case hdC => k_is)
    (case poC => k_is)
    (case saC => k_is)
    (case mkC => k_is)
    (case kcC => k_is)
    (case pgN => k_is)
    (case hdN => k_is)
    (case poN => k_is)
    (case saN => k_is)
    (case mkN => k_is)
    (case kcN => k_is)
    (case nCinputs => k_is)
    (case nCoutputs => k_is)
    (case nCgates => k_is)
    (case nNinputs => k_is)
    (case nNoutputs => k_is)
    (case nNregisters => k_is)
    (case nNgates => k_is)
    (case xF => k_exc)
    (case kF => k_is)
    (case bF => k_is)
    (case tF => k_is)
    (case iF => k_is)
    (case sF => first | rfl | k_is)
    (case vLINE_END => k_is)
    (case vREMARK => k_is)
    (case vLOW_LINE => k_is)
    (case vLONGEST_NAME => k_is)
    (case vMOST_NAMES => k_is)
    (case vMOST_INPUTS => k_is)
    (case vMOST_OUTPUTS => k_is)
    (case vMOST_SAME => k_is)
    (case vLETTERS => k_is)
    (case vDIGITS => k_is)
    (case vINPUTS => k_is)
    (case vOUTPUTS => k_is)
    (case vZERO => k_is)
    (case vBLANKS => k_is)
    (case wBLANKS => k_is)
    (case vREGISTERS => k_is)
    (case wREGISTERS => k_is)
    (case vNO_NETWORK => k_is)
    (case wNO_NETWORK => k_is)
    (case vNOT_ALIKE => k_is)
    (case wNOT_ALIKE => k_is)
    (case vSIZES => k_is)
    (case wSIZES => k_is)
    (case ySIZES => exact ⟨⟨_, _, rfl, rfl⟩, ⟨⟨_, _, rfl, rfl⟩, ⟨⟨_, _, rfl, rfl⟩, ⟨⟨_, _, rfl, rfl⟩, ⟨⟨_, _, rfl, rfl⟩, ⟨⟨_, _, rfl, rfl⟩, ⟨⟨_, _, rfl, rfl⟩, ⟨⟨_, _, rfl, rfl⟩, ⟨⟨_, _, rfl, rfl⟩, ⟨⟨_, _, rfl, rfl⟩, ⟨⟨_, _, rfl, rfl⟩, ⟨⟨_, _, rfl, rfl⟩, ⟨⟨_, _, rfl, rfl⟩, ⟨⟨_, _, rfl, rfl⟩, trivial⟩⟩⟩⟩⟩⟩⟩⟩⟩⟩⟩⟩⟩⟩)
    (case zSIZES => exact .cons ⟨⟨_, rfl⟩, ⟨_, rfl⟩⟩ (.cons ⟨⟨_, rfl⟩, ⟨_, rfl⟩⟩ (.cons ⟨⟨_, rfl⟩, ⟨_, rfl⟩⟩ (.cons ⟨⟨_, rfl⟩, ⟨_, rfl⟩⟩ (.cons ⟨⟨_, rfl⟩, ⟨_, rfl⟩⟩ (.cons ⟨⟨_, rfl⟩, ⟨_, rfl⟩⟩ (.cons ⟨⟨_, rfl⟩, ⟨_, rfl⟩⟩ (.cons ⟨⟨_, rfl⟩, ⟨_, rfl⟩⟩ (.cons ⟨⟨_, rfl⟩, ⟨_, rfl⟩⟩ (.cons ⟨⟨_, rfl⟩, ⟨_, rfl⟩⟩ (.cons ⟨⟨_, rfl⟩, ⟨_, rfl⟩⟩ (.cons ⟨⟨_, rfl⟩, ⟨_, rfl⟩⟩ (.cons ⟨⟨_, rfl⟩, ⟨_, rfl⟩⟩ (.cons ⟨⟨_, rfl⟩, ⟨_, rfl⟩⟩ (.nil)))))))))))))))
    (case uSIZES => first | rfl | decide)
    (case vTURNED => k_is)
    (case wTURNED => k_is)
    (case yTURNED => exact ⟨⟨_, _, rfl, rfl⟩, ⟨⟨_, _, rfl, rfl⟩, ⟨⟨_, _, rfl, rfl⟩, ⟨⟨_, _, rfl, rfl⟩, ⟨⟨_, _, rfl, rfl⟩, trivial⟩⟩⟩⟩⟩)
    (case zTURNED => exact .cons ⟨⟨_, rfl⟩, ⟨_, rfl⟩⟩ (.cons ⟨⟨_, rfl⟩, ⟨_, rfl⟩⟩ (.cons ⟨⟨_, rfl⟩, ⟨_, rfl⟩⟩ (.cons ⟨⟨_, rfl⟩, ⟨_, rfl⟩⟩ (.cons ⟨⟨_, rfl⟩, ⟨_, rfl⟩⟩ (.nil))))))
    (case uTURNED => first | rfl | decide)
    (case mlen => k_is)
    (case mall => k_is)
    (case mdict => k_is)
    (case mlist => k_is)
    (case mord => k_is)
    (case mzip => k_is)
    (case menumerate => k_is)
  case S =>
    intro K H xs a hO hwi hask hx
    cases hx with
    | cons h1 h2 =>
      cases h2 with
      | cons h3 h4 =>
        cases h4
        cases h1 with
        | lst hs ha =>
          cases h3 with
          | lst hs2 ha2 =>
            have e := L2.ints_dw a.1 _ ha
            subst e
            have e2 := L2.ints_dw a.2.1 _ ha2
            subst e2
            have q : ((Codec.inLen 0 65536 a.1 && a.1.all (Codec.inInt 0 255)) && ((Codec.inLen 0 65536 a.2.1 && a.2.1.all (Codec.inInt 0 255)) && true)) = true := hwi
            rw [Bool.and_eq_true, Bool.and_eq_true, Bool.and_eq_true, Bool.and_eq_true] at q
            exact ⟨_, _, a.1, a.2.1, rfl, hs, hs2, (Codec.inNat_iff.mp q.1.1).2, fun z hz => Codec.inInt_iff.mp (List.all_eq_true.mp q.1.2 z hz), (Codec.inNat_iff.mp q.2.1.1).2, fun z hz => Codec.inInt_iff.mp (List.all_eq_true.mp q.2.1.2 z hz), fun H' p hp => .lst (L2.SqL.of hp) (L2.dw_ints _)⟩
#print axioms PySem.Challenge.cw_gatenets_s03_same_holds
