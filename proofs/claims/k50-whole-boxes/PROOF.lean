import PyProof.Rows.All
import Wide.All
import OpenK.AllK
import Wide.FinOn
import HandS.Text
import PyProof.EqAt
import PyProof.EqKinds
import PyProof.TupleCall
import KE.KExcSuper
import HandS.ForMost
import HandS.ForExc
import HandS.ExcSuper
import HandS.ExcInit
import HandS.ExcCtx
import HandS.Star
import HandS.TupAny
import HandS.RaiseMore
import HandS.IsInst
import HandS.ExcIs
import HandS.ExcField
import HandS.HotCalls
import HandS.Codes
import HandS.Walk
import PySem.Challenge.RW_notesttells_k50_whole_boxes_are_read_exa
import KE.KExcIs
import HandS.ExcInitHot
set_option Elab.async false
set_option linter.all false
set_option maxRecDepth 100000
namespace Nt
open PySem
def keys : List Str := ["buttons", "answers", "var", "start", "press", "set", "draw", "use", "say", "if", "else", "end", "mod"]
def signs : List Str := ["+", "-", "*", "/", "mod", "<", "="]
def lowB (w : Str) : Bool := w.cps.toList.all fun c => decide (97 ≤ c) && decide (c ≤ 122)
def isName (w : Str) : Bool := decide (0 < w.length) && decide (w.length ≤ 8) && !decide (w ∈ keys) && lowB w
def digB (w : Str) : Bool := w.cps.toList.all fun c => decide (48 ≤ c) && decide (c ≤ 57)
def lead0 (w : Str) : Bool := decide (w.cps.toList.head? = some 48) && !decide (w = ("0" : Str))
def numOk (w : Str) : Bool := decide (0 < w.length) && decide (w.length ≤ 5) && digB w && !lead0 w
def numV (w : Str) : Int := ((NumText.digitsVal w.cps.toList : Nat) : Int)
def isNum (w : Str) (lo hi : Int) : Bool := numOk w && decide (lo ≤ numV w) && decide (numV w ≤ hi)
def numS (n : Int) : Str := Str.ofString (toString n)

theorem numV_nonneg (w : Str) : 0 ≤ numV w := Int.natCast_nonneg _
theorem allDig {w : Str} (h : digB w = true) : NumText.AllDigits w.cps.toList := fun c hc => by
  have q := List.all_eq_true.mp h c hc
  simp only [Bool.and_eq_true, decide_eq_true_eq] at q
  exact q
theorem len_list (w : Str) : w.length = w.cps.toList.length := by simp [Str.length]
theorem int_of {w : Str} (h0 : 0 < w.length) (h5 : w.length ≤ 5) (h : digB w = true) : PySem.intText? w = some (numV w) := by
  refine intText_digits (allDig h) (fun e => ?_) (by omega)
  rw [len_list, e] at h0
  exact absurd h0 (by decide)
/-- induction from the end -/
theorem rev_ind {p : List Nat → Prop} (h0 : p []) (h1 : ∀ l c, p l → p (l ++ [c])) (l : List Nat) : p l := by
  have q : ∀ m : List Nat, p m.reverse := by
    intro m
    induction m with
    | nil => exact h0
    | cons c m ih => rw [List.reverse_cons]; exact h1 _ _ ih
  have := q l.reverse
  rwa [List.reverse_reverse] at this
theorem val_le (l : List Nat) : NumText.AllDigits l → NumText.digitsVal l < 10 ^ l.length := by
  refine rev_ind (p := fun l => NumText.AllDigits l → NumText.digitsVal l < 10 ^ l.length) (fun _ => by decide) (fun l c ih h => ?_) l
  have h1 : NumText.AllDigits l := fun d hd => h d (List.mem_append_left _ hd)
  have h2 := h c (List.mem_append_right _ (List.mem_singleton.mpr rfl))
  have q := ih h1
  rw [NumText.digitsVal_snoc, List.length_append, List.length_singleton, Nat.pow_succ]
  omega
/-- digits without a zero ahead are written back -/
theorem num_back (l : List Nat) : NumText.AllDigits l → l ≠ [] → l.head? ≠ some 48 → TL.numL (NumText.digitsVal l) = l ∧ 0 < NumText.digitsVal l := by
  refine rev_ind (p := fun l => NumText.AllDigits l → l ≠ [] → l.head? ≠ some 48 → TL.numL (NumText.digitsVal l) = l ∧ 0 < NumText.digitsVal l) (fun _ h => absurd rfl h) (fun l c ih h _ hh => ?_) l
  have h1 : NumText.AllDigits l := fun d hd => h d (List.mem_append_left _ hd)
  have h2 := h c (List.mem_append_right _ (List.mem_singleton.mpr rfl))
  rw [NumText.digitsVal_snoc]
  by_cases e : l = []
  · subst e
    have hc : c ≠ 48 := fun z => hh (by rw [z]; rfl)
    have ev : NumText.digitsVal [] * 10 + (c - 48) = c - 48 := by show 0 * 10 + (c - 48) = c - 48; omega
    rw [ev, TL.numL_lt (by omega)]
    refine ⟨?_, by omega⟩
    show [48 + (c - 48)] = [c]
    rw [show 48 + (c - 48) = c by omega]
  · have hl : l.head? ≠ some 48 := fun z => hh (by rw [List.head?_append, z]; rfl)
    obtain ⟨q1, q2⟩ := ih h1 e hl
    refine ⟨?_, by omega⟩
    rw [TL.numL_step (by omega)]
    rw [show (NumText.digitsVal l * 10 + (c - 48)) / 10 = NumText.digitsVal l by omega, show (NumText.digitsVal l * 10 + (c - 48)) % 10 = c - 48 by omega, q1, show 48 + (c - 48) = c by omega]
/-- what is written of a number has no zero ahead -/
theorem numL_lead : ∀ (k n : Nat), n ≤ k → (TL.numL n).head? = some 48 → n = 0 := by
  intro k
  induction k with
  | zero => intro n h _; omega
  | succ k ih =>
    intro n h hh
    by_cases c : n < 10
    · rw [TL.numL_lt c] at hh
      have z : 48 + n = 48 := Option.some.inj hh
      omega
    · rw [TL.numL_step (by omega), List.head?_append] at hh
      have hne := TL.numL_ne (n / 10)
      cases e : TL.numL (n / 10) with
      | nil => exact absurd e hne
      | cons a r =>
        rw [e] at hh
        have z : a = 48 := by simpa using hh
        have := ih (n / 10) (by omega) (by rw [e, z]; rfl)
        omega
theorem zero_list : (("0" : Str)).cps.toList = [48] := by decide +kernel
theorem tl_numS (w : Str) : (numS (numV w)).cps.toList = TL.numL (NumText.digitsVal w.cps.toList) := TL.tl_num _
theorem ext_list {x y : Str} (h : x.cps.toList = y.cps.toList) : x = y := TL.ext_tl h
/-- a number's word is what str writes -/
theorem num_str {w : Str} (h0 : 0 < w.length) (hd : digB w = true) (hl : lead0 w = false) : numS (numV w) = w := by
  by_cases z : w = ("0" : Str)
  · subst z; decide +kernel
  · refine ext_list ?_
    rw [tl_numS]
    refine (num_back _ (allDig hd) (fun e => ?_) (fun e => ?_)).1
    · rw [len_list, e] at h0; exact absurd h0 (by decide)
    · unfold lead0 at hl
      rw [decide_eq_true e, decide_eq_false z] at hl
      exact absurd hl (by decide)
/-- and only such a word is -/
theorem num_lead {w : Str} (h : numS (numV w) = w) : lead0 w = false := by
  unfold lead0
  by_cases e : w.cps.toList.head? = some 48
  · rw [decide_eq_true e]
    have q : TL.numL (NumText.digitsVal w.cps.toList) = w.cps.toList := by rw [← tl_numS, h]
    rw [← q] at e
    have z := numL_lead _ _ (Nat.le_refl _) e
    rw [z] at q
    have : w = ("0" : Str) := ext_list (by rw [← q, zero_list]; decide +kernel)
    rw [decide_eq_true this]; rfl
  · rw [decide_eq_false e]; rfl
theorem numOk_str {w : Str} (h : numOk w = true) : numS (numV w) = w := by
  simp only [numOk, Bool.and_eq_true, Bool.not_eq_true', decide_eq_true_eq] at h
  exact num_str h.1.1.1 h.1.2 h.2
theorem numOk_iff {w : Str} (h0 : 0 < w.length) (h5 : w.length ≤ 5) (hd : digB w = true) : numOk w = decide (numS (numV w) = w) := by
  by_cases c : numS (numV w) = w
  · rw [decide_eq_true c]
    simp [numOk, h0, h5, hd, num_lead c]
  · rw [decide_eq_false c]
    cases e : numOk w with
    | false => rfl
    | true => exact absurd (numOk_str e) c

inductive Kd where
  | start | top | thn | els | emp
  deriving DecidableEq
inductive It where
  | head | num (lo hi : Int) | word (w : Str) | val (nm : List Str) (r : Int) | blk (r : Int) (k : Kd) | one | new
  deriving DecidableEq
structure Sc where
  nm : List Str
  ex : List Str
  dr : Int
  us : Int
def Kd.nx : Kd → Kd
  | .emp => .els
  | k => k
def possible (r : Int) (sc : Sc) : Bool := decide (sc.nm ++ sc.ex ≠ []) || decide (r > 0)
/-- the beginning of a statement: what is open then -/
def stm (r : Int) (sc : Sc) (w : Str) : Option (List It × Sc) :=
  if w = "set" ∧ sc.nm ≠ [] then some ([.one, .val (sc.nm ++ sc.ex) 5], sc)
  else if w = "draw" ∧ sc.nm ≠ [] ∧ sc.dr > 0 then some ([.one, .num 1 6], { sc with dr := sc.dr - 1 })
  else if w = "use" ∧ sc.nm ≠ [] ∧ sc.us > 0 then some ([.one, .val (sc.nm ++ sc.ex) 5], { sc with us := sc.us - 1 })
  else if w = "say" ∧ sc.ex ≠ [] then some ([.val (sc.nm ++ sc.ex) 5], sc)
  else if w = "if" ∧ r > 0 then some ([.val (sc.nm ++ sc.ex) 5, .blk (r - 1) .thn], sc)
  else none
def blocks (r : Int) (k : Kd) (st : List It) (sc : Sc) (w : Str) : Option (List It × Sc) :=
  if w = "end" ∧ (k = .thn ∨ k = .els) then some (st, sc)
  else if w = "else" ∧ k = .thn ∧ possible r sc = true then some (.blk r .emp :: st, sc)
  else if w = "press" ∧ k = .start then some (.blk 4 .top :: st, { sc with ex := ["press"] })
  else match stm r sc w with
    | none => none
    | some p => some (p.1 ++ .blk r k.nx :: st, p.2)
def step (x : It) (st : List It) (sc : Sc) (w : Str) : Option (List It × Sc) :=
  match x with
  | .word y => if w = y then some (st, sc) else none
  | .one => if w ∈ sc.nm then some (st, sc) else none
  | .num lo hi => if isNum w lo hi = true then some (st, sc) else none
  | .val nm r => if w ∈ signs ∧ r > 1 then some (.val nm (r - 1) :: .val nm (r - 1) :: st, sc) else if w ∈ nm ∨ isNum w 0 65535 = true then some (st, sc) else none
  | .blk r k => blocks r k st sc w
  | .head => if w = "var" ∧ sc.nm.length < 4 then some (.new :: .num 1 12 :: .head :: st, sc) else if w = "start" then some (.blk 4 .start :: st, sc) else none
  | .new => if w ∈ sc.nm ∨ isName w = false then none else some (st, { sc with nm := sc.nm ++ [w] })
def accepts : List It → Bool
  | [.blk _ .top] => true
  | _ => false
def run : List Str → Nat → List It → Sc → Option Nat
  | [], i, st, _ => if accepts st = true then none else some i
  | _ :: _, i, [], _ => some i
  | w :: l, i, x :: st, sc => match step x st sc w with
    | none => some i
    | some p => run l (i + 1) p.1 p.2
def M (ws : List Str) (i : Nat) (st : List It) (sc : Sc) : Option Nat := run (ws.drop i) i st sc
def sc0 (us : Int) : Sc := ⟨[], [], 3, us⟩
def st0 : List It := [.word "buttons", .num 1 4, .word "answers", .num 1 4, .head]
/-- the law's own answer -/
def wrong (ws : List Str) (us : Int) : Option Nat := M ws 0 st0 (sc0 us)

theorem M_end {ws : List Str} {i : Nat} {st : List It} {sc : Sc} (h : ws[i]? = none) : M ws i st sc = if accepts st = true then none else some i := by
  unfold M
  rw [List.drop_eq_nil_of_le (List.getElem?_eq_none_iff.mp h)]
  rfl
theorem M_some {ws : List Str} {i : Nat} {w : Str} {x : It} {st : List It} {sc : Sc} (h : ws[i]? = some w) :
    M ws i (x :: st) sc = match step x st sc w with | none => some i | some p => M ws (i + 1) p.1 p.2 := by
  obtain ⟨hi, e⟩ := List.getElem?_eq_some_iff.mp h
  unfold M
  rw [List.drop_eq_getElem_cons hi, e]
  rfl
theorem M_go {ws : List Str} {i : Nat} {w : Str} {x : It} {st st' : List It} {sc sc' : Sc} (h : ws[i]? = some w) (e : step x st sc w = some (st', sc')) : M ws i (x :: st) sc = M ws (i + 1) st' sc' := by rw [M_some h, e]
theorem M_no {ws : List Str} {i : Nat} {w : Str} {x : It} {st : List It} {sc : Sc} (h : ws[i]? = some w) (e : step x st sc w = none) : M ws i (x :: st) sc = some i := by rw [M_some h, e]

/-- the stack's floor: it is never empty -/
def floor : It → Bool
  | .head => true
  | .blk _ .start => true
  | .blk _ .top => true
  | _ => false
def Ok (st : List It) : Prop := ∃ a b, st = a ++ [b] ∧ floor b = true
theorem Ok.ne {st : List It} (h : Ok st) : ∃ x r, st = x :: r := by
  obtain ⟨a, b, rfl, _⟩ := h
  cases a with
  | nil => exact ⟨b, [], rfl⟩
  | cons x r => exact ⟨x, r ++ [b], rfl⟩
theorem Ok.push {st : List It} (h : Ok st) (x : It) : Ok (x :: st) := by
  obtain ⟨a, b, rfl, f⟩ := h
  exact ⟨x :: a, b, rfl, f⟩
theorem Ok.app {st : List It} (h : Ok st) (l : List It) : Ok (l ++ st) := by
  obtain ⟨a, b, rfl, f⟩ := h
  exact ⟨l ++ a, b, by rw [List.append_assoc], f⟩
theorem Ok.one {x : It} (h : floor x = true) : Ok [x] := ⟨[], x, rfl, h⟩
/-- what lies below a top -/
theorem Ok.below {x : It} {st : List It} (h : Ok (x :: st)) : (st = [] ∧ floor x = true) ∨ Ok st := by
  obtain ⟨a, b, e, f⟩ := h
  cases a with
  | nil =>
    have z := (List.cons.inj e)
    exact .inl ⟨z.2, by rw [z.1]; exact f⟩
  | cons y r =>
    have z := (List.cons.inj e)
    exact .inr ⟨r, b, z.2, f⟩
theorem stm_len {r : Int} {sc : Sc} {w : Str} {p : List It × Sc} (h : stm r sc w = some p) : p.1.length ≤ 2 := by
  unfold stm at h
  repeat' split at h
  all_goals first | (cases h; done) | (cases h; simp)
theorem step_ok {x : It} {st st' : List It} {sc sc' : Sc} {w : Str} (h : Ok (x :: st)) (e : step x st sc w = some (st', sc')) : Ok st' ∧ st'.length ≤ st.length + 3 := by
  rcases h.below with ⟨rfl, f⟩ | h2
  · cases x with
    | head =>
      simp only [step] at e
      split at e
      · cases e; exact ⟨((Ok.one rfl).push _).push _, by simp⟩
      · split at e
        · cases e; exact ⟨.one rfl, by simp⟩
        · cases e
    | blk r k =>
      simp only [step, blocks] at e
      split at e
      · rename_i c
        rcases c.2 with z | z <;> (rw [z] at f; cases f)
      · split at e
        · rename_i c
          rw [c.2.1] at f; cases f
        · split at e
          · cases e; exact ⟨.one rfl, by simp⟩
          · split at e
            · cases e
            · rename_i p hp
              cases e
              refine ⟨(Ok.one ?_).app _, ?_⟩
              · cases k <;> first | rfl | cases f
              · have := stm_len hp
                simp; omega
    | _ => cases f
  · cases x with
    | head =>
      simp only [step] at e
      split at e
      · cases e; exact ⟨((h2.push _).push _).push _, by simp⟩
      · split at e
        · cases e; exact ⟨h2.push _, by simp⟩
        · cases e
    | blk r k =>
      simp only [step, blocks] at e
      split at e
      · cases e; exact ⟨h2, by simp⟩
      · split at e
        · cases e; exact ⟨h2.push _, by simp⟩
        · split at e
          · cases e; exact ⟨h2.push _, by simp⟩
          · split at e
            · cases e
            · rename_i p hp
              cases e
              have := stm_len hp
              exact ⟨(h2.push _).app _, by simp; omega⟩
    | val nm r =>
      simp only [step] at e
      split at e
      · cases e; exact ⟨(h2.push _).push _, by simp⟩
      · split at e
        · cases e; exact ⟨h2, by simp⟩
        · cases e
    | new =>
      simp only [step] at e
      split at e
      · cases e
      · cases e; exact ⟨h2, by simp⟩
    | _ =>
      simp only [step] at e
      split at e
      · cases e; exact ⟨h2, by simp⟩
      · cases e
theorem st0_ok : Ok st0 := ⟨[.word "buttons", .num 1 4, .word "answers", .num 1 4], .head, rfl, rfl⟩

section
variable {ws : List Str} {i : Nat} {w x : Str} {st : List It} {sc : Sc} {nm : List Str} {r lo hi : Int}
theorem val_end (h : ws[i]? = none) : M ws i (.val nm r :: st) sc = some i := by rw [M_end h, if_neg (by cases st <;> simp [accepts])]
theorem val_sign (h : ws[i]? = some w) (hs : w ∈ signs ∧ r > 1) : M ws i (.val nm r :: st) sc = M ws (i + 1) (.val nm (r - 1) :: .val nm (r - 1) :: st) sc := M_go h (by unfold step; exact if_pos hs)
theorem val_leaf (h : ws[i]? = some w) (hs : ¬ (w ∈ signs ∧ r > 1)) (hw : w ∈ nm ∨ isNum w 0 65535 = true) : M ws i (.val nm r :: st) sc = M ws (i + 1) st sc := M_go h (by unfold step; exact (if_neg hs).trans (if_pos hw))
theorem val_bad (h : ws[i]? = some w) (hs : ¬ (w ∈ signs ∧ r > 1)) (hw : ¬ (w ∈ nm ∨ isNum w 0 65535 = true)) : M ws i (.val nm r :: st) sc = some i := M_no h (by unfold step; exact (if_neg hs).trans (if_neg hw))
theorem word_end (h : ws[i]? = none) : M ws i (.word x :: st) sc = some i := by rw [M_end h, if_neg (by cases st <;> simp [accepts])]
theorem word_ok (h : ws[i]? = some x) : M ws i (.word x :: st) sc = M ws (i + 1) st sc := M_go h (by unfold step; exact if_pos rfl)
theorem word_bad (h : ws[i]? = some w) (hw : w ≠ x) : M ws i (.word x :: st) sc = some i := M_no h (by unfold step; exact if_neg hw)
theorem one_end (h : ws[i]? = none) : M ws i (.one :: st) sc = some i := by rw [M_end h, if_neg (by cases st <;> simp [accepts])]
theorem one_ok (h : ws[i]? = some w) (hw : w ∈ sc.nm) : M ws i (.one :: st) sc = M ws (i + 1) st sc := M_go h (by unfold step; exact if_pos hw)
theorem one_bad (h : ws[i]? = some w) (hw : w ∉ sc.nm) : M ws i (.one :: st) sc = some i := M_no h (by unfold step; exact if_neg hw)
theorem num_end (h : ws[i]? = none) : M ws i (.num lo hi :: st) sc = some i := by rw [M_end h, if_neg (by cases st <;> simp [accepts])]
theorem num_ok (h : ws[i]? = some w) (hw : isNum w lo hi = true) : M ws i (.num lo hi :: st) sc = M ws (i + 1) st sc := M_go h (by unfold step; exact if_pos hw)
theorem num_bad (h : ws[i]? = some w) (hw : isNum w lo hi = false) : M ws i (.num lo hi :: st) sc = some i := M_no h (by unfold step; exact if_neg (by rw [hw]; decide))
theorem new_end (h : ws[i]? = none) : M ws i (.new :: st) sc = some i := by rw [M_end h, if_neg (by cases st <;> simp [accepts])]
theorem new_ok (h : ws[i]? = some w) (h1 : isName w = true) (h2 : w ∉ sc.nm) : M ws i (.new :: st) sc = M ws (i + 1) st { sc with nm := sc.nm ++ [w] } := M_go h (by unfold step; exact if_neg (by rw [h1]; simp [h2]))
theorem new_bad (h : ws[i]? = some w) (h1 : w ∈ sc.nm ∨ isName w = false) : M ws i (.new :: st) sc = some i := M_no h (by unfold step; exact if_pos h1)
theorem head_end (h : ws[i]? = none) : M ws i (.head :: st) sc = some i := by rw [M_end h, if_neg (by cases st <;> simp [accepts])]
theorem head_var (h : ws[i]? = some ("var" : Str)) (hl : sc.nm.length < 4) : M ws i (.head :: st) sc = M ws (i + 1) (.new :: .num 1 12 :: .head :: st) sc := M_go h (by unfold step; exact if_pos ⟨rfl, hl⟩)
theorem head_start (h : ws[i]? = some ("start" : Str)) : M ws i (.head :: st) sc = M ws (i + 1) (.blk 4 .start :: st) sc := M_go h (by unfold step; exact (if_neg (fun z => absurd z.1 (by decide +kernel))).trans (if_pos rfl))
theorem head_bad (h : ws[i]? = some w) (h1 : ¬ (w = "var" ∧ sc.nm.length < 4)) (h2 : w ≠ "start") : M ws i (.head :: st) sc = some i := M_no h (by unfold step; exact (if_neg h1).trans (if_neg h2))
end
section
variable {ws : List Str} {i : Nat} {x : Str} {st : List It} {sc : Sc} {lo hi : Int}
theorem one_fail (h : ∀ w, ws[i]? = some w → w ∉ sc.nm) : M ws i (.one :: st) sc = some i := by
  cases e : ws[i]? with
  | none => exact one_end e
  | some w => exact one_bad e (h w e)
theorem num_fail (h : ∀ w, ws[i]? = some w → isNum w lo hi = false) : M ws i (.num lo hi :: st) sc = some i := by
  cases e : ws[i]? with
  | none => exact num_end e
  | some w => exact num_bad e (h w e)
theorem word_fail (h : ∀ w, ws[i]? = some w → w ≠ x) : M ws i (.word x :: st) sc = some i := by
  cases e : ws[i]? with
  | none => exact word_end e
  | some w => exact word_bad e (h w e)
theorem new_fail (h : ∀ w, ws[i]? = some w → w ∈ sc.nm ∨ isName w = false) : M ws i (.new :: st) sc = some i := by
  cases e : ws[i]? with
  | none => exact new_end e
  | some w => exact new_bad e (h w e)
theorem head_fail (h1 : ¬ (ws[i]? = some ("var" : Str) ∧ sc.nm.length < 4)) (h2 : ws[i]? ≠ some ("start" : Str)) : M ws i (.head :: st) sc = some i := by
  cases e : ws[i]? with
  | none => exact head_end e
  | some w => exact head_bad e (fun z => h1 ⟨by rw [e, z.1], z.2⟩) (fun z => h2 (by rw [e, z]))
end
/-- no statement begins at i -/
def NoSt (ws : List Str) (i : Nat) (r : Int) (sc : Sc) : Prop := ∀ w, ws[i]? = some w → stm r sc w = none
theorem stm_kw {r : Int} {sc : Sc} {w : Str} {p : List It × Sc} (h : stm r sc w = some p) : w ≠ "end" ∧ w ≠ "else" ∧ w ≠ "press" := by
  unfold stm at h
  split at h
  · rename_i c; rw [c.1]; decide +kernel
  split at h
  · rename_i c; rw [c.1]; decide +kernel
  split at h
  · rename_i c; rw [c.1]; decide +kernel
  split at h
  · rename_i c; rw [c.1]; decide +kernel
  split at h
  · rename_i c; rw [c.1]; decide +kernel
  · cases h
section
variable {ws : List Str} {i : Nat} {w : Str} {st its : List It} {sc sc' : Sc} {r : Int} {k : Kd}
theorem blk_stm (h : ws[i]? = some w) (e : stm r sc w = some (its, sc')) : M ws i (.blk r k :: st) sc = M ws (i + 1) (its ++ .blk r k.nx :: st) sc' := by
  obtain ⟨h1, h2, h3⟩ := stm_kw e
  exact M_go h (by simp only [step, blocks]; rw [if_neg (fun z => h1 z.1), if_neg (fun z => h2 z.1), if_neg (fun z => h3 z.1), e])
theorem blk_close (h : ws[i]? = some ("end" : Str)) (hk : k = .thn ∨ k = .els) : M ws i (.blk r k :: st) sc = M ws (i + 1) st sc := M_go h (by unfold step blocks; exact if_pos ⟨rfl, hk⟩)
theorem blk_else (h : ws[i]? = some ("else" : Str)) (hp : possible r sc = true) : M ws i (.blk r .thn :: st) sc = M ws (i + 1) (.blk r .emp :: st) sc :=
  M_go h (by unfold step blocks; exact (if_neg (fun z => absurd z.1 (by decide +kernel))).trans (if_pos ⟨rfl, rfl, hp⟩))
theorem blk_press (h : ws[i]? = some ("press" : Str)) : M ws i (.blk r .start :: st) sc = M ws (i + 1) (.blk 4 .top :: st) { sc with ex := ["press"] } :=
  M_go h (by unfold step blocks; exact (if_neg (fun z => absurd z.1 (by decide +kernel))).trans ((if_neg (fun z => absurd z.1 (by decide +kernel))).trans (if_pos ⟨rfl, rfl⟩)))
/-- a block that no word at i goes on -/
theorem blk_bad (n : NoSt ws i r sc) (h : ws[i]? = some w) (h1 : ¬ (w = "end" ∧ (k = .thn ∨ k = .els))) (h2 : ¬ (w = "else" ∧ k = .thn ∧ possible r sc = true)) (h3 : ¬ (w = "press" ∧ k = .start)) : M ws i (.blk r k :: st) sc = some i :=
  M_no h (by simp only [step, blocks]; rw [if_neg h1, if_neg h2, if_neg h3, n w h])
theorem blk_end (h : ws[i]? = none) (hk : k ≠ .top) : M ws i (.blk r k :: st) sc = some i := by
  rw [M_end h, if_neg ?_]
  cases k <;> cases st <;> simp [accepts] at hk ⊢
theorem top_end (h : ws[i]? = none) : M ws i [.blk r .top] sc = none := by rw [M_end h]; rfl
end
section
variable {r : Int} {sc : Sc}
theorem stm_set (h : sc.nm ≠ []) : stm r sc "set" = some ([.one, .val (sc.nm ++ sc.ex) 5], sc) := by unfold stm; rw [if_pos ⟨rfl, h⟩]
theorem stm_draw (h : sc.nm ≠ []) (hd : sc.dr > 0) : stm r sc "draw" = some ([.one, .num 1 6], { sc with dr := sc.dr - 1 }) := by
  unfold stm; rw [if_neg (fun z => absurd z.1 (by decide +kernel)), if_pos ⟨rfl, h, hd⟩]
theorem stm_use (h : sc.nm ≠ []) (hd : sc.us > 0) : stm r sc "use" = some ([.one, .val (sc.nm ++ sc.ex) 5], { sc with us := sc.us - 1 }) := by
  unfold stm; rw [if_neg (fun z => absurd z.1 (by decide +kernel)), if_neg (fun z => absurd z.1 (by decide +kernel)), if_pos ⟨rfl, h, hd⟩]
theorem stm_say (h : sc.ex ≠ []) : stm r sc "say" = some ([.val (sc.nm ++ sc.ex) 5], sc) := by
  unfold stm; rw [if_neg (fun z => absurd z.1 (by decide +kernel)), if_neg (fun z => absurd z.1 (by decide +kernel)), if_neg (fun z => absurd z.1 (by decide +kernel)), if_pos ⟨rfl, h⟩]
theorem stm_if (h : r > 0) : stm r sc "if" = some ([.val (sc.nm ++ sc.ex) 5, .blk (r - 1) .thn], sc) := by
  unfold stm; rw [if_neg (fun z => absurd z.1 (by decide +kernel)), if_neg (fun z => absurd z.1 (by decide +kernel)), if_neg (fun z => absurd z.1 (by decide +kernel)), if_neg (fun z => absurd z.1 (by decide +kernel)), if_pos ⟨rfl, h⟩]
theorem stm_none {w : Str} (h1 : ¬ (w = "set" ∧ sc.nm ≠ [])) (h2 : ¬ (w = "draw" ∧ sc.nm ≠ [] ∧ sc.dr > 0)) (h3 : ¬ (w = "use" ∧ sc.nm ≠ [] ∧ sc.us > 0)) (h4 : ¬ (w = "say" ∧ sc.ex ≠ [])) (h5 : ¬ (w = "if" ∧ r > 0)) : stm r sc w = none := by
  unfold stm; rw [if_neg h1, if_neg h2, if_neg h3, if_neg h4, if_neg h5]
end
def wordsOf (t : Str) : List Str := if t = "" then [] else Txt.split t " "
theorem joinL_cons (S p : List Nat) (r : List (List Nat)) (h : r ≠ []) : TL.joinL S (p :: r) = p ++ S ++ TL.joinL S r := by
  cases r with
  | nil => exact absurd rfl h
  | cons a b => simp [TL.joinL, List.append_assoc]
theorem spl_ne (S acc l : List Nat) : TL.spl S 0 acc l ≠ [] := by
  induction l generalizing acc with
  | nil => simp [TL.spl]
  | cons c r ih =>
    cases h : TL.pre S (c :: r) with
    | true => rw [TL.spl_hit h]; simp
    | false => rw [TL.spl_miss h]; exact ih _
theorem join_spl (l acc : List Nat) : TL.joinL [32] (TL.spl [32] 0 acc l) = acc ++ l := by
  induction l generalizing acc with
  | nil => simp [TL.spl, TL.joinL]
  | cons c r ih =>
    cases h : TL.pre [32] (c :: r) with
    | true =>
      rw [TL.spl_hit h]
      show TL.joinL [32] (acc :: TL.spl [32] 0 [] r) = _
      rw [joinL_cons _ _ _ (spl_ne _ _ _), ih]
      have z : c = 32 := by simpa [TL.pre] using h
      rw [z]; simp
    | false => rw [TL.spl_miss h, ih]; simp
theorem blank_list : ((" " : Str)).cps.toList = [32] := by decide +kernel
theorem split_tl (t : Str) : (Txt.split t " ").map TL.tl = TL.spl [32] 0 [] (TL.tl t) := by
  have e : TL.tl (" " : Str) = [32] := blank_list
  rw [TL.split_spl t " " (by rw [e]; simp) (TL.kind_ok (by decide +kernel)), e]
theorem join_split (t : Str) : Txt.join " " (Txt.split t " ") = t := by
  rw [TL.join_eq]
  refine TL.ext_tl ?_
  rw [TL.tl_join, split_tl]
  have e : TL.tl (" " : Str) = [32] := blank_list
  rw [e, join_spl]; simp
theorem join_words (t : Str) : Txt.join " " (wordsOf t) = t := by
  unfold wordsOf
  split
  · rename_i h; rw [h]; decide +kernel
  · exact join_split t
theorem spl_len (S : List Nat) : ∀ (n : Nat) (l acc : List Nat), l.length ≤ n → (TL.spl S 0 acc l).length ≤ l.length + 1 := by
  intro n
  induction n with
  | zero =>
    intro l acc h
    have : l = [] := List.length_eq_zero_iff.mp (by omega)
    rw [this]; simp [TL.spl]
  | succ n ih =>
    intro l acc h
    cases l with
    | nil => simp [TL.spl]
    | cons c r =>
      have hr : r.length ≤ n := by simpa using h
      cases q : TL.pre S (c :: r) with
      | true =>
        rw [TL.spl_hit q, TL.spl_pass]
        have z := ih (r.drop (S.length - 1)) [] (by rw [List.length_drop]; omega)
        rw [List.length_drop] at z
        simp only [List.length_cons]
        omega
      | false =>
        rw [TL.spl_miss q]
        exact Nat.le_trans (ih r _ hr) (by simp)
theorem wordsOf_len (t : Str) : (Txt.split t " ").length ≤ t.length + 1 := by
  have e : ((Txt.split t " ").map TL.tl).length = (Txt.split t " ").length := List.length_map _
  rw [← e, split_tl, len_list]
  exact spl_len _ _ _ _ (Nat.le_refl _)
end Nt

set_option Elab.async false
set_option linter.all false
set_option maxRecDepth 100000
set_option maxHeartbeats 2000000
namespace PySem
namespace BtX
open PySem.W PySem.Calls PyProof.Rows PySem.HandSPX
def iA : Arguments := { posonlyargs := [], args := [{ arg := "self", annotation := none, pos := ⟨6, 17, 6, 21⟩ }, { arg := "at", annotation := none, pos := ⟨6, 23, 6, 25⟩ }], vararg := none, kwonlyargs := [], kw_defaults := [], kwarg := none, defaults := [] }
def iB : List Stmt :=
  [.Expr (.Call (.Attribute (.Call (.Name "super" ⟨7, 8, 7, 13⟩) [] [] ⟨7, 8, 7, 15⟩) "__init__" ⟨7, 8, 7, 24⟩) [.Constant (.str "a word that does not fit") 0 ⟨7, 25, 7, 51⟩] [] ⟨7, 8, 7, 52⟩) ⟨7, 8, 7, 52⟩,
    .Assign [.Attribute (.Name "self" ⟨8, 8, 8, 12⟩) "at" ⟨8, 8, 8, 15⟩] (.Name "at" ⟨8, 18, 8, 20⟩) ⟨8, 8, 8, 20⟩]
def iS : Scope := { kind := .function, names := [(PySem.Str.ofString "self", .local), (PySem.Str.ofString "at", .local), (PySem.Str.ofString "__class__", .free), (PySem.Str.ofString "super", .globalImplicit)], isGenerator := false, isCoroutine := false, more := [] }
/-- what the written part says of BadText, at C, and of its __init__, at fI -/
structure BtTxt (prog : Program) (K : Frag) (mg : Str → Option Value) (C fI : Addr) : Prop where
  gC : mg "BadText" = some (.ref C)
  gS : mg "super" = none
  top : (prog.main.scope.names.lookup ("super" : Str)).isSome = false
  cls : ∃ nm q N bs bm sn sub ab col dd k0 k1 k2 k3 k5, K.lookup C = some (excClassObj nm q C N bs bm true sn sub ab col dd k0 k1 k2 k3 k5 "ValueError.__new__") ∧ refsVE bm = true
  sa : findIn K (.ref C) "__setattr__" = some (some (.builtin "object.__setattr__"))
  noN : findIn K (.ref C) "at" = some none
  iC : findIn K (.ref C) "__init__" = some (some (.ref fI))
  tC : typeIn K (.ref fI) = some (.type "function")
  kC : keepIn K (.ref C) = true
  exC : subIn K (.ref C) (.type "BaseException") = some true
  exV : subIn K (.ref C) (.type "ValueError") = some true
  mroC : mroIn K C (.ref C) = some true
  op : nsIn K cStatics "thirdparty.any" = some none
  su : ks_superIn K C C "__init__" = some (some (.builtin "ValueError.__init__"))
  tyC : typeIn K (.ref C) = some (.type "type")
  fn : ∃ (oc : Value) (od : Option Addr) (doc pm : Value) (an : Option Addr) (cda cc : Addr) (ct : Value) (osl : Array (Option Value)),
    K.lookup fI = some ⟨oc, od, .func (fnX "__init__" "BadText.__init__" iA iB iS [("__class__", cc)] .none .none doc pm an (.ref cda) ct), osl⟩ ∧ codeIn K (.ref cda) "BadText.__init__" = true ∧
    (∃ ccl cdd vs ccs file tf, K.lookup cda = some ⟨ccl, cdd, .fields vs, ccs⟩ ∧ vs[2]? = some (.str file tf) ∧ ((prog.main.file : Str) == file) = true) ∧ (∃ cl cld csl, K.lookup cc = some ⟨cl, cld, .cell (some (.ref C)), csl⟩)

/-- what __init__ leaves of a fresh exception at x -/
structure InitEnd (h h' : Heap) (x C dx t1 : Addr) (v : Value) : Prop where
  keep : ∀ b o, b ≠ x → h.get? b = some o → h'.get? b = some o
  obj : h'.get? x = some { cls := .ref C, dict := some dx, data := .fields #[.ref t1, .none, .none, .none, .bool false, .none] }
  dbig : h.objs.size ≤ dx
  dne : dx ≠ x
  ns : h'.Ns1 dx (fun y => if y = "at" then some v else none)
/-- a made BadText -/
structure OwnMade (h h' : Heap) (e C d : Addr) (v : Value) : Prop where
  keep : ∀ b o, h.get? b = some o → h'.get? b = some o
  new : h.objs.size ≤ e
  obj : ∃ oe vs, h'.get? e = some oe ∧ oe.cls = .ref C ∧ oe.dict = some d ∧ oe.data = .fields vs ∧ vs[1]? = some .none ∧ vs[2]? = some .none
  dbig : h.objs.size ≤ d
  dne : d ≠ e
  ns : h'.Ns1 d (fun y => if y = "at" then some v else none)
theorem one_size (v : Value) : [v].length ≤ sizeLine := by
  rw [sizeLine_eq]
  exact (by decide : 1 ≤ 16777216)
theorem kept_but {K : Frag} {h h' : Heap} {x : Addr} (X : K.In h) (hx : K.lookup x = none) (k : ∀ b o, b ≠ x → h.get? b = some o → h'.get? b = some o) : K.In h' := fun a o e =>
  k a o (fun z => by rw [z, hx] at e; cases e) (X a o e)
section
variable {prog : Program} {w : World} {M : Model} {A : Around} {E : Value → Shared → Prop} {s : Shared}
theorem cw_mw {pos : Pos} {u x : Addr} {i : String} {first : List Value} {env : Env} {e : Expr} {rest : List Expr} {Q : Value → Shared → Prop}
    (h : wpAny M A (spliced (backTo pos (starEach (e :: rest) env))) (fun vs s₁ => s₁.heap.get? u = some (kxs_mw i x) ∧ wpAny M A (call (.ref u) (first ++ vs)) Q E s₁) E s)
    (he : starEach (e :: rest) env = (false, eval e env) :: starEach rest env := by rfl) (hplain : (backTo pos (starEach rest env)).any (·.1) = false := by rfl) :
    wpAny M A (callWith pos (.ref u) first (backTo pos (starEach (e :: rest) env)) []) Q E s := by
  rw [he] at h ⊢
  refine kxs_callWith (i := i) (x := x) (by show (false || (backTo pos (starEach rest env)).any (·.1)) = false; rw [hplain]; rfl) ?_
  exact evalArgs_plain h
end
section
variable {prog : Program} {w : World} {A : Around} {E : Value → Shared → Prop} {h : Heap} {g : Array GenState} {d : Drawn} {t : Nat} {os : OsState}
variable {nm q : Str} {C N : Addr} {bs bm : List Value} {hdct : Bool} {sn : List Str} {sub : List Value} {ab : Bool} {col : Option Bool} {dd : Option Addr} {k0 k1 k2 k3 k5 : Option Value}
theorem call_mw {u e t0 : Addr} {rest : List Value} {Q : Value → Shared → Prop}
    (hC : h.get? C = some (excClassObj nm q C N bs bm hdct sn sub ab col dd k0 k1 k2 k3 k5 "ValueError.__new__")) (he : h.get? e = some (HandSPX.excO C t0)) (hu : h.get? u = some (kxs_mw "ValueError.__init__" e)) (hrest : rest.length ≤ sizeLine)
    (hq : ∀ h' t1, (∀ b o, b ≠ e → h.get? b = some o → h'.get? b = some o) → h'.get? e = some (HandSPX.excO C t1) → Q .none ⟨h', g, d, t, os⟩) :
    wpAny (model prog w) A (call (.ref u) rest) Q E ⟨h, g, d, t, os⟩ := by
  refine wpAny_call (codeAny_of_tree ?_)
  show wpAny _ A.in1 (callAny (.ref u) ⟨rest, []⟩) _ _ _
  simp only [callAny]
  refine wpAny_bind (wpAny_load hu ?_)
  simp only [kxs_mw, show (Value.type "method-wrapper" == Value.type "method" || Value.type "method-wrapper" == Value.type "builtin_function_or_method" || Value.type "method-wrapper" == Value.type "method-wrapper") = true by decide, if_true]
  refine W.KFB.if_so (by decide) ?_
  refine wpAny_bind (ESX.check_bound F.excBase_ValueError hC he rfl ?_)
  refine wpAny_bind (wpAny_pure (wpAny_pure ?_))
  refine ⟨plainId_quiet F.excBase_ValueError.init.plain _, codeAny_builtin F.excBase_ValueError.initEntry ?_⟩
  rw [Around.under_plainId F.excBase_ValueError.init.plain _]
  wp_walk
  refine hq _ h.objs.size (fun b o hb ho => ?_) ?_
  · rw [Heap.get?_update_other _ _ (Ne.symm hb)]
    exact Heap.get?_push_of_some _ ho
  · rw [Heap.get?_update_self _ (Heap.get?_push_of_some _ he) rfl]
    rfl
end
section
variable {prog : Program} {w : World} {A : Around} {E : Value → Shared → Prop} {R : Result → Shared → Prop} {s : Shared} {K : Frag} {mg : Str → Option Value} {C fI : Addr}
theorem bt_init (T : BtTxt prog K mg C fI) {x t0 : Addr} {v : Value} (X : K.In s.heap) (G : s.heap.Ns mainGlobals mg) (BL : ∃ mb, s.heap.Ns builtinsNs mb ∧ ∀ x : Str, x ≠ "__name__" → mb x = bootBuiltins x)
    (hlim : s.heap.NoLimit) (hx : s.heap.get? x = some (excO C t0)) (hnx : K.lookup x = none) (hroom : A.depth < recursionLimit)
    (hq : ∀ h' tk dx t1, InitEnd s.heap h' x C dx t1 v → R (.ok (.ret .none)) { s with heap := h', toks := tk }) :
    codeAny (model prog w) A (.call (.ref fI) ⟨[.ref x, v], []⟩) R s := by
  obtain ⟨oc, od, doc, pm, an, cda, cc, ct, osl, ho, hcd, ⟨ccl, cdd, vs, ccs, file, tf, hcda, hvs, hfile⟩, ⟨cl, cld, csl, hcell⟩⟩ := T.fn
  obtain ⟨nm, q, N, bs, bm, sn, sub, ab, col, dd, k0, k1, k2, k3, k5, hC, hbm⟩ := T.cls
  have hcl : clsIn K C = some { name := nm, bases := bs, mro := .ref C :: bm, ns := N, qualname := q, hasDict := true, slotNames := sn, subclasses := sub, abstract := ab, collection := col, hasDel := false } := by unfold clsIn; rw [hC] <;> rfl
  refine ks_codeAny_call_defAt (fd := fnX "__init__" "BadText.__init__" iA iB iS [("__class__", cc)] .none .none doc pm an (.ref cda) ct) (body := iB) (binds := [("self", .ref x), ("at", v)])
    hroom (X _ _ ho) rfl hlim (codeRec_of X hcd) rfl (BindsTo.of_eq (by first | rfl | with_unfolding_all rfl)) (by show ∀ x ∈ iS.names, x.2 ≠ NameKind.cell; decide +kernel) (fun y hy => ?_) (fun h₁ hn k => ?_) rfl rfl rfl
  · simp only [List.mem_cons, List.not_mem_nil, or_false] at hy
    rcases hy with rfl | rfl
    · show iS.names.lookup ("self" : Str) = some .local; decide +kernel
    · show iS.names.lookup ("at" : Str) = some .local; decide +kernel
  have X₁ : K.In h₁ := X.keeps k
  have hx₁ := k _ _ hx
  have I : InstAt h₁ x (excO C t0) C none := ⟨hx₁, rfl, rfl, trivial⟩
  obtain ⟨mb, hmb, hbl⟩ := BL
  obtain ⟨hh, g, dr, tk0, os⟩ := s
  refine ks_wpAt_execs_cons (ks_wpAt_Expr_any (ks_wpAt_MethodCall ?_))
  have oC := X₁ _ _ hC
  refine ks_wpAt_super_base (env := ksEnv "BadText.__init__" iS hh.objs.size fI (.ref cda) cc) rfl rfl (by decide +kernel) rfl (X₁ _ _ ho) rfl rfl rfl (X₁ _ _ hcda) rfl hvs hfile T.top ?_
  refine ks_loadName_global rfl rfl (loadGlobal_builtin (env := ksEnv "BadText.__init__" iS hh.objs.size fI (.ref cda) cc) (G.keeps k) T.gS (hmb.keeps k) ((hbl _ (by decide +kernel)).trans (show bootBuiltins "super" = some (.type "super") by first | rfl | kernel_rfl)) ⟨rfl, ?_⟩)
  refine wpAny_loadName_free rfl rfl rfl ⟨_, X₁ _ _ hcell, rfl⟩ ?_
  refine wpAny_loadName_local rfl rfl hn (by first | rfl | kernel_rfl) ?_
  refine ks_wpAny_isType_cls oC rfl ⟨rfl, ?_⟩
  refine ks_wpAny_call_super oC rfl hx₁ rfl (fun c z => by cases z) (looks_mroIn X₁ T.mroC) (fun h₂ hso k₂ => ?_)
  have X₂ : K.In h₂ := X₁.keeps k₂
  have hx₂ := k₂ _ _ hx₁
  have I₂ : InstAt h₂ x (excO C t0) C none := ⟨hx₂, rfl, rfl, trivial⟩
  have hsu : alongIn K "__init__" (((Value.ref C :: bm).dropWhile (· != .ref C)).drop 1) = some (some (.builtin "ValueError.__init__")) := by
    have z := T.su
    unfold ks_superIn at z
    rw [hcl] at z
    exact z
  refine kxs_getMethod kxs_ValueError hso (looks_opaque X₂ T.op) (l₀ := .ref C :: bm) ?_ rfl X₂ hsu (I₂.type.andThen (looks_subIn X₂ T.exV)) (ks_ne X₂ I₂ hcl) (by decide +kernel) ?_
  · exact fun A Q E s k q => wpAny_bind ((looks_clsIn X₂ hcl) A _ E s k (wpAny_pure q))
  have k₃ : ∀ b o, h₂.get? b = some o → (h₂.push (kxs_mw "ValueError.__init__" x)).get? b = some o := fun b o e => Heap.get?_push_of_some _ e
  have X₃ : K.In (h₂.push (kxs_mw "ValueError.__init__" x)) := X₂.keeps k₃
  refine cw_mw (i := "ValueError.__init__") (x := x) (args_cons (Calls.Constant_str (args_nil ⟨Heap.get?_push_at rfl rfl, ?_⟩)))
  refine call_mw (X₃ _ _ hC) (k₃ _ _ hx₂) (Heap.get?_push_at rfl rfl) (one_size _) (fun h₄ t1 k₄ hx₄ => ?_)
  -- self.at = at
  have kk : ∀ b o, b ≠ x → h₁.get? b = some o → h₄.get? b = some o := fun b o hb e => k₄ b o hb (k₃ _ _ (k₂ _ _ e))
  have X₄ : K.In h₄ := kept_but X₁ hnx kk
  obtain ⟨oL, esL, epL, hL, hLr⟩ := hn
  have xL : hh.objs.size ≠ x := Nat.ne_of_gt (Heap.lt_size hx)
  have hn₄ : h₄.Ns hh.objs.size _ := ⟨oL, esL, epL, kk _ _ xL hL, hLr⟩
  show _root_.PySem.wpAt _ _ _ (execs _ _) _ _ _
  refine wpAt_of_wpAny (wpAny_execs_cons (plainObj_wpAny_Assign_Attribute ?_))
  refine ESX.ldL hn₄ (by first | rfl | with_unfolding_all rfl | kernel_rfl) (ESX.ldL hn₄ (by first | rfl | with_unfolding_all rfl | kernel_rfl) ?_)
  refine set_plain X₄ (ox := excO C t1) (od := none) ⟨hx₄, rfl, rfl, trivial⟩ T.sa ?_
  refine exc_osa X₄ hx₄ hcl (show refsVE (.ref C :: bm) = true from hbm) rfl T.noN (fun h₅ tk₅ dx k₅ dn dne hx₅ hn₅ => ?_)
  have sz : hh.objs.size ≤ h₄.objs.size := Nat.le_of_lt (Heap.lt_size (kk _ _ xL hL))
  exact wpAny_execs_nil (hq h₅ tk₅ dx t1 ⟨fun b o hb e => k₅ b o hb (kk b o hb (k b o e)), hx₅, Nat.le_trans sz dn, dne, hn₅⟩)
theorem bt_made (T : BtTxt prog K mg C fI) {v : Value} (X : K.In s.heap) (G : s.heap.Ns mainGlobals mg) (BL : ∃ mb, s.heap.Ns builtinsNs mb ∧ ∀ x : Str, x ≠ "__name__" → mb x = bootBuiltins x) (hlim : s.heap.NoLimit) (hroom : A.depth + 1 < recursionLimit)
    (hq : ∀ h' tk e d, OwnMade s.heap h' e C d v → R (.ok (.ret (.ref e))) { s with heap := h', toks := tk }) :
    codeAny (model prog w) A (.call (.ref C) ⟨[v], []⟩) R s := by
  obtain ⟨nm, q, N, bs, bm, sn, sub, ab, col, dd, k0, k1, k2, k3, k5, hC, hbm⟩ := T.cls
  obtain ⟨hp, g, dr, tk, os⟩ := s
  have k : ∀ b o, hp.get? b = some o → ((hp.push (kdv_tup [v])).push (excO C hp.objs.size)).get? b = some o := fun b o e => Heap.get?_push_of_some _ (Heap.get?_push_of_some _ e)
  have hget : ((hp.push (kdv_tup [v])).push (excO C hp.objs.size)).get? (hp.objs.size + 1) = some (excO C hp.objs.size) := by heap_get
  have hnx : K.lookup (hp.objs.size + 1) = none := by
    cases e : K.lookup (hp.objs.size + 1) with
    | none => rfl
    | some o =>
      have z : hp.get? (hp.objs.size + 1) = some o := X _ _ e
      exact absurd (Nat.lt_of_succ_lt (Heap.lt_size z)) (Nat.lt_irrefl _)
  obtain ⟨mb, hmb, hbl⟩ := BL
  refine call_own F.excBase_ValueError (fun X => refsVE_contains X bm hbm) (X _ _ hC) (looks_findIn X T.iC) (fun self => bind_fn X self T.tC) (one_size v) ?_
  refine bt_init (s := ⟨(hp.push (kdv_tup [v])).push (excO C hp.objs.size), g, dr, tk, os⟩) T (X.keeps k) (G.keeps k) ⟨mb, hmb.keeps k, hbl⟩ (hlim.keeps k) hget hnx ?_ fun h' tk' dx t1 ⟨k', hx, dn, dne, hns⟩ => ?_
  · show A.depth + 1 < recursionLimit
    exact hroom
  · have old : ∀ b o, hp.get? b = some o → h'.get? b = some o := fun b o e => k' b o (Nat.ne_of_lt (Nat.lt_succ_of_lt (Heap.lt_size e))) (k b o e)
    have z : hp.objs.size + 1 + 1 ≤ dx := by
      first
        | (simpa only [Heap.size_push] using dn)
        | exact dn
        | (have q := dn; rw [Heap.size_push, Heap.size_push] at q; exact q)
    exact ⟨rfl, hq h' tk' (hp.objs.size + 1) dx ⟨old, Nat.le_succ _, ⟨_, _, hx, rfl, rfl, rfl, rfl, rfl⟩, Nat.le_trans (Nat.le_trans (Nat.le_succ _) (Nat.le_succ _)) z, dne, hns⟩⟩
end
end BtX
end PySem
namespace L2
open PySem PySem.Spec PyProof.Rows
theorem relO_bt {v : V} {v' : Value} (r : RelV v v') (f : Str) : RelO (List.lookup f [(("at" : Str), v)]) (if f = "at" then some v' else none) := by
  by_cases hw : f = "at"
  · subst hw
    rw [if_pos rfl]
    have q : List.lookup ("at" : Str) [(("at" : Str), v)] = some v := by simp [List.lookup]
    rw [q]
    exact r
  · rw [if_neg hw]
    have qw : (f == ("at" : Str)) = false := by simpa using hw
    have q2 : List.lookup f [(("at" : Str), v)] = none := by simp [List.lookup, qw]
    rw [q2]
    trivial
section
variable {X : Cx} {C fI : Addr}
/-- BadText(e) -/
def tMkBt (C : Addr) (ta : TA) : St → Hp → XK → Prop := fun σ H Q => ta σ H fun vs H1 => ∃ v, vs = [v] ∧ ∀ d, H1 d = none → Q (.ref C) (some d) (upd H1 d (.xd [(("at" : Str), v)]))
theorem pmk_bt {a : Expr} {ta : TA} {p pos : Pos} {k : Nat} (T : PySem.BtX.BtTxt X.prog X.K X.mg C fI) (hr : Room k X.A) (ha : PA X [a] ta) (hg : Gl X "BadText" := by rfl)
    (he : starEach (a :: []) X.env = (false, eval a X.env) :: starEach [] X.env := by rfl) (hpl : (backTo pos (starEach [] X.env)).any (·.1) = false := by rfl) :
    L2N.PMk X (.Call (.Name "BadText" p) [a] [] pos) (tMkBt C ta) := by
  intro pins s σ H Q I h
  refine wpAny_Call_Name_kw (ld_glob I hg T.gC ?_)
  refine PySem.W.callWith_K (h₀ := X.base) I.ok.mod.kin T.kC (thn (ha.run pos pins s σ H _ I h) fun us s1 hh => ?_) he hpl
  obtain ⟨vs, H1, I1, r1, v, ev, q1⟩ := hh
  subst ev
  refine ⟨I1.kIn, ?_⟩
  cases r1 with
  | cons rv rn =>
    rename_i v' us'
    cases rn
    show wpAny _ _ (call (.ref C) [v']) _ _ _
    have hlim := I1.nolimit
    have hgl := I1.ok.mod.glob.keeps I1.bk
    obtain ⟨mb, hmb, hbl⟩ := I1.ok.mod.blt
    have hbb := hmb.keeps I1.bk
    obtain ⟨hp, g, dr, tk, os⟩ := s1
    refine wpAny_call (PySem.BtX.bt_made T I1.kIn hgl ⟨mb, hbb, hbl⟩ hlim (by have := hr.dp; omega) fun h' tk' e d M => ?_)
    show L2N.MkP X pins σ Q (.ref e) ⟨h', g, dr, tk', os⟩
    obtain ⟨oe, fv, hoe, hc, hd, hdat, h1, h2⟩ := M.obj
    have hns := M.ns
    obtain ⟨G', g1, g2⟩ := restrict h' fun b => decide (b ≠ e)
    have gk : ∀ b, b ≠ e → G'.get? b = h'.get? b := fun b hb => g1 b (decide_eq_true hb)
    have ge : G'.get? e = none := g2 e (by simp)
    have old : ∀ b o, hp.get? b = some o → G'.get? b = some o := fun b o q => (gk b (Nat.ne_of_lt (Nat.lt_of_lt_of_le (Heap.lt_size q) M.new))).trans (M.keep b o q)
    have ob : ObjOk X.prog X.w (upd H1 d (.xd [(("at" : Str), v)])) G' d (.xd [(("at" : Str), v)]) :=
      ⟨_, hns.at (fun o q => (gk d M.dne).trans q), fun f => relO_bt rv f⟩
    have J : Inv X pins σ (upd H1 d (.xd [(("at" : Str), v)])) ⟨G', g, dr, tk', os⟩ := I1.laid (t' := tk') old M.dbig ob
    refine ⟨e, oe, fv, ⟨G', g, dr, tk', os⟩, _, .ref C, some d, rfl, J, fun b o q => ?_, ge, hoe, ⟨hc, hd, fun vs z => by rw [hdat] at z; cases z; exact h2⟩, hdat, h1, ?_, rfl, I1.bare, raises_own T.exC T.tyC, q1 d (I1.hok.fresh M.dbig)⟩
    · by_cases hb : b = e
      · have q' : G'.get? b = some o := q
        rw [hb, ge] at q'; cases q'
      · exact (gk b hb).symm.trans q
    · rw [upd_ne (Ne.symm M.dne)]
      exact I1.hok.fresh M.new
/-- raise BadText(e) -/
def tRaiseBt (C : Addr) (W : WX) (ta : TA) : TS := fun _ σ H => tMkBt C ta σ H fun cls d H' => W cls d σ H'
theorem ps_raiseBt {a : Expr} {ta : TA} {W : WX} {p pos pos2 : Pos} {k : Nat} (hc : X.calm = true) (T : PySem.BtX.BtTxt X.prog X.K X.mg C fI) (hr : Room k X.A) (tk : L2N.Takes X W) (ha : PA X [a] ta) (hg : Gl X "BadText" := by rfl)
    (he : starEach (a :: []) X.env = (false, eval a X.env) :: starEach [] X.env := by rfl) (hpl : (backTo pos (starEach [] X.env)).any (·.1) = false := by rfl) :
    PS X (.Raise (some (.Call (.Name "BadText" p) [a] [] pos)) none pos2) (tRaiseBt C W ta)   := L2N.ps_raise hc tk (pmk_bt T hr ha hg he hpl)
end
end L2

set_option Elab.async false
set_option linter.all false
set_option maxRecDepth 100000
namespace Nt
open PySem L2
def top (i : Nat) : Stmt := PySem.Challenge.pw_notesttells_k50_whole_boxes_are_read_exa.main.body.getD i (.Pass ⟨0, 0, 0, 0⟩)
abbrev s_digits_of : Stmt := top 8
abbrev s_is_name : Stmt := top 14
abbrev s_number_of : Stmt := top 15
abbrev s_Cursor_init : Stmt := inClass (top 16) 0
abbrev s_Cursor_next : Stmt := inClass (top 16) 1
abbrev s_Cursor_word : Stmt := inClass (top 16) 2
abbrev s_Cursor_number : Stmt := inClass (top 16) 3
abbrev s_Cursor_new_name : Stmt := inClass (top 16) 4
abbrev s_Cursor_expression : Stmt := inClass (top 16) 5
abbrev s_Cursor_finish : Stmt := inClass (top 16) 6
abbrev s_expression_words : Stmt := top 17
abbrev s_Box_init : Stmt := inClass (top 25) 0
abbrev s_Box_eq : Stmt := inClass (top 25) 1
abbrev s_Reader_init : Stmt := inClass (top 26) 0
abbrev s_Reader_statement : Stmt := inClass (top 26) 1
abbrev s_Reader_choice : Stmt := inClass (top 26) 2
abbrev s_Reader_block : Stmt := inClass (top 26) 3
abbrev s_read_box : Stmt := top 27
abbrev s_read_around : Stmt := top 28
abbrev s_read_any : Stmt := top 29
abbrev s_block_words : Stmt := top 30
abbrev s_box_text : Stmt := top 31
abbrev s_law_pool : Stmt := top 33
abbrev s_law_draw : Stmt := top 34
abbrev s_law_spend : Stmt := top 35
abbrev s_law_same : Stmt := top 36
abbrev s_law_value : Stmt := top 37
abbrev s_law_value_words : Stmt := top 38
abbrev s_law_is_name : Stmt := top 39
abbrev s_law_is_number : Stmt := top 40
abbrev s_law_values : Stmt := top 41
abbrev s_law_spoilt : Stmt := top 42
abbrev s_law_changed : Stmt := top 43
abbrev s_law_joined : Stmt := top 44
abbrev s_law_menu : Stmt := top 45
abbrev s_law_names : Stmt := top 46
abbrev s_law_block : Stmt := top 47
abbrev s_law_statement : Stmt := top 48
abbrev s_law_box : Stmt := top 49
abbrev s_law_block_words : Stmt := top 50
abbrev s_law_words : Stmt := top 51
abbrev s_law_blocks : Stmt := top 52
abbrev s_law_next : Stmt := top 53
abbrev s_law_wrong : Stmt := top 54
abbrev s_law : Stmt := top 55
/-- a def of the module by its name, with its promise -/
structure CalX (P : Program) (w : World) (K : PySem.W.Frag) (mg : Str → Option Value) (base : Heap) (CX : CXT) (k : Nat) (x : Str) (sp : Sp) : Prop where
  ex : ∃ f fd ps, FnOk P w K mg base CX k f fd ps sp ∧ mg x = some (.ref f) ∧ PySem.W.keepIn K (.ref f) = true ∧ Binds K fd ps []
structure MetX (P : Program) (w : World) (K : PySem.W.Frag) (mg : Str → Option Value) (base : Heap) (CX : CXT) (k : Nat) (C : Addr) (m : Str) (sp : Sp) : Prop where
  ex : ∃ f fd ps, FnOk P w K mg base CX k f fd ps sp ∧ Meth K C m f ∧ Binds K fd ps []
structure MakX (P : Program) (w : World) (K : PySem.W.Frag) (mg : Str → Option Value) (base : Heap) (CX : CXT) (k : Nat) (x : Str) (C : Addr) (sp : Sp) : Prop where
  ex : ∃ f fd ps, FnOk P w K mg base CX k f fd ps sp ∧ Mk K C f ∧ mg x = some (.ref C) ∧ Binds K fd ps []
section
variable {X : Cx} {CX : CXT} {k j : Nat} {C : Addr} {sp : Sp} {E : XK} {x m : Str} {p pos apos : Pos} {e o : Expr} {es : List Expr} {ta : TE} {t : TA}
theorem pe_cx (c : CalX X.prog X.w X.K X.mg X.base CX k x sp) (hr : Room j X.A) (hx : Passes CX X E) (ha : PA X (e :: es) t) (hk : k ≤ j := by omega) (hg : Gl X x := by rfl)
    (hdb : (x == ("__debug__" : Str)) = false := by decide) (he : starEach (e :: es) X.env = (false, eval e X.env) :: starEach es X.env := by rfl) (hpl : (backTo pos (starEach es X.env)).any (·.1) = false := by rfl) :
    PE X (.Call (.Name x p) (e :: es) [] pos) (tCall sp [] E t) := by
  obtain ⟨f, fd, ps, F, mf, kf, b⟩ := c.ex
  exact pe_call F (hr.mono hk) hg mf kf b .nil hx ha hdb he hpl
theorem pe_mkx (c : MakX X.prog X.w X.K X.mg X.base CX k x C sp) (hr : Room j X.A) (hx : Passes CX X E) (ha : PA X (e :: es) t) (hk : k + 1 ≤ j := by omega) (hg : Gl X x := by rfl)
    (hdb : (x == ("__debug__" : Str)) = false := by decide) (he : starEach (e :: es) X.env = (false, eval e X.env) :: starEach es X.env := by rfl) (hpl : (backTo pos (starEach es X.env)).any (·.1) = false := by rfl) :
    PE X (.Call (.Name x p) (e :: es) [] pos) (tMake C sp [] E t) := by
  obtain ⟨f, fd, ps, F, M, mf, b⟩ := c.ex
  exact pe_make M F (hr.mono hk) hg mf b .nil hx ha hdb he hpl
theorem pe_mx {pl : Sem Bool} (he : PE X o ta) (c : Cls X.K C) (g : MetX X.prog X.w X.K X.mg X.base CX k C m sp) (hr : Room j X.A) (hx : Passes CX X E) (ha : PA X (e :: es) t) (hk : k ≤ j := by omega)
    (hst : starEach (e :: es) X.env = (false, eval e X.env) :: starEach es X.env := by rfl) (hpl : (backTo pos (starEach es X.env)).any (·.1) = false := by rfl)
    (ht : eval (.Call (.Attribute o m apos) (e :: es) [] pos) X.env = (do
      let ov ← eval o X.env
      standAt apos.atName
      let (f, first) ← holding [ov] (getMethod ov m pl)
      callWith pos f first (backTo pos (starEach (e :: es) X.env)) (backToKw pos (keywordEach [] X.env))) := by rfl) :
    PE X (.Call (.Attribute o m apos) (e :: es) [] pos) (tMeth C m sp [] E ta t) := by
  obtain ⟨f, fd, ps, F, M, b⟩ := g.ex
  exact pe_meth (pl := pl) he c M F (hr.mono hk) b .nil hx ha hst hpl ht
theorem pe_mx0 {pl : Sem Bool} (he : PE X o ta) (c : Cls X.K C) (g : MetX X.prog X.w X.K X.mg X.base CX k C m sp) (hr : Room j X.A) (hx : Passes CX X E) (hk : k ≤ j := by omega)
    (ht : eval (.Call (.Attribute o m apos) [] [] pos) X.env = (do
      let ov ← eval o X.env
      standAt apos.atName
      let (f, first) ← holding [ov] (getMethod ov m pl)
      callWith pos f first (backTo pos (starEach [] X.env)) (backToKw pos (keywordEach [] X.env))) := by rfl) :
    PE X (.Call (.Attribute o m apos) [] [] pos) (tMeth C m sp [] E ta tNil) := by
  obtain ⟨f, fd, ps, F, M, b⟩ := g.ex
  exact pe_meth0 (pl := pl) he c M F (hr.mono hk) b .nil hx ht
/-- what leaves a callee leaves this def -/
theorem pX {E : XK} {E1 : Value → Shared → Prop} (hs : X.stack = X.env :: X.outer) (hf : X.env.frame = some X.env.locals) (hex : X.ex = [])
    (hx : X.xe = fun e s' => wpAny (model X.prog X.w) X.A (leaving X.env e) (fun _ s'' => L2N.CX X.prog X.w X.outer X.H_0 X.s_0 E e s'') E1 s') : Passes (L2N.CX X.prog X.w) X E := L2N.passes_call (L2N.takes_of hs hf hex hx) fun _ _ _ _ h => h
end
/-- as Fun.ok, for a def that may raise with no context -/
theorem okN {P : Program} {w : World} {K : PySem.W.Frag} {mg : Str → Option Value} {base : Heap} {x qual : Str} {st : Stmt} {f : Addr} {fd : FuncData} {N ps : List Str} {k : Nat} {sp : Sp} (F : Fun K x qual st f fd) (S : FnScope N ps (defScope st)) (len : ∀ vs H Q E, sp vs H Q E → vs.length = ps.length)
    (hbody : ∀ (cdv : Value) (A : Around) (outer : List Env) (s : Shared) (H : Hp) (vs : List V) (Q : VK) (E : XK), Room k (A.deeper (PyProof.Rows.envOfC qual (defScope st) s.heap.objs.size f cdv)) → sp vs H Q E →
      ∃ t, PSs (cxOf (L2N.CX P w) P w K mg base N qual (defScope st) f cdv A outer s H E) (defBody st) t ∧ t { nx := fun _ H' => Q .non H', rt := Q } (start N vs) H) : FnOk P w K mg base (L2N.CX P w) (k + 1) f fd ps sp := by
  obtain ⟨oc, od, kV, doc, pm, an, cdv, ct, osl, rfl, lk, hcd⟩ := F.ex
  exact fn_of lk hcd S len fun A outer s H vs Q E hr hsp => hbody cdv A outer s H vs Q E hr hsp
theorem pe_gl {X : Cx} {x : Str} {pos : Pos} {v : V} (hg : Gl X x) (h : ∃ u, X.mg x = some u ∧ RelV v u) (hd : (x == ("__debug__" : Str)) = false := by decide) : PE X (.Name x pos) (tC v) := by
  obtain ⟨u, m, r⟩ := h
  exact pe_glob hg m r hd
/-- str(e), e a number or a text -/
theorem call_str_any {X : Cx} : CallR X (.type "str") (fun xs H Q => (∃ i, xs = [.int i] ∧ i.natAbs.log2 < 1920 ∧ Q (.str (toString i)) H) ∨ (∃ a, xs = [.str a] ∧ Q (.str a) H)) := by
  intro pins s σ H xs us Q I r h
  rcases h with h | h
  · exact call_str_int pins s σ H xs us Q I r h
  · exact SkE.call_str_str pins s σ H xs us Q I r h
/-- -1 -/
theorem pe_neg1 {X : Cx} {i : Int} {j : Nat} {p pos : Pos} : PE X (.UnaryOp .USub (.Constant (.int i) j p) pos) (tUn (fun x H Q => ∃ i, x = .int i ∧ Q (.int (-i)) H) (tC (.int i))) := pe_un un_neg pe_int

/-- all but what stands at L is kept -/
def Keep (L : List Addr) (H H' : Hp) : Prop := ∀ b o, H b = some o → b ∉ L → H' b = some o
theorem Keep.refl (L : List Addr) (H : Hp) : Keep L H H := fun _ _ h _ => h
theorem Keep.trans {L : List Addr} {H H1 H2 : Hp} (a : Keep L H H1) (b : Keep L H1 H2) : Keep L H H2 := fun c o h n => b c o (a c o h n) n
theorem Keep.mono {L L' : List Addr} {H H' : Hp} (a : Keep L H H') (h : ∀ b, b ∈ L → b ∈ L') : Keep L' H H' := fun c o e n => a c o e fun z => n (h c z)
theorem Keep.of_same {L : List Addr} {H H' : Hp} (a : Same H H') : Keep L H H' := fun c o e _ => a c o e
theorem Keep.new {L : List Addr} {H : Hp} {p : Addr} {o : HO} (h : H p = none) : Keep L H (upd H p o) := fun b u e _ => by rw [upd_ne (ne_of_none e h)]; exact e
theorem Keep.upd {L : List Addr} {H : Hp} {p : Addr} {o : HO} (h : p ∈ L) : Keep L H (upd H p o) := fun b u e n => by
  have z : b ≠ p := fun q => n (by rw [q]; exact h)
  show L2.upd H p o b = some u
  rw [upd_ne z]; exact e
theorem Keep.free {L : List Addr} {H H' : Hp} (a : Keep L H H') {p : Addr} (h : H' p = none) (hp : p ∉ L) : H p = none := by
  cases e : H p with
  | none => rfl
  | some o => rw [a p o e hp] at h; cases h
/-- tuples are kept -/
def Tk (H H' : Hp) : Prop := ∀ b xs, H b = some (.tup xs) → H' b = some (.tup xs)
theorem Tk.refl (H : Hp) : Tk H H := fun _ _ h => h
theorem Tk.trans {H H1 H2 : Hp} (a : Tk H H1) (b : Tk H1 H2) : Tk H H2 := fun c o h => b c o (a c o h)
theorem Keep.tk {L : List Addr} {H H' : Hp} (a : Keep L H H') (h : ∀ b, b ∈ L → ∀ xs, H b ≠ some (.tup xs)) : Tk H H' := fun b xs e => a b _ e fun z => h b z xs e
theorem Tk.new {H : Hp} {p : Addr} {o : HO} (h : H p = none) : Tk H (upd H p o) := fun b u e => by rw [upd_ne (ne_of_none e h)]; exact e
theorem Tk.upd {H : Hp} {p : Addr} {o u : HO} (h : H p = some u) (n : ∀ xs, u ≠ .tup xs) : Tk H (upd H p o) := fun b xs e => by 
  have z : b ≠ p := fun q => by
    rw [q, h] at e
    exact n xs (Option.some.inj e)
  show L2.upd H p o b = _
  rw [upd_ne z]; exact e
theorem Tk.sq {K : PySem.W.Frag} {H H' : Hp} {a : Addr} {xs : List V} (t : Tk H H') (h : H a = some (.tup xs)) : SqT K H' a xs := SqT.of (t _ _ h)

/-- an expression at a writes the words ws; d: how deep it may be -/
def ExW (H : Hp) : Nat → Addr → List Str → Prop
  | 0, _, _ => False
  | d + 1, a, ws => (∃ n : Int, H a = some (.tup [.str "number", .int n]) ∧ 0 ≤ n ∧ n ≤ 65535 ∧ ws = [numS n]) ∨ (∃ x : Str, H a = some (.tup [.str "variable", .str x]) ∧ ws = [x]) ∨ (∃ x : Str, H a = some (.tup [.str x]) ∧ ws = [x]) ∨
      ∃ (s : Str) (b c : Addr) (w1 w2 : List Str), H a = some (.tup [.str s, .ref b, .ref c]) ∧ ExW H d b w1 ∧ ExW H d c w2 ∧ ws = s :: (w1 ++ w2)
theorem ExW.keep {H H' : Hp} (t : Tk H H') : ∀ {d : Nat} {a : Addr} {ws : List Str}, ExW H d a ws → ExW H' d a ws
  | 0, _, _, h => h
  | d + 1, a, ws, h => by
    rcases h with ⟨n, h, r⟩ | ⟨x, h, r⟩ | ⟨x, h, r⟩ | ⟨s, b, c, w1, w2, h, h1, h2, r⟩
    · exact .inl ⟨n, t _ _ h, r⟩
    · exact .inr (.inl ⟨x, t _ _ h, r⟩)
    · exact .inr (.inr (.inl ⟨x, t _ _ h, r⟩))
    · exact .inr (.inr (.inr ⟨s, b, c, w1, w2, t _ _ h, ExW.keep t h1, ExW.keep t h2, r⟩))
theorem ExW.up {H : Hp} : ∀ {d : Nat} {a : Addr} {ws : List Str}, ExW H d a ws → ExW H (d + 1) a ws
  | 0, _, _, h => h.elim
  | d + 1, a, ws, h => by
    rcases h with h | h | h | ⟨s, b, c, w1, w2, h, h1, h2, r⟩
    · exact .inl h
    · exact .inr (.inl h)
    · exact .inr (.inr (.inl h))
    · exact .inr (.inr (.inr ⟨s, b, c, w1, w2, h, h1.up, h2.up, r⟩))
theorem ExW.mono {H : Hp} {d : Nat} {a : Addr} {ws : List Str} (h : ExW H d a ws) : ∀ {e : Nat}, d ≤ e → ExW H e a ws := by
  intro e
  induction e with
  | zero => intro z; have : d = 0 := by omega
            subst this; exact h
  | succ e ih =>
    intro z
    by_cases q : d = e + 1
    · subst q; exact h
    · exact (ih (by omega)).up
theorem ExW.len {H : Hp} : ∀ {d : Nat} {a : Addr} {ws : List Str}, ExW H d a ws → ws.length + 1 ≤ 2 ^ d
  | 0, _, _, h => h.elim
  | d + 1, a, ws, h => by
    have p : 1 ≤ 2 ^ d := Nat.one_le_two_pow
    rcases h with ⟨n, h, _, _, rfl⟩ | ⟨x, h, rfl⟩ | ⟨x, h, rfl⟩ | ⟨s, b, c, w1, w2, h, h1, h2, rfl⟩
    · rw [Nat.pow_succ]; simp; omega
    · rw [Nat.pow_succ]; simp; omega
    · rw [Nat.pow_succ]; simp; omega
    · have q1 := h1.len
      have q2 := h2.len
      rw [Nat.pow_succ]; simp only [List.length_cons, List.length_append]; omega
/-- a statement that is no if -/
def PlW (H : Hp) (a : Addr) (ws : List Str) : Prop :=
  (∃ (k x : Str) (b : Addr) (we : List Str), (k = "set" ∨ k = "use") ∧ H a = some (.tup [.str k, .str x, .ref b]) ∧ ExW H 5 b we ∧ ws = k :: x :: we) ∨
  (∃ (b : Addr) (we : List Str), H a = some (.tup [.str "say", .ref b]) ∧ ExW H 5 b we ∧ ws = ("say" : Str) :: we) ∨
  (∃ (x : Str) (n : Int), H a = some (.tup [.str "draw", .str x, .int n]) ∧ 1 ≤ n ∧ n ≤ 6 ∧ ws = [("draw" : Str), x, numS n])
/-- the words of a block: its statements at the addresses, with their words -/
def wsOf (rs : List (Addr × List Str)) : List Str := (rs.map (·.2)).flatten
def BlL (S : Addr → List Str → Prop) (H : Hp) (a : Addr) (rs : List (Addr × List Str)) : Prop := H a = some (.tup (rs.map fun p => V.ref p.1)) ∧ ∀ p ∈ rs, S p.1 p.2
def elseW (rs : List (Addr × List Str)) : List Str := if rs = [] then [] else ("else" : Str) :: wsOf rs
def StW (H : Hp) : Nat → Addr → List Str → Prop
  | 0, a, ws => PlW H a ws
  | d + 1, a, ws => PlW H a ws ∨ ∃ (b t o : Addr) (we : List Str) (rt ro : List (Addr × List Str)), H a = some (.tup [.str "if", .ref b, .ref t, .ref o]) ∧ ExW H 5 b we ∧ BlL (StW H d) H t rt ∧ BlL (StW H d) H o ro ∧
      ws = ("if" : Str) :: (we ++ wsOf rt ++ elseW ro ++ [("end" : Str)])
theorem PlW.keep {H H' : Hp} (t : Tk H H') {a : Addr} {ws : List Str} (h : PlW H a ws) : PlW H' a ws := by
  rcases h with ⟨k, x, b, we, hk, h, e, r⟩ | ⟨b, we, h, e, r⟩ | ⟨x, n, h, r⟩
  · exact .inl ⟨k, x, b, we, hk, t _ _ h, e.keep t, r⟩
  · exact .inr (.inl ⟨b, we, t _ _ h, e.keep t, r⟩)
  · exact .inr (.inr ⟨x, n, t _ _ h, r⟩)
theorem StW.keep {H H' : Hp} (t : Tk H H') : ∀ {d : Nat} {a : Addr} {ws : List Str}, StW H d a ws → StW H' d a ws
  | 0, _, _, h => PlW.keep t h
  | d + 1, a, ws, h => by
    rcases h with h | ⟨b, tt, o, we, rt, ro, h, e, ⟨h1, h2⟩, ⟨h3, h4⟩, r⟩
    · exact .inl (h.keep t)
    · exact .inr ⟨b, tt, o, we, rt, ro, t _ _ h, e.keep t, ⟨t _ _ h1, fun p hp => StW.keep t (h2 p hp)⟩, ⟨t _ _ h3, fun p hp => StW.keep t (h4 p hp)⟩, r⟩
theorem BlL.keep {H H' : Hp} (t : Tk H H') {d : Nat} {a : Addr} {rs : List (Addr × List Str)} (h : BlL (StW H d) H a rs) : BlL (StW H' d) H' a rs := ⟨t _ _ h.1, fun p hp => (h.2 p hp).keep t⟩
theorem f_wa : ¬ (("words" : Str) = "at") := by decide +kernel
def cf (l : Addr) (i : Int) : List (Str × V) := [("words", .ref l), ("at", .int i)]
theorem cf_words (l : Addr) (i : Int) : (cf l i).lookup ("words" : Str) = some (.ref l) := by unfold cf; simp [List.lookup]
theorem cf_at (l : Addr) (i : Int) : (cf l i).lookup ("at" : Str) = some (.int i) := by
  unfold cf; simp only [List.lookup, show (("at" : Str) == "words") = false from by decide +kernel]; simp
theorem cf_put (l : Addr) (i j : Int) : putF "at" (.int j) (cf l i) = cf l j := by
  unfold cf; simp only [putF]; rw [if_neg f_wa]; simp
theorem cf_no (l : Addr) (i : Int) {m : Str} (h1 : (m == ("words" : Str)) = false) (h2 : (m == ("at" : Str)) = false) : (cf l i).lookup m = none := by
  unfold cf; simp only [List.lookup, h1, h2]
def rf (c n : Addr) (left uses : Int) (e : Addr) : List (Str × V) := [("cursor", .ref c), ("names", .ref n), ("left", .int left), ("uses", .int uses), ("extra", .ref e)]
theorem rf_look (c n : Addr) (left uses : Int) (e : Addr) : (rf c n left uses e).lookup ("cursor" : Str) = some (.ref c) ∧ (rf c n left uses e).lookup ("names" : Str) = some (.ref n) ∧ (rf c n left uses e).lookup ("left" : Str) = some (.int left) ∧
    (rf c n left uses e).lookup ("uses" : Str) = some (.int uses) ∧ (rf c n left uses e).lookup ("extra" : Str) = some (.ref e) := by
  unfold rf
  refine ⟨?_, ?_, ?_, ?_, ?_⟩ <;> simp only [List.lookup, show (("names" : Str) == "cursor") = false from by decide +kernel, show (("left" : Str) == "cursor") = false from by decide +kernel, show (("left" : Str) == "names") = false from by decide +kernel,
    show (("uses" : Str) == "cursor") = false from by decide +kernel, show (("uses" : Str) == "names") = false from by decide +kernel, show (("uses" : Str) == "left") = false from by decide +kernel, show (("extra" : Str) == "cursor") = false from by decide +kernel,
    show (("extra" : Str) == "names") = false from by decide +kernel, show (("extra" : Str) == "left") = false from by decide +kernel, show (("extra" : Str) == "uses") = false from by decide +kernel, beq_self_eq_true]
theorem rf_no (c n : Addr) (left uses : Int) (e : Addr) {m : Str} (h : (m == ("cursor" : Str) || m == ("names" : Str) || m == ("left" : Str) || m == ("uses" : Str) || m == ("extra" : Str)) = false) : (rf c n left uses e).lookup m = none := by
  simp only [Bool.or_eq_false_iff] at h
  obtain ⟨⟨⟨⟨h1, h2⟩, h3⟩, h4⟩, h5⟩ := h
  unfold rf; simp only [List.lookup, h1, h2, h3, h4, h5]
theorem rf_left (c n : Addr) (left uses : Int) (e : Addr) (k : Int) : putF "left" (.int k) (rf c n left uses e) = rf c n k uses e := by
  unfold rf; simp only [putF]
  rw [if_neg (by decide +kernel), if_neg (by decide +kernel)]
  simp
theorem rf_uses (c n : Addr) (left uses : Int) (e : Addr) (k : Int) : putF "uses" (.int k) (rf c n left uses e) = rf c n left k e := by
  unfold rf; simp only [putF]
  rw [if_neg (by decide +kernel), if_neg (by decide +kernel), if_neg (by decide +kernel)]
  simp
theorem rf_extra (c n : Addr) (left uses : Int) (e : Addr) (k : Addr) : putF "extra" (.ref k) (rf c n left uses e) = rf c n left uses k := by
  unfold rf; simp only [putF]
  rw [if_neg (by decide +kernel), if_neg (by decide +kernel), if_neg (by decide +kernel), if_neg (by decide +kernel)]
  simp
/-- at c a cursor over the words ws (a list at l), at the i-th -/
structure CurAt (CC : Addr) (H : Hp) (c l : Addr) (ws : List Str) (i : Nat) : Prop where
  obj : ∃ dx, H c = some (.ins CC dx (cf l i))
  lst : H l = some (.lst (ws.map V.str))
  sz : ∀ w, w ∈ ws → w.length ≤ sizeLine
  nl : ws.length < sizeLine
/-- at r a reader -/
def ReadAt (CR : Addr) (H : Hp) (r c n : Addr) (left uses : Int) (e : Addr) : Prop := ∃ dx, H r = some (.ins CR dx (rf c n left uses e))

structure Txt (P : Program) (K : PySem.W.Frag) (mg : Str → Option Value) (CB fB CC CR CX aK aS : Addr) : Prop where
  bt : PySem.BtX.BtTxt P K mg CB fB
  len : mg "len" = none
  all : mg "all" = none
  range : mg "range" = none
  isinstance : mg "isinstance" = none
  int_ : mg "int" = none
  str_ : mg "str" = none
  tuple_ : mg "tuple" = none
  list_ : mg "list" = none
  bool_ : mg "bool" = none
  gKEYS : ∃ u, mg "KEYS" = some u ∧ RelV (.ref aK) u
  kKEYS : ∀ H, SqT K H aK (keys.map V.str)
  gSIGNS : ∃ u, mg "SIGNS" = some u ∧ RelV (.ref aS) u
  kSIGNS : ∀ H, SqT K H aS (signs.map V.str)
  gGREATEST : ∃ u, mg "GREATEST" = some u ∧ RelV (.int 65535) u
  gDEEPEST : ∃ u, mg "DEEPEST" = some u ∧ RelV (.int 5) u
  gMOST_VARIABLES : ∃ u, mg "MOST_VARIABLES" = some u ∧ RelV (.int 4) u
  gMOST_SIZE : ∃ u, mg "MOST_SIZE" = some u ∧ RelV (.int 12) u
  gMOST_DRAWS : ∃ u, mg "MOST_DRAWS" = some u ∧ RelV (.int 3) u
  gMOST_USES : ∃ u, mg "MOST_USES" = some u ∧ RelV (.int 24) u
  gMOST_RESULTS : ∃ u, mg "MOST_RESULTS" = some u ∧ RelV (.int 6) u
  gMOST_IFS : ∃ u, mg "MOST_IFS" = some u ∧ RelV (.int 4) u
  clCursor : Cls K CC
  clReader : Cls K CR
  clBox : Cls K CX
  cWords : NoAttr K CC "words"
  cAt : NoAttr K CC "at"
  rCursor : NoAttr K CR "cursor"
  rNames : NoAttr K CR "names"
  rLeft : NoAttr K CR "left"
  rUses : NoAttr K CR "uses"
  rExtra : NoAttr K CR "extra"
  xButtons : NoAttr K CX "buttons"
  xAnswers : NoAttr K CX "answers"
  xVariables : NoAttr K CX "variables"
  xStart : NoAttr K CX "start"
  xBlock : NoAttr K CX "block"
theorem eqV_str (a b : Str) : eqV (.str a) (.str b) = (a == b) := rfl
theorem inV_strs (w : Str) (xs : List Str) : inV (.str w) (xs.map V.str) = decide (w ∈ xs) := by
  unfold inV
  rw [List.any_map]
  induction xs with
  | nil => simp
  | cons a r ih =>
    rw [List.any_cons, ih]
    show ((a == w) || decide (w ∈ r)) = _
    by_cases h : w = a
    · subst h; simp
    · have : (a == w) = false := by simpa using fun z => h z.symm
      rw [this]; simp [h]
theorem flat_strs (xs : List Str) : (xs.map V.str).all flatV = true := by
  rw [List.all_eq_true]
  intro v hv
  obtain ⟨w, _, rfl⟩ := List.mem_map.mp hv
  rfl
theorem at_str {ws : List Str} {i : Nat} {w : Str} (h : ws[i]? = some w) : atI (ws.map V.str) (i : Int) = some (.str w) := atI_nat (by rw [List.getElem?_map, h]; rfl)
theorem strs_of {ws : List Str} {i : Nat} {v : V} (h : (ws.map V.str)[i]? = some v) : ∃ w, ws[i]? = some w ∧ v = .str w := by
  rw [List.getElem?_map] at h
  cases e : ws[i]? with
  | none => rw [e] at h; cases h
  | some w => rw [e] at h; exact ⟨w, rfl, (Option.some.inj h).symm⟩
theorem len_strs (ws : List Str) : (ws.map V.str).length = ws.length := List.length_map _
def seg (ws : List Str) (i j : Nat) : List Str := (ws.drop i).take (j - i)
theorem seg_nil (ws : List Str) (i : Nat) : seg ws i i = [] := by unfold seg; rw [Nat.sub_self]; rfl
theorem seg_one {ws : List Str} {i : Nat} {w : Str} (h : ws[i]? = some w) : seg ws i (i + 1) = [w] := by
  obtain ⟨hi, e⟩ := List.getElem?_eq_some_iff.mp h
  unfold seg
  rw [List.drop_eq_getElem_cons hi, e, show i + 1 - i = 1 by omega]
  rfl
theorem seg_cat {ws : List Str} {i j k : Nat} (h1 : i ≤ j) (h2 : j ≤ k) : seg ws i j ++ seg ws j k = seg ws i k := by
  unfold seg
  have e : ws.drop j = (ws.drop i).drop (j - i) := by rw [List.drop_drop]; congr 1; omega
  rw [e, show k - i = (j - i) + (k - j) by omega, List.take_add]
theorem seg_cons {ws : List Str} {i k : Nat} {w : Str} (h : ws[i]? = some w) (h2 : i + 1 ≤ k) : w :: seg ws (i + 1) k = seg ws i k := by
  rw [← seg_cat (Nat.le_succ i) h2, seg_one h]; rfl
theorem seg_all (ws : List Str) : seg ws 0 ws.length = ws := by unfold seg; simp
theorem words_le (t w : Str) (h : w ∈ wordsOf t) : w.length ≤ t.length := by
  have key : ∀ (S : List Nat) (l : List (List Nat)) (p : List Nat), p ∈ l → p.length ≤ (TL.joinL S l).length := by
    intro S l
    induction l with
    | nil => intro p h; cases h
    | cons a r ih =>
      intro p hp
      cases r with
      | nil =>
        have : p = a := by simpa using hp
        subst this; exact Nat.le_refl _
      | cons b r =>
        rw [joinL_cons _ _ _ (by simp)]
        rcases List.mem_cons.mp hp with rfl | hp
        · simp only [List.length_append]; omega
        · have := ih p hp
          simp only [List.length_append]; omega
  unfold wordsOf at h
  split at h
  · cases h
  · have e := join_split t
    rw [TL.join_eq] at e
    have q : TL.tl w ∈ (Txt.split t " ").map TL.tl := List.mem_map.mpr ⟨w, h, rfl⟩
    have z := key (TL.tl " ") _ _ q
    rw [← TL.tl_join, e] at z
    rw [len_list, len_list]; exact z
/-- the word at a place, or None -/
def wv : Option Str → V
  | some w => .str w
  | none => .non
theorem inV_wv (w : Str) (xs : List Str) : inV (wv (some w)) (xs.map V.str) = decide (w ∈ xs) := inV_strs w xs
theorem wv_scal (o : Option Str) (k : Str) : scal (wv o) (.str k) = true := by cases o <;> rfl
theorem wv_eq (o : Option Str) (k : Str) : decide (wv o = .str k) = decide (o = some k) := by
  cases o with
  | none =>
    show decide (V.non = V.str k) = _
    rw [decide_eq_false (fun z => by cases z), decide_eq_false (fun z => by cases z)]
  | some w =>
    show decide (V.str w = V.str k) = _
    by_cases h : w = k
    · subst h; rw [decide_eq_true rfl, decide_eq_true rfl]
    · rw [decide_eq_false (fun z => h (V.str.inj z)), decide_eq_false (fun z => h (Option.some.inj z))]
/-- an and whose parts' answers are known -/
theorem and_t {t u : TT} {σ : L2.St} {H : Hp} {Q : Bool → Hp → Prop} {a b : Bool} (h1 : ∀ Q : Bool → Hp → Prop, Q a H → t σ H Q) (h2 : a = true → ∀ Q : Bool → Hp → Prop, Q b H → u σ H Q) (q : Q (a && b) H) : tAnd t u σ H Q := by
  refine h1 _ ?_
  cases a with
  | false => exact iteF q
  | true => exact iteT (h2 rfl Q (by simpa using q))
theorem or_t {t u : TT} {σ : L2.St} {H : Hp} {Q : Bool → Hp → Prop} {a b : Bool} (h1 : ∀ Q : Bool → Hp → Prop, Q a H → t σ H Q) (h2 : a = false → ∀ Q : Bool → Hp → Prop, Q b H → u σ H Q) (q : Q (a || b) H) : tOr t u σ H Q := by
  refine h1 _ ?_
  cases a with
  | true => exact iteT q
  | false => exact iteF (h2 rfl Q (by simpa using q))
theorem ite_f2 {a : Bool} {X Y Z : Prop} (h : a = true → Z → X) (hY : Z → Y) (z : Z) : if a = true then X else Y := by
  cases a with
  | false => exact iteF (hY z)
  | true => exact iteT (h rfl z)
theorem ite_t2 {a : Bool} {X Y Z : Prop} (hX : Z → X) (hY : a = false → Z → Y) (z : Z) : if a = true then X else Y := by
  cases a with
  | false => exact iteF (hY rfl z)
  | true => exact iteT (hX z)
theorem emp_map {α β : Type} (f : α → β) (xs : List α) : (!(xs.map f).isEmpty) = !xs.isEmpty := by cases xs <;> rfl
theorem emp_t {α β : Type} {f : α → β} {xs : List α} (h : xs ≠ []) : (!(xs.map f).isEmpty) = true := by cases xs <;> first | rfl | exact absurd rfl h
theorem emp_f {α β : Type} {f : α → β} {xs : List α} (h : xs = []) : (!(xs.map f).isEmpty) = false := by rw [h]; rfl
theorem by_not {p q : Prop} [Decidable p] (h : ¬ (p ∧ ¬ q)) (hp : decide p = true) : q := Classical.byContradiction fun z => h ⟨of_decide_eq_true hp, z⟩
/-- a reader's whole state -/
structure RdAt (CC CR : Addr) (H : Hp) (r c l n e : Addr) (ws : List Str) (i : Nat) (nm ex : List Str) (left uses : Int) : Prop where
  cur : CurAt CC H c l ws i
  rd : ReadAt CR H r c n left uses e
  hn : H n = some (.lst (nm.map V.str))
  he : H e = some (.tup (ex.map V.str))
section
variable {CC CR : Addr} {H H' : Hp} {r c l n e : Addr} {ws : List Str} {i j : Nat} {nm ex : List Str} {left uses left' uses' : Int}
theorem CurAt.same {H H' : Hp} {c l : Addr} {ws : List Str} {i : Nat} (h : CurAt CC H c l ws i) (s : Same H H') : CurAt CC H' c l ws i := by
  obtain ⟨dx, ho⟩ := h.obj
  exact ⟨⟨dx, s _ _ ho⟩, s _ _ h.lst, h.sz, h.nl⟩
theorem same_new {H : Hp} {p : Addr} (h : H p = none) (o : HO) : Same H (upd H p o) := fun b u q => by rw [upd_ne (ne_of_none q h)]; exact q
theorem CurAt.keep {H H' : Hp} {c l : Addr} {ws : List Str} {i j : Nat} (h : CurAt CC H c l ws i) {dx : Addr} (h1 : H' c = some (.ins CC dx (cf l j))) (h2 : H' l = H l) : CurAt CC H' c l ws j := ⟨⟨dx, h1⟩, by rw [h2]; exact h.lst, h.sz, h.nl⟩
theorem CurAt.lc {H : Hp} {c l : Addr} {ws : List Str} {i : Nat} (h : CurAt CC H c l ws i) : l ≠ c := by
  obtain ⟨dx, ho⟩ := h.obj
  exact ne_of h.lst ho (by intro q; cases q)
theorem RdAt.nc (h : RdAt CC CR H r c l n e ws i nm ex left uses) : n ≠ c := by
  obtain ⟨dx, ho⟩ := h.cur.obj
  exact ne_of h.hn ho (by intro q; cases q)
theorem RdAt.nr (h : RdAt CC CR H r c l n e ws i nm ex left uses) : n ≠ r := by
  obtain ⟨dx, ho⟩ := h.rd
  exact ne_of h.hn ho (by intro q; cases q)
theorem RdAt.ec (h : RdAt CC CR H r c l n e ws i nm ex left uses) : e ≠ c := by
  obtain ⟨dx, ho⟩ := h.cur.obj
  exact ne_of h.he ho (by intro q; cases q)
theorem RdAt.er (h : RdAt CC CR H r c l n e ws i nm ex left uses) : e ≠ r := by
  obtain ⟨dx, ho⟩ := h.rd
  exact ne_of h.he ho (by intro q; cases q)
theorem RdAt.rc (h : RdAt CC CR H r c l n e ws i nm ex left uses) : r ≠ c := by
  obtain ⟨dx, ho⟩ := h.cur.obj
  obtain ⟨dy, hy⟩ := h.rd
  refine ne_of hy ho fun q => ?_
  have z := (HO.ins.inj q).2.2
  unfold rf cf at z
  exact absurd (congrArg List.length z) (by simp)
theorem RdAt.lr (h : RdAt CC CR H r c l n e ws i nm ex left uses) : l ≠ r := by
  obtain ⟨dx, ho⟩ := h.rd
  exact ne_of h.cur.lst ho (by intro q; cases q)
theorem RdAt.to (h : RdAt CC CR H r c l n e ws i nm ex left uses) (k : Keep [c, r] H H') (hc : CurAt CC H' c l ws j) (hr : ReadAt CR H' r c n left' uses' e) : RdAt CC CR H' r c l n e ws j nm ex left' uses' :=
  ⟨hc, hr, k _ _ h.hn (by have := h.nc; have := h.nr; simp [*]), k _ _ h.he (by have := h.ec; have := h.er; simp [*])⟩
theorem RdAt.toc (h : RdAt CC CR H r c l n e ws i nm ex left uses) (k : Keep [c] H H') (hc : CurAt CC H' c l ws j) : RdAt CC CR H' r c l n e ws j nm ex left uses := by
  obtain ⟨dy, hy⟩ := h.rd
  exact h.to (k.mono (by simp)) hc ⟨dy, k _ _ hy (by have := h.rc; simpa using this)⟩
theorem RdAt.bump (h : RdAt CC CR H r c l n e ws i nm ex left uses) {dx : Addr} (ho : H c = some (.ins CC dx (cf l i))) : RdAt CC CR (L2.upd H c (.ins CC dx (putF "at" (.int ((i : Int) + 1)) (cf l i)))) r c l n e ws (i + 1) nm ex left uses := by
  refine h.toc (Keep.upd (by simp)) (h.cur.keep (dx := dx) ?_ (upd_ne h.cur.lc))
  rw [upd_same, cf_put]; rfl
theorem RdAt.other (h : RdAt CC CR H r c l n e ws i nm ex left uses) {p : Addr} {o : HO} (h1 : c ≠ p) (h2 : r ≠ p) (h3 : l ≠ p) (h4 : n ≠ p) (h5 : e ≠ p) : RdAt CC CR (L2.upd H p o) r c l n e ws i nm ex left uses := by
  obtain ⟨dx, ho⟩ := h.cur.obj
  obtain ⟨dy, hy⟩ := h.rd
  exact ⟨⟨⟨dx, by rw [upd_ne h1]; exact ho⟩, by rw [upd_ne h3]; exact h.cur.lst, h.cur.sz, h.cur.nl⟩, ⟨dy, by rw [upd_ne h2]; exact hy⟩, by rw [upd_ne h4]; exact h.hn, by rw [upd_ne h5]; exact h.he⟩
theorem RdAt.apart (h : RdAt CC CR H r c l n e ws i nm ex left uses) {p : Addr} (hp : H p = none) : c ≠ p ∧ r ≠ p ∧ l ≠ p ∧ n ≠ p ∧ e ≠ p := by
  obtain ⟨dx, ho⟩ := h.cur.obj
  obtain ⟨dy, hy⟩ := h.rd
  exact ⟨ne_of_none ho hp, ne_of_none hy hp, ne_of_none h.cur.lst hp, ne_of_none h.hn hp, ne_of_none h.he hp⟩
theorem CurAt.kp {L : List Addr} (h : CurAt CC H c l ws i) (k : Keep L H H') (h1 : c ∉ L) (h2 : l ∉ L) : CurAt CC H' c l ws i := by
  obtain ⟨dx, ho⟩ := h.obj
  exact ⟨⟨dx, k _ _ ho h1⟩, k _ _ h.lst h2, h.sz, h.nl⟩
theorem RdAt.kp {L : List Addr} (h : RdAt CC CR H r c l n e ws i nm ex left uses) (k : Keep L H H') (h1 : c ∉ L) (h2 : l ∉ L) (h3 : r ∉ L) (h4 : n ∉ L) (h5 : e ∉ L) : RdAt CC CR H' r c l n e ws i nm ex left uses := by
  obtain ⟨dy, hy⟩ := h.rd
  exact ⟨h.cur.kp k h1 h2, ⟨dy, k _ _ hy h3⟩, k _ _ h.hn h4, k _ _ h.he h5⟩
theorem RdAt.ne (h : RdAt CC CR H r c l n e ws i nm ex left uses) : n ≠ e := ne_of h.hn h.he (by intro q; cases q)
theorem RdAt.setn (h : RdAt CC CR H r c l n e ws i nm ex left uses) (hnl : n ≠ l) (x : Str) : RdAt CC CR (L2.upd H n (.lst (nm.map V.str ++ [.str x]))) r c l n e ws i (nm ++ [x]) ex left uses := by
  obtain ⟨dx, ho⟩ := h.cur.obj
  obtain ⟨dy, hy⟩ := h.rd
  exact ⟨⟨⟨dx, by rw [upd_ne h.nc.symm]; exact ho⟩, by rw [upd_ne hnl.symm]; exact h.cur.lst, h.cur.sz, h.cur.nl⟩, ⟨dy, by rw [upd_ne h.nr.symm]; exact hy⟩, by rw [upd_same, List.map_append]; rfl, by rw [upd_ne h.ne.symm]; exact h.he⟩
theorem RdAt.sete (h : RdAt CC CR H r c l n e ws i nm ex left uses) {dr q : Addr} {ex2 : List Str} (hq : H q = some (.tup (ex2.map V.str))) : RdAt CC CR (L2.upd H r (.ins CR dr (putF "extra" (.ref q) (rf c n left uses e)))) r c l n q ws i nm ex2 left uses := by
  obtain ⟨dx, ho⟩ := h.cur.obj
  obtain ⟨dy, hy⟩ := h.rd
  have qr : q ≠ r := ne_of hq hy (by intro z; cases z)
  refine ⟨⟨⟨dx, by rw [upd_ne h.rc.symm]; exact ho⟩, by rw [upd_ne h.lr]; exact h.cur.lst, h.cur.sz, h.cur.nl⟩, ⟨dr, by rw [upd_same, rf_extra]⟩, by rw [upd_ne h.nr]; exact h.hn, by rw [upd_ne qr]; exact hq⟩
theorem RdAt.setl (h : RdAt CC CR H r c l n e ws i nm ex left uses) {dr : Addr} (k : Int) : RdAt CC CR (L2.upd H r (.ins CR dr (putF "left" (.int k) (rf c n left uses e)))) r c l n e ws i nm ex k uses := by
  obtain ⟨dx, ho⟩ := h.cur.obj
  refine h.to (Keep.upd (by simp)) (h.cur.keep (dx := dx) ?_ (upd_ne h.lr)) ⟨dr, ?_⟩
  · rw [upd_ne h.rc.symm]; exact ho
  · rw [upd_same, rf_left]
theorem RdAt.setu (h : RdAt CC CR H r c l n e ws i nm ex left uses) {dr : Addr} (k : Int) : RdAt CC CR (L2.upd H r (.ins CR dr (putF "uses" (.int k) (rf c n left uses e)))) r c l n e ws i nm ex left k := by
  obtain ⟨dx, ho⟩ := h.cur.obj
  refine h.to (Keep.upd (by simp)) (h.cur.keep (dx := dx) ?_ (upd_ne h.lr)) ⟨dr, ?_⟩
  · rw [upd_ne h.rc.symm]; exact ho
  · rw [upd_same, rf_uses]
theorem RdAt.same (h : RdAt CC CR H r c l n e ws i nm ex left uses) (s : Same H H') : RdAt CC CR H' r c l n e ws i nm ex left uses := h.toc (Keep.of_same s) (h.cur.same s)
theorem RdAt.tk (h : RdAt CC CR H r c l n e ws i nm ex left uses) (k : Keep [c, r] H H') : Tk H H' := k.tk fun b hb xs z => by
  obtain ⟨dx, ho⟩ := h.cur.obj
  obtain ⟨dy, hy⟩ := h.rd
  have hb' : b = c ∨ b = r := by simpa using hb
  rcases hb' with rfl | rfl
  · rw [ho] at z; cases z
  · rw [hy] at z; cases z
end
/-- what is wished of BadText(i) -/
def ErrK (CB : Addr) (E : XK) (i : Nat) : Prop := ∀ (H' : Hp) (d : Addr), H' d = some (.xd [(("at" : Str), .int i)]) → E (.ref CB) (some d) H'
end Nt

set_option Elab.async false
set_option linter.all false
set_option maxRecDepth 100000
namespace Nt
open PySem L2
theorem sg_lt (a b : Nat) : (([a] : List Nat) < [b]) ↔ a < b := by simp [List.cons_lt_cons_iff]
theorem cps_a : (("a" : Str)).cps.toList = [97] := by decide +kernel
theorem cps_z : (("z" : Str)).cps.toList = [122] := by decide +kernel
theorem cps_0 : (("0" : Str)).cps.toList = [48] := by decide +kernel
theorem cps_9 : (("9" : Str)).cps.toList = [57] := by decide +kernel
theorem cps_dig : (("0123456789" : Str)).cps.toList = [48, 49, 50, 51, 52, 53, 54, 55, 56, 57] := by decide +kernel
theorem le_sign (c : Nat) (s : Str) (k : Nat) (h : s.cps.toList = [k]) : (!decide ((⟨#[c]⟩ : Str).cps.toList < s.cps.toList)) = decide (k ≤ c) := by
  rw [h]
  show (!decide (([c] : List Nat) < [k])) = _
  by_cases q : c < k
  · rw [decide_eq_true ((sg_lt _ _).mpr q), decide_eq_false (by omega)]; rfl
  · rw [decide_eq_false (fun z => q ((sg_lt _ _).mp z)), decide_eq_true (by omega)]; rfl
theorem ge_sign (c : Nat) (s : Str) (k : Nat) (h : s.cps.toList = [k]) : (!decide (s.cps.toList < (⟨#[c]⟩ : Str).cps.toList)) = decide (c ≤ k) := by
  rw [h]
  show (!decide (([k] : List Nat) < [c])) = _
  by_cases q : k < c
  · rw [decide_eq_true ((sg_lt _ _).mpr q), decide_eq_false (by omega)]; rfl
  · rw [decide_eq_false (fun z => q ((sg_lt _ _).mp z)), decide_eq_true (by omega)]; rfl
theorem dig_in (c : Nat) : decide (c ∈ (("0123456789" : Str)).cps.toList) = (decide (48 ≤ c) && decide (c ≤ 57)) := by
  rw [cps_dig]
  by_cases h : 48 ≤ c ∧ c ≤ 57
  · obtain ⟨h1, h2⟩ := h
    rw [decide_eq_true h1, decide_eq_true h2]
    refine decide_eq_true ?_
    have : c = 48 ∨ c = 49 ∨ c = 50 ∨ c = 51 ∨ c = 52 ∨ c = 53 ∨ c = 54 ∨ c = 55 ∨ c = 56 ∨ c = 57 := by omega
    simpa using this
  · have q : (decide (48 ≤ c) && decide (c ≤ 57)) = false := by
      by_cases h1 : 48 ≤ c
      · rw [decide_eq_false (fun z => h ⟨h1, z⟩), Bool.and_false]
      · rw [decide_eq_false h1, Bool.false_and]
    rw [q]
    refine decide_eq_false fun z => h ?_
    simp only [List.mem_cons, List.not_mem_nil, or_false] at z
    omega
theorem take_map {α β : Type} {f : α → β} {l : List α} {i : Nat} {c : α} (h : l[i]? = some c) : (l.take (i + 1)).map f = (l.take i).map f ++ [f c] := by
  obtain ⟨hi, e⟩ := List.getElem?_eq_some_iff.mp h
  rw [List.take_succ, h, List.map_append]; rfl
theorem cps_get {w : Str} {i c : Nat} (h : w.cps[i]? = some c) : w.cps.toList[i]? = some c := by rw [Array.getElem?_toList]; exact h
theorem all_take (w : Str) (f : Nat → Bool) : ((w.cps.toList.take w.cps.size).map f).all id = w.cps.toList.all f := by
  rw [List.take_of_length_le (by simp)]
  rw [List.all_map]; rfl

/-- the end of [test for char in word] -/
def spIsName : Sp := fun vs H Q _ => ∃ w : Str, vs = [.str w] ∧ w.length ≤ sizeLine ∧ ∀ H', Same H H' → Q (.bl (isName w)) H'
/-- digits_of(word, 5) -/
def spDigits : Sp := fun vs H Q _ => ∃ w : Str, vs = [.str w, .int 5] ∧ w.length ≤ sizeLine ∧ ∀ H', Same H H' → Q (if numOk w = true then .int (numV w) else .non) H'
def spNumberOf : Sp := fun vs H Q _ => ∃ w : Str, vs = [.str w] ∧ w.length ≤ sizeLine ∧ ∀ H', Same H H' → Q (if isNum w 0 65535 = true then .int (numV w) else .non) H'
section
variable {P : Program} {w : World} {K : PySem.W.Frag} {mg : Str → Option Value} {base : Heap} {CB fB CC CR CX aK aS : Addr}
theorem sc_is_name : FnScope ["word", "char"] ["word"] (defScope s_is_name) := ⟨rfl, rfl, rfl, by decide +kernel, rfl, by decide +kernel, by decide +kernel⟩
theorem ok_is_name {f : Addr} {fd : FuncData} (F : Fun K "is_name" "is_name" s_is_name f fd) (T : Txt P K mg CB fB CC CR CX aK aS) : FnOk P w K mg base CX0 1 f fd ["word"] spIsName := by
  refine F.ok sc_is_name (fun vs H Q E h => ?_) (fun cdv A outer s H vs Q E hr h => ?_)
  · obtain ⟨w, rfl, _⟩ := h
    rfl
  obtain ⟨w, rfl, hz, k⟩ := h
  refine ⟨_, (pss_one (ps_ret (pe_and (pe_chain op_lt op_le pe_int (pe_callB call_len_str (by rfl) T.len PySem.boot_len (pa_cons (pv 0) pa_nil)) pe_int) (pe_and (pe_cmpR op_notIn_seq (pv 0) (pe_gl (by rfl) T.gKEYS) rfl) (pe_one (pe_callB (cr_all rfl) (by rfl) T.all (by decide +kernel) (pa_cons (pe_lc (own := [("char", 1)]) (g := gName 1) rfl sc_is_name.nd (pi_str (pv 0)) (blkOk_by (own := [("char", 1)]) (N := ["word", "char"]) (sc := defScope s_is_name) (by decide +kernel)) (fun _ _ _ _ _ => pg_name (i := 1) sc_is_name.nd rfl (Or.inl rfl)) (fun _ _ _ _ _ => pts_nil) (fun _ _ _ _ _ => (pe_chain op_le_str op_le_str pe_str (pv 1) pe_str))) pa_nil))))))), ?_⟩
  have fin : ∀ b H', Same H H' → isName w = b → Q (.bl b) H' := fun b H' s e => by rw [← e]; exact k H' s
  refine ⟨_, rfl, w, rfl, hz, _, _, rfl, rfl, _, rfl, ?_⟩
  refine ite2 (fun c1 => ?_) (fun c1 => ?_)
  · refine ⟨_, _, rfl, rfl, _, rfl, ?_⟩
    refine ite2 (fun c2 => ?_) (fun c2 => ?_)
    · refine ⟨_, rfl, aK, _, rfl, .inr (T.kKEYS H), rfl, flat_strs _, _, rfl, ?_⟩
      rw [inV_strs]
      have h1 : 0 < w.length := by have := of_decide_eq_true c1; omega
      have h2 : w.length ≤ 8 := by have := of_decide_eq_true c2; omega
      by_cases c3 : w ∈ keys
      · rw [decide_eq_true c3]
        refine iteF ?_
        exact fin _ H (Same.refl H) (by simp [isName, c3])
      · rw [decide_eq_false c3]
        refine iteT ?_
        refine ⟨_, rfl, w, rfl, fun D hD => lc_it walk_str (fun i H' => Same H H' ∧ H' D = some (.lst (((w.cps.toList.take i).map fun c => decide (97 ≤ c) && decide (c ≤ 122)).map V.bl))) ⟨fun b o e => by rw [upd_ne (ne_of_none e hD)]; exact e, upd_same⟩ (fun _ _ _ _ => trivial) ?_ ?_⟩
        · rintro i x H1 H2 hi ⟨s1, hL⟩ ⟨rfl, c, hc, rfl⟩
          refine ⟨rfl, ?_⟩
          refine ⟨_, rfl, _, _, rfl, rfl, _, rfl, ?_⟩
          have fin2 : ∀ b, (decide (97 ≤ c) && decide (c ≤ 122)) = b → ∃ acc, H2 D = some (.lst acc) ∧ acc.length < sizeLine ∧ (Same H (upd H2 D (.lst (acc ++ [V.bl b]))) ∧ upd H2 D (.lst (acc ++ [V.bl b])) D = some (.lst (((w.cps.toList.take (i + 1)).map fun c => decide (97 ≤ c) && decide (c ≤ 122)).map V.bl))) := fun b e => by
            refine ⟨_, hL, ?_, fun y o e2 => ?_, ?_⟩
            · rw [List.length_map, List.length_map, List.length_take]
              have : i < w.length := hi
              omega
            · rw [upd_ne (ne_of_none e2 hD)]; exact s1 y o e2
            · rw [upd_same, take_map (cps_get hc), List.map_append, ← e]; rfl
          rw [le_sign c _ _ cps_a]
          refine ite2 (fun q => ?_) (fun q => ?_)
          · refine ⟨_, _, rfl, rfl, ?_⟩
            exact fin2 _ (by rw [q, Bool.true_and, ge_sign c _ _ cps_z])
          · exact fin2 _ (by rw [Bool.eq_false_iff.mpr q, Bool.false_and])
        · rintro H1 ⟨s1, hL⟩
          refine ⟨D, _, rfl, SqL.of hL, ?_⟩
          refine fin _ H1 s1 ?_
          rw [all_take]
          simp [isName, h1, h2, c3, lowB]
    · refine fin _ H (Same.refl H) ?_
      have h2 : ¬ w.length ≤ 8 := by have := of_decide_eq_false (Bool.eq_false_iff.mpr c2); omega
      simp [isName, h2]
  · refine ⟨_, rfl, iteF ?_⟩
    refine fin _ H (Same.refl H) ?_
    have h1 : ¬ 0 < w.length := by have := of_decide_eq_false (Bool.eq_false_iff.mpr c1); omega
    simp [isName, h1]
theorem sc_digits_of : FnScope ["word", "most", "char"] ["word", "most"] (defScope s_digits_of) := ⟨rfl, rfl, rfl, by decide +kernel, rfl, by decide +kernel, by decide +kernel⟩
theorem ok_digits_of {f : Addr} {fd : FuncData} (F : Fun K "digits_of" "digits_of" s_digits_of f fd) (T : Txt P K mg CB fB CC CR CX aK aS) : FnOk P w K mg base CX0 1 f fd ["word", "most"] spDigits := by
  refine F.ok sc_digits_of (fun vs H Q E h => ?_) (fun cdv A outer s H vs Q E hr h => ?_)
  · obtain ⟨w, rfl, _⟩ := h
    rfl
  obtain ⟨w, rfl, hz, k⟩ := h
  refine ⟨_, (pss_cons (ps_if (PW.pt (pw_or (pt_not (pt_chain op_lt op_le pe_int (pe_callB call_len_str (by rfl) T.len PySem.boot_len (pa_cons (pv 0) pa_nil)) (pv 1))) (pw_or1 (pt_not (pt_val (pe_callB (cr_all rfl) (by rfl) T.all (by decide +kernel) (pa_cons (pe_lc (own := [("char", 2)]) (g := gName 2) rfl sc_digits_of.nd (pi_str (pv 0)) (blkOk_by (own := [("char", 2)]) (N := ["word", "most", "char"]) (sc := defScope s_digits_of) (by decide +kernel)) (fun _ _ _ _ _ => pg_name (i := 2) sc_digits_of.nd rfl (Or.inl rfl)) (fun _ _ _ _ _ => pts_nil) (fun _ _ _ _ _ => (pe_cmpR op_in_sign (pv 2) pe_str rfl))) pa_nil)))))))
 (pss_one (ps_ret pe_non))
 pss_nil)
 (pss_cons (ps_if (PW.pt (pw_and (pt_cmpR op_eq (pe_ix ix_str (pv 0) pe_int (fun _ _ => rfl)) pe_str (nomark _)) (pw_and1 (pt_cmpR op_ne (pv 0) pe_str (nomark _)))))
 (pss_one (ps_ret pe_non))
 pss_nil)
 (pss_one (ps_ret (pe_callTy call_int_str (by rfl) T.int_ (by decide +kernel) (pa_cons (pv 0) pa_nil)))))), ?_⟩
  have no : ∀ H', Same H H' → numOk w = false → Q .non H' := fun H' s e => by have := k H' s; rwa [e, if_neg (by decide)] at this
  refine ⟨_, rfl, w, rfl, hz, _, _, rfl, rfl, _, rfl, ?_⟩
  refine ite2 (fun c1 => ?_) (fun c1 => ?_)
  · refine ⟨_, rfl, _, _, rfl, rfl, _, rfl, ?_⟩
    have h1 : 0 < w.length := by have := of_decide_eq_true c1; omega
    by_cases c2 : w.length ≤ 5
    · rw [decide_eq_true (show (w.length : Int) ≤ 5 by omega)]
      refine iteF ?_
      refine ⟨_, rfl, w, rfl, fun D hD => lc_it walk_str (fun i H' => Same H H' ∧ H' D = some (.lst (((w.cps.toList.take i).map fun c => decide (48 ≤ c) && decide (c ≤ 57)).map V.bl))) ⟨fun b o e => by rw [upd_ne (ne_of_none e hD)]; exact e, upd_same⟩ (fun _ _ _ _ => trivial) ?_ ?_⟩
      · rintro i x H1 H2 hi ⟨s1, hL⟩ ⟨rfl, c, hc, rfl⟩
        refine ⟨rfl, ?_⟩
        refine ⟨_, rfl, c, _, rfl, rfl, ?_⟩
        refine ⟨_, hL, ?_, fun y o e2 => ?_, ?_⟩
        · rw [List.length_map, List.length_map, List.length_take]
          have : i < w.length := hi
          omega
        · rw [upd_ne (ne_of_none e2 hD)]; exact s1 y o e2
        · rw [upd_same, take_map (cps_get hc), List.map_append, dig_in]; rfl
      · rintro H1 ⟨s1, hL⟩
        refine ⟨D, _, rfl, SqL.of hL, _, rfl, ?_⟩
        rw [all_take]
        show if (!digB w) = true then _ else _
        cases hd : digB w with
        | false =>
          refine iteT ?_
          exact no H1 s1 (by simp [numOk, hd])
        | true =>
          refine iteF ?_
          obtain ⟨c0, hc0⟩ : ∃ c0, w.cps.toList[0]? = some c0 := ⟨_, List.getElem?_eq_getElem (by rw [← len_list]; exact h1)⟩
          have hh : w.cps.toList.head? = some c0 := by rw [List.head?_eq_getElem?]; exact hc0
          refine ⟨_, rfl, w, 0, c0, rfl, rfl, hz, atI_nat (j := 0) hc0, rfl, _, rfl, ?_⟩
          have go : lead0 w = false → Q (.int (numV w)) H1 := fun e => by
            have := k H1 s1
            rwa [show numOk w = true by simp [numOk, h1, c2, hd, e], if_pos rfl] at this
          by_cases e0 : c0 = 48
          · subst e0
            rw [decide_eq_true (show V.str (⟨#[48]⟩ : Str) = V.str "0" from congrArg V.str (ext_list (by rw [cps_0])))]
            refine iteT ?_
            refine ⟨_, rfl, rfl, _, rfl, ?_⟩
            by_cases e1 : w = ("0" : Str)
            · rw [decide_eq_true (congrArg V.str e1)]
              refine iteF ?_
              refine ⟨_, rfl, w, _, rfl, int_of h1 c2 hd, by omega, ?_⟩
              exact go (by unfold lead0; rw [decide_eq_true e1, Bool.not_true, Bool.and_false])
            · rw [decide_eq_false (fun z => e1 (V.str.inj z))]
              refine iteT ?_
              refine no H1 s1 ?_
              simp [numOk, lead0, hh, e1]
          · rw [decide_eq_false (fun z => e0 (by
              have q := congrArg (fun s : Str => s.cps.toList) (V.str.inj z)
              rw [show (("0" : Str)).cps.toList = [48] from cps_0] at q
              exact (List.cons.inj q).1))]
            refine iteF ?_
            refine iteF ?_
            refine ⟨_, rfl, w, _, rfl, int_of h1 c2 hd, by omega, ?_⟩
            exact go (by unfold lead0; rw [hh, decide_eq_false (fun z => e0 (Option.some.inj z)), Bool.false_and])
    · rw [decide_eq_false (show ¬ (w.length : Int) ≤ 5 by omega)]
      refine iteT ?_
      refine iteT ?_
      exact no H (Same.refl H) (by simp [numOk, c2])
  · refine ⟨_, rfl, ?_⟩
    refine iteT ?_
    refine iteT ?_
    have h1 : ¬ 0 < w.length := by have := of_decide_eq_false (Bool.eq_false_iff.mpr c1); omega
    exact no H (Same.refl H) (by simp [numOk, h1])
theorem sc_number_of : FnScope ["word", "number"] ["word"] (defScope s_number_of) := ⟨rfl, rfl, rfl, by decide +kernel, rfl, by decide +kernel, by decide +kernel⟩
theorem ok_number_of {f : Addr} {fd : FuncData} (F : Fun K "number_of" "number_of" s_number_of f fd) (T : Txt P K mg CB fB CC CR CX aK aS) (Gdigits_of : CalX P w K mg base CX0 1 "digits_of" spDigits) : FnOk P w K mg base CX0 2 f fd ["word"] spNumberOf := by
  refine F.ok sc_number_of (fun vs H Q E h => ?_) (fun cdv A outer s H vs Q E hr h => ?_)
  · obtain ⟨w, rfl, _⟩ := h
    rfl
  obtain ⟨w, rfl, hz, k⟩ := h
  refine ⟨_, (pss_cons (ps_set (i := 1) sc_number_of.nd rfl (Or.inl rfl) (pe_cx Gdigits_of hr pass0 (pa_cons (pv 0) (pa_cons pe_int pa_nil))))
 (pss_one (ps_ret (pe_ifExp (PW.pt (pw_or (pt_cmpR op_isN (pv 1) pe_non (nomark _)) (pw_or1 (pt_cmpR op_gt (pv 1) (pe_gl (by rfl) T.gGREATEST) (nomark _))))) pe_non (pv 1))))), ?_⟩
  refine ⟨_, rfl, w, rfl, hz, fun H1 s1 => ?_⟩
  cases c : numOk w with
  | false =>
    refine ⟨_, rfl, rfl, _, rfl, ?_⟩
    have := k H1 s1
    rwa [show isNum w 0 65535 = false by simp [isNum, c], if_neg (by decide)] at this
  | true =>
    refine ⟨_, rfl, rfl, _, rfl, ?_⟩
    refine ⟨_, rfl, _, _, rfl, rfl, _, rfl, ?_⟩
    by_cases q : numV w ≤ 65535
    · rw [decide_eq_false (show ¬ (65535 : Int) < numV w by omega)]
      refine iteF ⟨_, rfl, ?_⟩
      have := k H1 s1
      rwa [show isNum w 0 65535 = true by simp [isNum, c, q, numV_nonneg], if_pos rfl] at this
    · rw [decide_eq_true (show (65535 : Int) < numV w by omega)]
      refine iteT ?_
      have := k H1 s1
      rwa [show isNum w 0 65535 = false by simp [isNum, c, q], if_neg (by decide)] at this
end
end Nt

set_option Elab.async false
set_option linter.all false
set_option maxRecDepth 100000
namespace Nt
open PySem L2
def spCurInit (CC : Addr) : Sp := fun vs H Q _ => ∃ (p dx : Addr) (t : Str), vs = [.ref p, .str t] ∧ H p = some (.ins CC dx []) ∧ t.length + 2 ≤ sizeLine ∧ ∀ (l : Addr) (H' : Hp), Keep [p] H H' → H l = none → CurAt CC H' p l (wordsOf t) 0 → Q .non H'
def spNext (CC : Addr) : Sp := fun vs H Q _ => ∃ (c l : Addr) (ws : List Str) (i : Nat), vs = [.ref c] ∧ CurAt CC H c l ws i ∧ Q (wv ws[i]?) H
def spWord (K : PySem.W.Frag) (CB CC : Addr) : Sp := fun vs H Q E => ∃ (c l q : Addr) (ws xs : List Str) (i : Nat), vs = [.ref c, .ref q] ∧ CurAt CC H c l ws i ∧ (SqL K H q (xs.map V.str) ∨ SqT K H q (xs.map V.str)) ∧
  (∀ w H', ws[i]? = some w → w ∈ xs → Keep [c] H H' → CurAt CC H' c l ws (i + 1) → Q (.str w) H') ∧ ((∀ w, ws[i]? = some w → w ∉ xs) → ErrK CB E i)
def spNumber (CB CC : Addr) : Sp := fun vs H Q E => ∃ (c l : Addr) (ws : List Str) (i : Nat) (lo hi : Int), vs = [.ref c, .int lo, .int hi] ∧ 0 ≤ lo ∧ hi ≤ 65535 ∧ CurAt CC H c l ws i ∧
  (∀ w H', ws[i]? = some w → isNum w lo hi = true → Keep [c] H H' → CurAt CC H' c l ws (i + 1) → Q (.int (numV w)) H') ∧ ((∀ w, ws[i]? = some w → isNum w lo hi = false) → ErrK CB E i)
def spNewName (K : PySem.W.Frag) (CB CC : Addr) : Sp := fun vs H Q E => ∃ (c l q : Addr) (ws xs : List Str) (i : Nat), vs = [.ref c, .ref q] ∧ CurAt CC H c l ws i ∧ H q = some (.lst (xs.map V.str)) ∧
  (∀ w H', ws[i]? = some w → isName w = true → w ∉ xs → Keep [c] H H' → CurAt CC H' c l ws (i + 1) → Q (.str w) H') ∧ ((∀ w, ws[i]? = some w → w ∈ xs ∨ isName w = false) → ErrK CB E i)
def spFinish (CB CC : Addr) : Sp := fun vs H Q E => ∃ (c l : Addr) (ws : List Str) (i : Nat), vs = [.ref c] ∧ CurAt CC H c l ws i ∧ (ws[i]? = none → Q .non H) ∧ (∀ w, ws[i]? = some w → ErrK CB E i)
def spExpr (CB CC : Addr) (d : Nat) : Sp := fun vs H Q E => ∃ (c l n e : Addr) (ws nm ex : List Str) (i : Nat), vs = [.ref c, .ref n, .ref e, .int d] ∧ 1 ≤ d ∧ CurAt CC H c l ws i ∧ i ≤ ws.length ∧ H n = some (.lst (nm.map V.str)) ∧ H e = some (.tup (ex.map V.str)) ∧
  (∀ (j : Nat) (a : Addr) (H' : Hp), i < j → j ≤ ws.length → Keep [c] H H' → CurAt CC H' c l ws j → ExW H' d a (seg ws i j) → (∀ st sc, M ws i (.val (nm ++ ex) d :: st) sc = M ws j st sc) → Q (.ref a) H') ∧
  (∀ k : Nat, (∀ st sc, M ws i (.val (nm ++ ex) d :: st) sc = some k) → ErrK CB E k)
section
variable {P : Program} {w : World} {K : PySem.W.Frag} {mg : Str → Option Value} {base : Heap} {CB fB CC CR CX aK aS : Addr}
theorem sc_Cursor_init : FnScope ["self", "text"] ["self", "text"] (defScope s_Cursor_init) := ⟨rfl, rfl, rfl, by decide +kernel, rfl, by decide +kernel, by decide +kernel⟩
theorem ok_Cursor_init {f : Addr} {fd : FuncData} (F : Fun K "__init__" "Cursor.__init__" s_Cursor_init f fd) (T : Txt P K mg CB fB CC CR CX aK aS) : FnOk P w K mg base CX0 1 f fd ["self", "text"] (spCurInit CC) := by
  refine F.ok sc_Cursor_init (fun vs H Q E h => ?_) (fun cdv A outer s H vs Q E hr h => ?_)
  · obtain ⟨p, dx, t, rfl, _⟩ := h
    rfl
  obtain ⟨p, dx, t, rfl, hp, hz, k⟩ := h
  refine ⟨_, (pss_cons (ps_fld (pv 0) (pe_ifExp (pt_truth (pv 1) (by intro _; rfl)) (pe_split (pv 1) pe_str) (pe_lst pa_nil)) rfl)
 (pss_one (ps_fld (pv 0) pe_int rfl))), ?_⟩
  have hb : ∀ w, w ∈ wordsOf t → w.length ≤ sizeLine := fun w hw => by have := words_le t w hw; omega
  have hn2 : (wordsOf t).length < sizeLine := by
    have := wordsOf_len t
    unfold wordsOf
    split
    · show 0 < sizeLine; decide
    · omega
  have fin : ∀ l, H l = none → Q .non (upd (upd (upd H l (.lst ((wordsOf t).map V.str))) p (.ins CC dx (putF "words" (.ref l) []))) p (.ins CC dx (putF "at" (.int 0) (putF "words" (.ref l) [])))) := fun l hl => by
    have e : putF "at" (V.int 0) (putF "words" (.ref l) []) = cf l 0 := by
      simp only [putF]; rw [if_neg f_wa]; rfl
    have nlp : l ≠ p := fun z => by rw [z, hp] at hl; cases hl
    refine k l _ (fun b o hb hn => ?_) hl ⟨⟨dx, by rw [upd_same, e]; rfl⟩, by rw [upd_ne nlp, upd_ne nlp, upd_same], hb, hn2⟩
    have hbp : b ≠ p := fun z => hn (by rw [z]; simp)
    rw [upd_ne hbp, upd_ne hbp, upd_ne (ne_of_none hb hl)]; exact hb
  refine ⟨_, rfl, _, ⟨by omega, rfl⟩, ?_⟩
  by_cases ht : t = ""
  · have e0 : ((t.length : Int) != 0) = false := by rw [ht]; decide +kernel
    rw [e0]
    refine iteF ⟨Nat.zero_le _, fun l hl => ?_⟩
    refine ⟨_, rfl, p, CC, dx, [], rfl, by rw [upd_ne (ne_of_none hp hl)]; exact hp, T.clCursor, T.cWords, by show 0 < 1000; decide, ?_⟩
    refine ⟨_, rfl, p, CC, dx, _, rfl, upd_same, T.clCursor, T.cAt, by show 1 < 1000; decide, ?_⟩
    have q := fin l hl
    rw [show wordsOf t = [] by unfold wordsOf; rw [if_pos ht]] at q
    exact q
  · have e0 : ((t.length : Int) != 0) = true := by
      have : t.length ≠ 0 := fun z => ht (ext_list (by rw [show (("" : Str)).cps.toList = [] by decide +kernel]; rw [len_list] at z; exact List.length_eq_zero_iff.mp z))
      simp; omega
    rw [e0]
    refine iteT ⟨_, rfl, ⟨t, rfl⟩, t, _, rfl, rfl, by decide +kernel, hz, fun l hl => ?_⟩
    refine ⟨_, rfl, p, CC, dx, [], rfl, by rw [upd_ne (ne_of_none hp hl)]; exact hp, T.clCursor, T.cWords, by show 0 < 1000; decide, ?_⟩
    refine ⟨_, rfl, p, CC, dx, _, rfl, upd_same, T.clCursor, T.cAt, by show 1 < 1000; decide, ?_⟩
    have q := fin l hl
    rw [show wordsOf t = Txt.split t " " by unfold wordsOf; rw [if_neg ht]] at q
    exact q
theorem sc_Cursor_next : FnScope ["self"] ["self"] (defScope s_Cursor_next) := ⟨rfl, rfl, rfl, by decide +kernel, rfl, by decide +kernel, by decide +kernel⟩
theorem ok_Cursor_next {f : Addr} {fd : FuncData} (F : Fun K "next" "Cursor.next" s_Cursor_next f fd) (T : Txt P K mg CB fB CC CR CX aK aS) : FnOk P w K mg base CX0 1 f fd ["self"] (spNext CC) := by
  refine F.ok sc_Cursor_next (fun vs H Q E h => ?_) (fun cdv A outer s H vs Q E hr h => ?_)
  · obtain ⟨c, l, ws, i, rfl, _⟩ := h
    rfl
  obtain ⟨c, l, ws, i, rfl, hc, k⟩ := h
  refine ⟨_, (pss_one (ps_ret (pe_ifExp (pt_cmpR op_lt (pe_fld (pv 0) rfl) (pe_callB call_len_seq (by rfl) T.len PySem.boot_len (pa_cons (pe_fld (pv 0) rfl) pa_nil)) (nomark _)) (pe_ix ix_list (pe_fld (pv 0) rfl) (pe_fld (pv 0) rfl) (fun _ _ => rfl)) pe_non))), ?_⟩
  obtain ⟨dx, ho⟩ := hc.obj
  refine ⟨_, rfl, c, CC, dx, _, _, rfl, ho, T.clCursor, T.cAt, cf_at _ _, _, rfl, c, CC, dx, _, _, rfl, ho, T.clCursor, T.cWords, cf_words _ _, l, _, rfl, .inl (SqL.of hc.lst), _, _, rfl, rfl, _, rfl, ?_⟩
  rw [len_strs]
  cases e : ws[i]? with
  | none =>
    have hi := List.getElem?_eq_none_iff.mp e
    rw [decide_eq_false (show ¬ (i : Int) < (ws.length : Int) by omega)]
    refine iteF ?_
    rw [e] at k; exact k
  | some x =>
    have hi := (List.getElem?_eq_some_iff.mp e).1
    rw [decide_eq_true (show (i : Int) < (ws.length : Int) by omega)]
    refine iteT ⟨_, rfl, c, CC, dx, _, _, rfl, ho, T.clCursor, T.cWords, cf_words _ _, _, rfl, c, CC, dx, _, _, rfl, ho, T.clCursor, T.cAt, cf_at _ _, l, _, _, _, rfl, rfl, SqL.of hc.lst, at_str e, ?_⟩
    rw [e] at k; exact k
theorem sc_Cursor_word : FnScope ["self", "words", "found"] ["self", "words"] (defScope s_Cursor_word) := ⟨rfl, rfl, rfl, by decide +kernel, rfl, by decide +kernel, by decide +kernel⟩
theorem ok_Cursor_word {f : Addr} {fd : FuncData} (F : Fun K "word" "Cursor.word" s_Cursor_word f fd) (T : Txt P K mg CB fB CC CR CX aK aS) (GCursor_next : MetX P w K mg base CX0 1 CC "next" (spNext CC)) : FnOk P w K mg base (L2N.CX P w) 3 f fd ["self", "words"] (spWord K CB CC) := by
  refine okN F sc_Cursor_word (fun vs H Q E h => ?_) (fun cdv A outer s H vs Q E hr h => ?_)
  · obtain ⟨c, l, q, ws, xs, i, rfl, _⟩ := h
    rfl
  obtain ⟨c, l, q, ws, xs, i, rfl, hc, hq, k1, k2⟩ := h
  refine ⟨_, (pss_cons (ps_set (i := 2) sc_Cursor_word.nd rfl (Or.inl rfl) (pe_mx0 (pv 0) T.clCursor GCursor_next hr pass0))
 (pss_cons (ps_if (PW.pt (pw_or (pt_cmpR op_isN (pv 2) pe_non (nomark _)) (pw_or1 (pt_cmpR op_notIn_seq (pv 2) (pv 1) rfl))))
 (pss_one (ps_raiseBt rfl T.bt hr (L2N.takes_of rfl rfl rfl rfl) (pa_cons (pe_fld (pv 0) rfl) pa_nil)))
 pss_nil)
 (pss_cons (ps_fldaug (pv 0) pe_int in_add)
 (pss_one (ps_ret (pv 2)))))), ?_⟩
  obtain ⟨dx, ho⟩ := hc.obj
  refine ⟨_, rfl, c, dx, _, rfl, ho, cf_no _ _ (by decide +kernel) (by decide +kernel), c, l, ws, i, rfl, hc, ?_⟩
  have bad : (∀ w, ws[i]? = some w → w ∉ xs) → ∀ d, E (.ref CB) (some d) (upd H d (.xd [(("at" : Str), .int i)])) := fun h d => k2 h _ d upd_same
  cases e : ws[i]? with
  | none =>
    refine ⟨_, rfl, rfl, _, rfl, ?_⟩
    refine iteT ?_
    refine ⟨_, rfl, c, CC, dx, _, _, rfl, ho, T.clCursor, T.cAt, cf_at _ _, _, rfl, fun d hd => bad (fun w z => by rw [e] at z; cases z) d⟩
  | some x =>
    refine ⟨_, rfl, rfl, _, rfl, ?_⟩
    refine ⟨_, rfl, _, rfl, q, _, rfl, hq, rfl, flat_strs _, _, rfl, ?_⟩
    (first | rw [inV_strs] | rw [inV_wv])
    by_cases hx : x ∈ xs
    · rw [decide_eq_true hx]
      refine ⟨_, rfl, c, CC, dx, _, _, rfl, ho, T.clCursor, T.cAt, cf_at _ _, _, _, rfl, rfl, dx, _, ho, by show 2 < 1000; decide, _, rfl, ?_⟩
      refine k1 x _ e hx (Keep.upd (by simp)) (hc.keep (dx := dx) ?_ (upd_ne hc.lc))
      rw [upd_same, cf_put]; rfl
    · rw [decide_eq_false hx]
      refine ⟨_, rfl, c, CC, dx, _, _, rfl, ho, T.clCursor, T.cAt, cf_at _ _, _, rfl, fun d hd => bad (fun w z => by rw [e] at z; cases z; exact hx) d⟩
theorem sc_Cursor_number : FnScope ["self", "least", "most", "found", "number"] ["self", "least", "most"] (defScope s_Cursor_number) := ⟨rfl, rfl, rfl, by decide +kernel, rfl, by decide +kernel, by decide +kernel⟩
theorem ok_Cursor_number {f : Addr} {fd : FuncData} (F : Fun K "number" "Cursor.number" s_Cursor_number f fd) (T : Txt P K mg CB fB CC CR CX aK aS) (GCursor_next : MetX P w K mg base CX0 1 CC "next" (spNext CC)) (Gnumber_of : CalX P w K mg base CX0 2 "number_of" spNumberOf) : FnOk P w K mg base (L2N.CX P w) 3 f fd ["self", "least", "most"] (spNumber CB CC) := by
  refine okN F sc_Cursor_number (fun vs H Q E h => ?_) (fun cdv A outer s H vs Q E hr h => ?_)
  · obtain ⟨c, l, ws, i, lo, hi, rfl, _⟩ := h
    rfl
  obtain ⟨c, l, ws, i, lo, hi, rfl, hlo, hhi, hc, k1, k2⟩ := h
  refine ⟨_, (pss_cons (ps_set (i := 3) sc_Cursor_number.nd rfl (Or.inl rfl) (pe_mx0 (pv 0) T.clCursor GCursor_next hr pass0))
 (pss_cons (ps_set (i := 4) sc_Cursor_number.nd rfl (Or.inl rfl) (pe_ifExp (pt_cmpR op_isN (pv 3) pe_non (nomark _)) pe_non (pe_cx Gnumber_of hr pass0 (pa_cons (pv 3) pa_nil))))
 (pss_cons (ps_if (PW.pt (pw_or (pt_cmpR op_isN (pv 4) pe_non (nomark _)) (pw_or1 (pt_not (pt_chain op_le op_le (pv 1) (pv 4) (pv 2))))))
 (pss_one (ps_raiseBt rfl T.bt hr (L2N.takes_of rfl rfl rfl rfl) (pa_cons (pe_fld (pv 0) rfl) pa_nil)))
 pss_nil)
 (pss_cons (ps_fldaug (pv 0) pe_int in_add)
 (pss_one (ps_ret (pv 4))))))), ?_⟩
  obtain ⟨dx, ho⟩ := hc.obj
  refine ⟨_, rfl, c, dx, _, rfl, ho, cf_no _ _ (by decide +kernel) (by decide +kernel), c, l, ws, i, rfl, hc, ?_⟩
  have bad : (∀ w, ws[i]? = some w → isNum w lo hi = false) → ∀ H', Same H H' → ∀ d, E (.ref CB) (some d) (upd H' d (.xd [(("at" : Str), .int i)])) := fun h H' _ d => k2 h _ d upd_same
  cases e : ws[i]? with
  | none =>
    refine ⟨_, rfl, rfl, _, rfl, ?_⟩
    refine iteT ?_
    refine ⟨_, rfl, rfl, _, rfl, ?_⟩
    refine iteT ?_
    refine ⟨_, rfl, c, CC, dx, _, _, rfl, ho, T.clCursor, T.cAt, cf_at _ _, _, rfl, fun d hd => bad (fun w z => by rw [e] at z; cases z) _ (Same.refl H) d⟩
  | some x =>
    refine ⟨_, rfl, rfl, _, rfl, ?_⟩
    refine ⟨_, rfl, x, rfl, hc.sz x (List.mem_of_getElem? e), fun H1 s1 => ?_⟩
    have ho1 := s1 _ _ ho
    by_cases c0 : isNum x 0 65535 = true
    · rw [if_pos c0]
      refine ⟨_, rfl, rfl, _, rfl, ?_⟩
      refine ⟨_, rfl, _, rfl, _, _, rfl, rfl, _, rfl, ?_⟩
      have hx : numOk x = true := by simp only [isNum, Bool.and_eq_true] at c0; exact c0.1.1
      by_cases h1 : lo ≤ numV x
      · rw [decide_eq_true h1]
        refine ⟨_, rfl, _, _, rfl, rfl, _, rfl, ?_⟩
        by_cases h2 : numV x ≤ hi
        · rw [decide_eq_true h2]
          refine ⟨_, rfl, c, CC, dx, _, _, rfl, ho1, T.clCursor, T.cAt, cf_at _ _, _, _, rfl, rfl, dx, _, ho1, by show 2 < 1000; decide, _, rfl, ?_⟩
          refine k1 x _ e (by simp [isNum, hx, h1, h2]) ((Keep.of_same s1).trans (Keep.upd (by simp))) (hc.keep (dx := dx) ?_ ?_)
          · rw [upd_same, cf_put]; rfl
          · rw [upd_ne hc.lc, hc.lst, s1 _ _ hc.lst]
        · rw [decide_eq_false h2]
          refine ⟨_, rfl, c, CC, dx, _, _, rfl, ho1, T.clCursor, T.cAt, cf_at _ _, _, rfl, fun d hd => bad (fun w z => by rw [e] at z; cases z; simp [isNum, h2]) _ s1 d⟩
      · rw [decide_eq_false h1]
        refine ⟨_, rfl, ?_⟩
        refine iteT ?_
        refine ⟨_, rfl, c, CC, dx, _, _, rfl, ho1, T.clCursor, T.cAt, cf_at _ _, _, rfl, fun d hd => bad (fun w z => by rw [e] at z; cases z; simp [isNum, h1]) _ s1 d⟩
    · rw [if_neg c0]
      refine ⟨_, rfl, rfl, _, rfl, ?_⟩
      refine iteT ?_
      refine ⟨_, rfl, c, CC, dx, _, _, rfl, ho1, T.clCursor, T.cAt, cf_at _ _, _, rfl, fun d hd => bad (fun w z => ?_) _ s1 d⟩
      rw [e] at z; cases z
      have c1 := Bool.eq_false_iff.mpr c0
      cases q : isNum x lo hi with
      | false => rfl
      | true =>
        exfalso
        simp only [isNum, Bool.and_eq_true, decide_eq_true_eq] at q
        exact c0 (by simp only [isNum, q.1.1, Bool.true_and, Bool.and_eq_true, decide_eq_true_eq]; omega)
theorem sc_Cursor_new_name : FnScope ["self", "names", "found"] ["self", "names"] (defScope s_Cursor_new_name) := ⟨rfl, rfl, rfl, by decide +kernel, rfl, by decide +kernel, by decide +kernel⟩
theorem ok_Cursor_new_name {f : Addr} {fd : FuncData} (F : Fun K "new_name" "Cursor.new_name" s_Cursor_new_name f fd) (T : Txt P K mg CB fB CC CR CX aK aS) (GCursor_next : MetX P w K mg base CX0 1 CC "next" (spNext CC)) (Gis_name : CalX P w K mg base CX0 1 "is_name" spIsName) : FnOk P w K mg base (L2N.CX P w) 3 f fd ["self", "names"] (spNewName K CB CC) := by
  refine okN F sc_Cursor_new_name (fun vs H Q E h => ?_) (fun cdv A outer s H vs Q E hr h => ?_)
  · obtain ⟨c, l, q, ws, xs, i, rfl, _⟩ := h
    rfl
  obtain ⟨c, l, q, ws, xs, i, rfl, hc, hq, k1, k2⟩ := h
  refine ⟨_, (pss_cons (ps_set (i := 2) sc_Cursor_new_name.nd rfl (Or.inl rfl) (pe_mx0 (pv 0) T.clCursor GCursor_next hr pass0))
 (pss_cons (ps_if (PW.pt (pw_or (pt_cmpR op_isN (pv 2) pe_non (nomark _)) (pw_or (pt_not (pt_val (pe_cx Gis_name hr pass0 (pa_cons (pv 2) pa_nil)))) (pw_or1 (pt_cmpR op_in_seq (pv 2) (pv 1) rfl)))))
 (pss_one (ps_raiseBt rfl T.bt hr (L2N.takes_of rfl rfl rfl rfl) (pa_cons (pe_fld (pv 0) rfl) pa_nil)))
 pss_nil)
 (pss_cons (ps_fldaug (pv 0) pe_int in_add)
 (pss_one (ps_ret (pv 2)))))), ?_⟩
  obtain ⟨dx, ho⟩ := hc.obj
  refine ⟨_, rfl, c, dx, _, rfl, ho, cf_no _ _ (by decide +kernel) (by decide +kernel), c, l, ws, i, rfl, hc, ?_⟩
  have bad : (∀ w, ws[i]? = some w → w ∈ xs ∨ isName w = false) → ∀ H', Same H H' → ∀ d, E (.ref CB) (some d) (upd H' d (.xd [(("at" : Str), .int i)])) := fun h H' _ d => k2 h _ d upd_same
  cases e : ws[i]? with
  | none =>
    refine ⟨_, rfl, rfl, _, rfl, ?_⟩
    refine iteT ?_
    refine ⟨_, rfl, c, CC, dx, _, _, rfl, ho, T.clCursor, T.cAt, cf_at _ _, _, rfl, fun d hd => bad (fun w z => by rw [e] at z; cases z) _ (Same.refl H) d⟩
  | some x =>
    refine ⟨_, rfl, rfl, _, rfl, ?_⟩
    refine ⟨_, rfl, x, rfl, hc.sz x (List.mem_of_getElem? e), fun H1 s1 => ⟨_, rfl, ?_⟩⟩
    have ho1 := s1 _ _ ho
    cases hn : isName x with
    | false =>
      refine iteT ?_
      refine ⟨_, rfl, c, CC, dx, _, _, rfl, ho1, T.clCursor, T.cAt, cf_at _ _, _, rfl, fun d hd => bad (fun w z => by rw [e] at z; cases z; exact .inr hn) _ s1 d⟩
    | true =>
      refine iteF ?_
      refine ⟨_, rfl, _, rfl, q, _, rfl, .inl (SqL.of (s1 _ _ hq)), rfl, flat_strs _, _, rfl, ?_⟩
      (first | rw [inV_strs] | rw [inV_wv])
      by_cases hx : x ∈ xs
      · rw [decide_eq_true hx]
        refine iteT ?_
        refine ⟨_, rfl, c, CC, dx, _, _, rfl, ho1, T.clCursor, T.cAt, cf_at _ _, _, rfl, fun d hd => bad (fun w z => by rw [e] at z; cases z; exact .inl hx) _ s1 d⟩
      · rw [decide_eq_false hx]
        refine iteF ?_
        refine ⟨_, rfl, c, CC, dx, _, _, rfl, ho1, T.clCursor, T.cAt, cf_at _ _, _, _, rfl, rfl, dx, _, ho1, by show 2 < 1000; decide, _, rfl, ?_⟩
        refine k1 x _ e hn hx ((Keep.of_same s1).trans (Keep.upd (by simp))) (hc.keep (dx := dx) ?_ ?_)
        · rw [upd_same, cf_put]; rfl
        · rw [upd_ne hc.lc, hc.lst, s1 _ _ hc.lst]
theorem sc_Cursor_finish : FnScope ["self"] ["self"] (defScope s_Cursor_finish) := ⟨rfl, rfl, rfl, by decide +kernel, rfl, by decide +kernel, by decide +kernel⟩
theorem ok_Cursor_finish {f : Addr} {fd : FuncData} (F : Fun K "finish" "Cursor.finish" s_Cursor_finish f fd) (T : Txt P K mg CB fB CC CR CX aK aS) : FnOk P w K mg base (L2N.CX P w) 3 f fd ["self"] (spFinish CB CC) := by
  refine okN F sc_Cursor_finish (fun vs H Q E h => ?_) (fun cdv A outer s H vs Q E hr h => ?_)
  · obtain ⟨c, l, ws, i, rfl, _⟩ := h
    rfl
  obtain ⟨c, l, ws, i, rfl, hc, k1, k2⟩ := h
  refine ⟨_, (pss_one (ps_if (pt_cmpR op_lt (pe_fld (pv 0) rfl) (pe_callB call_len_seq (by rfl) T.len PySem.boot_len (pa_cons (pe_fld (pv 0) rfl) pa_nil)) (nomark _))
 (pss_one (ps_raiseBt rfl T.bt hr (L2N.takes_of rfl rfl rfl rfl) (pa_cons (pe_fld (pv 0) rfl) pa_nil)))
 pss_nil)), ?_⟩
  obtain ⟨dx, ho⟩ := hc.obj
  refine ⟨_, rfl, c, CC, dx, _, _, rfl, ho, T.clCursor, T.cAt, cf_at _ _, _, rfl, c, CC, dx, _, _, rfl, ho, T.clCursor, T.cWords, cf_words _ _, l, _, rfl, .inl (SqL.of hc.lst), _, _, rfl, rfl, _, rfl, ?_⟩
  rw [len_strs]
  cases e : ws[i]? with
  | none =>
    have hi := List.getElem?_eq_none_iff.mp e
    rw [decide_eq_false (show ¬ (i : Int) < (ws.length : Int) by omega)]
    exact iteF (k1 e)
  | some x =>
    have hi := (List.getElem?_eq_some_iff.mp e).1
    rw [decide_eq_true (show (i : Int) < (ws.length : Int) by omega)]
    exact iteT ⟨_, rfl, c, CC, dx, _, _, rfl, ho, T.clCursor, T.cAt, cf_at _ _, _, rfl, fun d hd => k2 x e _ d upd_same⟩
theorem sc_Cursor_expression : FnScope ["self", "names", "extra", "room", "word", "left", "number"] ["self", "names", "extra", "room"] (defScope s_Cursor_expression) := ⟨rfl, rfl, rfl, by decide +kernel, rfl, by decide +kernel, by decide +kernel⟩
theorem expr_step {f : Addr} {fd : FuncData} (F : Fun K "expression" "Cursor.expression" s_Cursor_expression f fd) (T : Txt P K mg CB fB CC CR CX aK aS) (GCursor_next : MetX P w K mg base CX0 1 CC "next" (spNext CC)) (Gnumber_of : CalX P w K mg base CX0 2 "number_of" spNumberOf) {d : Nat}
    (GCursor_expression : MetX P w K mg base (L2N.CX P w) (d + 3) CC "expression" (spExpr CB CC d)) : FnOk P w K mg base (L2N.CX P w) (d + 4) f fd ["self", "names", "extra", "room"] (spExpr CB CC (d + 1)) := by
  refine okN F sc_Cursor_expression (fun vs H Q E h => ?_) (fun cdv A outer s H vs Q E hr h => ?_)
  · obtain ⟨c, l, n, e, ws, nm, ex, i, rfl, _⟩ := h
    rfl
  obtain ⟨c, l, n, ea, ws, nm, ex, i, rfl, _, hc, hi, hn, he, k1, k2⟩ := h
  refine ⟨_, (pss_cons (ps_set (i := 4) sc_Cursor_expression.nd rfl (Or.inl rfl) (pe_mx0 (pv 0) T.clCursor GCursor_next hr pass0))
 (pss_cons (ps_if (pt_cmpR op_isN (pv 4) pe_non (nomark _))
 (pss_one (ps_raiseBt rfl T.bt hr (L2N.takes_of rfl rfl rfl rfl) (pa_cons (pe_fld (pv 0) rfl) pa_nil)))
 pss_nil)
 (pss_cons (ps_fldaug (pv 0) pe_int in_add)
 (pss_cons (ps_if (PW.pt (pw_and (pt_cmpR op_in_seq (pv 4) (pe_gl (by rfl) T.gSIGNS) rfl) (pw_and1 (pt_cmpR op_gt (pv 3) pe_int (nomark _)))))
 (pss_cons (ps_set (i := 5) sc_Cursor_expression.nd rfl (Or.inl rfl) (pe_mx (pv 0) T.clCursor GCursor_expression hr (pX rfl rfl rfl rfl) (pa_cons (pv 1) (pa_cons (pv 2) (pa_cons (pe_op op_sub (pv 3) pe_int) pa_nil)))))
 (pss_one (ps_ret (pe_tup (pa_cons (pv 4) (pa_cons (pv 5) (pa_cons (pe_mx (pv 0) T.clCursor GCursor_expression hr (pX rfl rfl rfl rfl) (pa_cons (pv 1) (pa_cons (pv 2) (pa_cons (pe_op op_sub (pv 3) pe_int) pa_nil)))) pa_nil)))))))
 pss_nil)
 (pss_cons (ps_if (pt_cmpR op_in_seq (pv 4) (pv 1) rfl)
 (pss_one (ps_ret (pe_tup (pa_cons pe_str (pa_cons (pv 4) pa_nil)))))
 pss_nil)
 (pss_cons (ps_if (pt_cmpR op_in_seq (pv 4) (pv 2) rfl)
 (pss_one (ps_ret (pe_tup (pa_cons (pv 4) pa_nil))))
 pss_nil)
 (pss_cons (ps_set (i := 6) sc_Cursor_expression.nd rfl (Or.inl rfl) (pe_cx Gnumber_of hr pass0 (pa_cons (pv 4) pa_nil)))
 (pss_cons (ps_if (pt_cmpR op_isN (pv 6) pe_non (nomark _))
 (pss_one (ps_raiseBt rfl T.bt hr (L2N.takes_of rfl rfl rfl rfl) (pa_cons (pe_op op_sub (pe_fld (pv 0) rfl) pe_int) pa_nil)))
 pss_nil)
 (pss_one (ps_ret (pe_tup (pa_cons pe_str (pa_cons (pv 6) pa_nil))))))))))))), ?_⟩
  obtain ⟨dx, ho⟩ := hc.obj
  refine ⟨_, rfl, c, dx, _, rfl, ho, cf_no _ _ (by decide +kernel) (by decide +kernel), c, l, ws, i, rfl, hc, ?_⟩
  cases e : ws[i]? with
  | none =>
    refine ⟨_, rfl, rfl, _, rfl, ?_⟩
    refine iteT ?_
    refine ⟨_, rfl, c, CC, dx, _, _, rfl, ho, T.clCursor, T.cAt, cf_at _ _, _, rfl, fun d hd => k2 i (fun st sc => val_end e) _ d upd_same⟩
  | some x =>
    refine ⟨_, rfl, rfl, _, rfl, ?_⟩
    refine iteF ?_
    refine ⟨_, rfl, c, CC, dx, _, _, rfl, ho, T.clCursor, T.cAt, cf_at _ _, _, _, rfl, rfl, dx, _, ho, by show 2 < 1000; decide, ?_⟩
    have i1 : i + 1 ≤ ws.length := (List.getElem?_eq_some_iff.mp e).1
    have nlc := hc.lc
    have nnc : n ≠ c := ne_of hn ho (by intro q; cases q)
    have nec : ea ≠ c := ne_of he ho (by intro q; cases q)
    generalize hH1 : upd H c (.ins CC dx (putF "at" (.int ((i : Int) + 1)) (cf l i))) = H1
    have kp1 : Keep [c] H H1 := by rw [← hH1]; exact Keep.upd (by simp)
    have hc1 : CurAt CC H1 c l ws (i + 1) := hc.keep (dx := dx) (by rw [← hH1, upd_same, cf_put]; rfl) (by rw [← hH1, upd_ne nlc])
    have hn1 : H1 n = some (.lst (nm.map V.str)) := kp1 _ _ hn (by simpa using nnc)
    have he1 : H1 ea = some (.tup (ex.map V.str)) := kp1 _ _ he (by simpa using nec)
    have tkc : ∀ {Ha Hb : Hp} {j : Nat}, Keep [c] Ha Hb → CurAt CC Ha c l ws j → Tk Ha Hb := fun kk hh => kk.tk fun b hb xs z => by
      have hb' : b = c := by simpa using hb
      obtain ⟨dy, hy⟩ := hh.obj
      rw [hb', hy] at z; cases z
    clear hH1
    obtain ⟨dx1, ho1⟩ := hc1.obj
    refine ⟨_, rfl, aS, _, rfl, .inr (T.kSIGNS _), rfl, flat_strs _, _, rfl, ?_⟩
    (first | rw [inV_strs] | rw [inV_wv])
    have ed : (((d + 1 : Nat) : Int) - 1) = (d : Int) := by omega
    by_cases hs : x ∈ signs ∧ ((d + 1 : Nat) : Int) > 1
    · rw [decide_eq_true hs.1]
      refine iteT ?_
      refine ⟨_, rfl, _, _, rfl, rfl, _, rfl, ?_⟩
      rw [decide_eq_true (show (1 : Int) < ((d + 1 : Nat) : Int) from hs.2)]
      refine iteT ?_
      have hd1 : 1 ≤ d := by have := hs.2; omega
      have ev : ∀ q, [V.ref c, V.ref n, V.ref ea, V.int (((d + 1 : Nat) : Int) - 1)] ++ q = [V.ref c, V.ref n, V.ref ea, V.int (d : Int)] ++ q := fun q => by rw [ed]
      refine ⟨_, rfl, c, dx1, _, rfl, ho1, cf_no _ _ (by decide +kernel) (by decide +kernel), _, rfl, _, rfl, _, rfl, _, _, rfl, rfl, c, l, n, ea, ws, nm, ex, i + 1, ev [], hd1, hc1, i1, hn1, he1, fun j a1 H2 ij jl kp2 hc2 ex2 m2 => ?_, fun k hk => ?_⟩
      · obtain ⟨dx2, ho2⟩ := hc2.obj
        have hn2 := kp2 _ _ hn1 (by simpa using nnc)
        have he2 := kp2 _ _ he1 (by simpa using nec)
        refine ⟨_, rfl, _, rfl, _, rfl, c, dx2, _, rfl, ho2, cf_no _ _ (by decide +kernel) (by decide +kernel), _, rfl, _, rfl, _, rfl, _, _, rfl, rfl, c, l, n, ea, ws, nm, ex, j, ev [], hd1, hc2, jl, hn2, he2, fun j2 a2 H3 ij2 jl2 kp3 hc3 ex3 m3 => ?_, fun k hk => ?_⟩
        · refine ⟨by show 3 ≤ sizeLine; decide, fun p hp => ?_⟩
          refine k1 j2 p _ (by omega) jl2 (kp1.trans (kp2.trans (kp3.trans (Keep.new hp)))) (hc3.same (same_new hp _)) ?_ (fun st sc => ?_)
          · refine .inr (.inr (.inr ⟨x, a1, a2, seg ws (i + 1) j, seg ws j j2, upd_same, ex2.keep ((tkc kp3 hc2).trans (Tk.new hp)), ex3.keep (Tk.new hp), ?_⟩))
            rw [seg_cat (by omega) (by omega), seg_cons e (by omega)]
          · rw [val_sign e hs, ed, m2, m3]
        · exact k2 k fun st sc => by rw [val_sign e hs, ed, m2, hk]
      · exact k2 k fun st sc => by rw [val_sign e hs, ed, hk]
    · have hw : x.length ≤ sizeLine := hc.sz x (List.mem_of_getElem? e)
      by_cases hx : x ∈ signs
      case' pos => (rw [decide_eq_true hx]; refine iteT ?_; refine ⟨_, rfl, _, _, rfl, rfl, _, rfl, ?_⟩; rw [decide_eq_false (show ¬ (1 : Int) < ((d + 1 : Nat) : Int) from fun z => hs ⟨hx, z⟩)]; refine iteF ?_)
      case' neg => (rw [decide_eq_false hx]; refine iteF ?_; refine iteF ?_)
      all_goals
        refine ⟨_, rfl, _, rfl, n, _, rfl, .inl (SqL.of hn1), rfl, flat_strs _, _, rfl, ?_⟩
        (first | rw [inV_strs] | rw [inV_wv])
        by_cases h1 : x ∈ nm
        · rw [decide_eq_true h1]
          refine iteT ⟨_, rfl, by show 2 ≤ sizeLine; decide, fun p hp => ?_⟩
          exact k1 (i + 1) p _ (by omega) i1 (kp1.trans (Keep.new hp)) (hc1.same (same_new hp _)) (.inr (.inl ⟨x, upd_same, seg_one e⟩)) (fun st sc => val_leaf e hs (.inl (List.mem_append_left _ h1)))
        · rw [decide_eq_false h1]
          refine iteF ?_
          refine ⟨_, rfl, _, rfl, ea, _, rfl, .inr (SqT.of he1), rfl, flat_strs _, _, rfl, ?_⟩
          (first | rw [inV_strs] | rw [inV_wv])
          by_cases h2 : x ∈ ex
          · rw [decide_eq_true h2]
            refine iteT ⟨_, rfl, by show 1 ≤ sizeLine; decide, fun p hp => ?_⟩
            exact k1 (i + 1) p _ (by omega) i1 (kp1.trans (Keep.new hp)) (hc1.same (same_new hp _)) (.inr (.inr (.inl ⟨x, upd_same, seg_one e⟩))) (fun st sc => val_leaf e hs (.inl (List.mem_append_right _ h2)))
          · rw [decide_eq_false h2]
            refine iteF ?_
            have h3 : x ∉ nm ++ ex := fun z => (List.mem_append.mp z).elim h1 h2
            refine ⟨_, rfl, x, rfl, hw, fun H2 s2 => ?_⟩
            have ho2 := s2 _ _ ho1
            by_cases h4 : isNum x 0 65535 = true
            · rw [if_pos h4]
              refine ⟨_, rfl, rfl, _, rfl, ?_⟩
              refine iteF ⟨_, rfl, by show 2 ≤ sizeLine; decide, fun p hp => ?_⟩
              have h5 : numOk x = true ∧ numV x ≤ 65535 := by
                simp only [isNum, Bool.and_eq_true, decide_eq_true_eq] at h4
                exact ⟨h4.1.1, h4.2⟩
              refine k1 (i + 1) p _ (by omega) i1 (kp1.trans ((Keep.of_same s2).trans (Keep.new hp))) ((hc1.same s2).same (same_new hp _)) (.inl ⟨numV x, upd_same, numV_nonneg x, h5.2, ?_⟩) (fun st sc => val_leaf e hs (.inr h4))
              rw [seg_one e, numOk_str h5.1]
            · rw [if_neg h4]
              refine ⟨_, rfl, rfl, _, rfl, ?_⟩
              refine iteT ?_
              refine ⟨_, rfl, c, CC, dx1, _, _, rfl, ho2, T.clCursor, T.cAt, cf_at _ _, _, _, rfl, rfl, _, rfl, fun d' hd' => k2 i (fun st sc => val_bad e hs (fun z => z.elim h3 h4)) _ d' ?_⟩
              rw [upd_same]
              show some (HO.xd [(("at" : Str), V.int (((i + 1 : Nat) : Int) - 1))]) = _
              rw [show ((i + 1 : Nat) : Int) - 1 = (i : Int) by omega]
theorem expr_all {f : Addr} {fd : FuncData} (F : Fun K "expression" "Cursor.expression" s_Cursor_expression f fd) (T : Txt P K mg CB fB CC CR CX aK aS) (GCursor_next : MetX P w K mg base CX0 1 CC "next" (spNext CC)) (Gnumber_of : CalX P w K mg base CX0 2 "number_of" spNumberOf)
    (me : Meth K CC "expression" f) (bi : Binds K fd ["self", "names", "extra", "room"] []) : ∀ d, MetX P w K mg base (L2N.CX P w) (d + 3) CC "expression" (spExpr CB CC d)
  | 0 => by
    have no : ∀ vs H Q E, ¬ spExpr CB CC 0 vs H Q E := fun vs H Q E h => by
      obtain ⟨c, l, n, e, ws, nm, ex, i, _, h1, _⟩ := h
      omega
    exact ⟨f, fd, ["self", "names", "extra", "room"], ⟨fun vs H Q E h => absurd h (no vs H Q E), fun A outer s H args us vs Q E _ _ _ _ h => absurd h (no vs H Q E)⟩, me, bi⟩
  | d + 1 => ⟨f, fd, _, expr_step F T GCursor_next Gnumber_of (expr_all F T GCursor_next Gnumber_of me bi d), me, bi⟩
end
end Nt

set_option Elab.async false
set_option linter.all false
set_option maxRecDepth 100000
set_option maxHeartbeats 1000000
namespace Nt
open PySem L2
def spRdInit (CR : Addr) : Sp := fun vs H Q _ => ∃ (p dx c : Addr) (uses : Int), vs = [.ref p, .ref c, .int uses] ∧ H p = some (.ins CR dx []) ∧
  ∀ (n e : Addr) (H' : Hp), Keep [p] H H' → H n = none → H e = none → n ≠ e → ReadAt CR H' p c n 3 uses e → H' n = some (.lst []) → H' e = some (.tup []) → Q .non H'
/-- a statement, an if of it: what it is to the machine -/
def SuccS (CC CR : Addr) (r c l n e : Addr) (ws : List Str) (i : Nat) (nm ex : List Str) (left uses : Int) (d : Nat) (H : Hp) (Q : VK) : Prop :=
  ∀ (j : Nat) (a : Addr) (left' uses' : Int) (H' : Hp), i < j → j ≤ ws.length → Keep [c, r] H H' → RdAt CC CR H' r c l n e ws j nm ex left' uses' → 0 ≤ left' → 0 ≤ uses' → StW H' d a (seg ws i j) →
    (∀ k st, M ws i (.blk d k :: st) ⟨nm, ex, left, uses⟩ = M ws j (.blk d k.nx :: st) ⟨nm, ex, left', uses'⟩) → Q (.ref a) H'
def FailS (CB : Addr) (ws : List Str) (i : Nat) (nm ex : List Str) (left uses : Int) (d : Nat) (E : XK) : Prop := ∀ k0 : Nat, (∀ k st, M ws i (.blk d k :: st) ⟨nm, ex, left, uses⟩ = some k0) → ErrK CB E k0
def spStmt (CB CC CR : Addr) (d : Nat) : Sp := fun vs H Q E => ∃ (r c l n e : Addr) (ws nm ex : List Str) (i : Nat) (left uses : Int), vs = [.ref r, .int d] ∧ RdAt CC CR H r c l n e ws i nm ex left uses ∧ i ≤ ws.length ∧ 0 ≤ left ∧ 0 ≤ uses ∧
  SuccS CC CR r c l n e ws i nm ex left uses d H Q ∧ (NoSt ws i d ⟨nm, ex, left, uses⟩ → Q .non H) ∧ FailS CB ws i nm ex left uses d E
def spChoice (CB CC CR : Addr) (d : Nat) : Sp := fun vs H Q E => ∃ (r c l n e : Addr) (ws nm ex : List Str) (i : Nat) (left uses : Int), vs = [.ref r, .int d] ∧ RdAt CC CR H r c l n e ws i nm ex left uses ∧ ws[i]? = some ("if" : Str) ∧ 1 ≤ d ∧ 0 ≤ left ∧ 0 ≤ uses ∧
  SuccS CC CR r c l n e ws i nm ex left uses d H Q ∧ FailS CB ws i nm ex left uses d E
def spBlock (CB CC CR : Addr) (d : Nat) : Sp := fun vs H Q E => ∃ (r c l n e : Addr) (ws nm ex : List Str) (i : Nat) (left uses : Int), vs = [.ref r, .int d] ∧ RdAt CC CR H r c l n e ws i nm ex left uses ∧ i ≤ ws.length ∧ 0 ≤ left ∧ 0 ≤ uses ∧
  (∀ (j : Nat) (a : Addr) (rs : List (Addr × List Str)) (left' uses' : Int) (H' : Hp), i ≤ j → j ≤ ws.length → Keep [c, r] H H' → RdAt CC CR H' r c l n e ws j nm ex left' uses' → 0 ≤ left' → 0 ≤ uses' → BlL (StW H' d) H' a rs → wsOf rs = seg ws i j → NoSt ws j d ⟨nm, ex, left', uses'⟩ →
    (∀ k st, M ws i (.blk d k :: st) ⟨nm, ex, left, uses⟩ = M ws j (.blk d (if rs = [] then k else k.nx) :: st) ⟨nm, ex, left', uses'⟩) → Q (.ref a) H') ∧ FailS CB ws i nm ex left uses d E
section
variable {P : Program} {w : World} {K : PySem.W.Frag} {mg : Str → Option Value} {base : Heap} {CB fB CC CR CX aK aS : Addr}
theorem sc_Reader_init : FnScope ["self", "cursor", "uses"] ["self", "cursor", "uses"] (defScope s_Reader_init) := ⟨rfl, rfl, rfl, by decide +kernel, rfl, by decide +kernel, by decide +kernel⟩
theorem ok_Reader_init {f : Addr} {fd : FuncData} (F : Fun K "__init__" "Reader.__init__" s_Reader_init f fd) (T : Txt P K mg CB fB CC CR CX aK aS) : FnOk P w K mg base CX0 1 f fd ["self", "cursor", "uses"] (spRdInit CR) := by
  refine F.ok sc_Reader_init (fun vs H Q E h => ?_) (fun cdv A outer s H vs Q E hr h => ?_)
  · obtain ⟨p, dx, c, uses, rfl, _⟩ := h
    rfl
  obtain ⟨p, dx, c, uses, rfl, hp, k⟩ := h
  refine ⟨_, (pss_cons (ps_fld (pv 0) (pv 1) rfl)
 (pss_cons (ps_fld (pv 0) (pe_lst pa_nil) rfl)
 (pss_cons (ps_fld (pv 0) (pe_gl (by rfl) T.gMOST_DRAWS) rfl)
 (pss_cons (ps_fld (pv 0) (pv 2) rfl)
 (pss_one (ps_fld (pv 0) (pe_tup pa_nil) rfl)))))), ?_⟩
  refine ⟨_, rfl, _, rfl, p, CR, dx, [], rfl, hp, T.clReader, T.rCursor, by show 0 < 1000; decide, ?_⟩
  refine ⟨Nat.zero_le _, fun n hn => ?_⟩
  have npn : p ≠ n := fun z => by rw [← z, upd_same] at hn; cases hn
  refine ⟨_, rfl, p, CR, dx, _, rfl, Eq.trans (upd_ne npn) upd_same, T.clReader, T.rNames, by show 1 < 1000; decide, ?_⟩
  refine ⟨_, rfl, p, CR, dx, _, rfl, upd_same, T.clReader, T.rLeft, by show 2 < 1000; decide, ?_⟩
  refine ⟨_, rfl, _, rfl, p, CR, dx, _, rfl, upd_same, T.clReader, T.rUses, by show 3 < 1000; decide, ?_⟩
  refine ⟨Nat.zero_le _, fun e he => ?_⟩
  have npe : p ≠ e := fun z => by rw [← z, upd_same] at he; cases he
  refine ⟨_, rfl, p, CR, dx, _, rfl, Eq.trans (upd_ne npe) upd_same, T.clReader, T.rExtra, by show 4 < 1000; decide, ?_⟩
  have hn0 : H n = none := by rwa [upd_ne npn.symm] at hn
  have hne : n ≠ e := fun z => by
    rw [← z, upd_ne npn.symm, upd_ne npn.symm, upd_ne npn.symm, upd_same] at he
    cases he
  have he0 : H e = none := by
    rwa [upd_ne npe.symm, upd_ne npe.symm, upd_ne npe.symm, upd_ne hne.symm, upd_ne npe.symm] at he
  refine k n e _ (fun b o hb hnb => ?_) hn0 he0 hne ⟨dx, ?_⟩ ?_ ?_
  · have hbp : b ≠ p := fun z => hnb (by rw [z]; simp)
    have hbn : b ≠ n := ne_of_none hb hn0
    have hbe : b ≠ e := ne_of_none hb he0
    rw [upd_ne hbp, upd_ne hbe, upd_ne hbp, upd_ne hbp, upd_ne hbp, upd_ne hbn, upd_ne hbp]; exact hb
  · rw [upd_same]
    have q : putF "extra" (V.ref e) (putF "uses" (V.int uses) (putF "left" (V.int 3) (putF "names" (V.ref n) (putF "cursor" (V.ref c) [])))) = rf c n 3 uses e := by
      unfold rf
      simp only [putF, show ¬ (("cursor" : Str) = "names") from by decide +kernel, show ¬ (("cursor" : Str) = "left") from by decide +kernel, show ¬ (("cursor" : Str) = "uses") from by decide +kernel, show ¬ (("cursor" : Str) = "extra") from by decide +kernel,
        show ¬ (("names" : Str) = "left") from by decide +kernel, show ¬ (("names" : Str) = "uses") from by decide +kernel, show ¬ (("names" : Str) = "extra") from by decide +kernel, show ¬ (("left" : Str) = "uses") from by decide +kernel, show ¬ (("left" : Str) = "extra") from by decide +kernel,
        show ¬ (("uses" : Str) = "extra") from by decide +kernel, if_false]
    rw [← q]
  · rw [upd_ne npn.symm, upd_ne hne, upd_ne npn.symm, upd_ne npn.symm, upd_ne npn.symm, upd_same]
  · rw [upd_ne npe.symm, upd_same]
theorem sc_Reader_statement : FnScope ["self", "room", "word", "name"] ["self", "room"] (defScope s_Reader_statement) := ⟨rfl, rfl, rfl, by decide +kernel, rfl, by decide +kernel, by decide +kernel⟩
theorem ok_stmt {f : Addr} {fd : FuncData} (F : Fun K "statement" "Reader.statement" s_Reader_statement f fd) (T : Txt P K mg CB fB CC CR CX aK aS) (GCursor_next : MetX P w K mg base CX0 1 CC "next" (spNext CC))
    (GCursor_word : MetX P w K mg base (L2N.CX P w) 3 CC "word" (spWord K CB CC)) (GCursor_number : MetX P w K mg base (L2N.CX P w) 3 CC "number" (spNumber CB CC)) (GCursor_expression : MetX P w K mg base (L2N.CX P w) 8 CC "expression" (spExpr CB CC 5)) {d k : Nat} (hk8 : 8 ≤ k)
    (GReader_choice : MetX P w K mg base (L2N.CX P w) k CR "choice" (spChoice CB CC CR d)) : FnOk P w K mg base (L2N.CX P w) (k + 1) f fd ["self", "room"] (spStmt CB CC CR d) := by
  refine okN F sc_Reader_statement (fun vs H Q E h => ?_) (fun cdv A outer s H vs Q E hr h => ?_)
  · obtain ⟨r, c, l, n, e, ws, nm, ex, i, left, uses, rfl, _⟩ := h
    rfl
  obtain ⟨r, c, l, n, e, ws, nm, ex, i, left, uses, rfl, R, hi, hl0, hu0, k1, k2, k3⟩ := h
  refine ⟨_, (pss_cons (ps_set (i := 2) sc_Reader_statement.nd rfl (Or.inl rfl) (pe_mx0 (pe_fld (pv 0) rfl) T.clCursor GCursor_next hr pass0))
 (pss_cons (ps_if (PW.pt (pw_and (pt_cmpR op_eq (pv 2) pe_str (nomark _)) (pw_and1 (pt_truth (pe_fld (pv 0) rfl) (by intro _; rfl)))))
 (pss_cons (ps_fldaug (pe_fld (pv 0) rfl) pe_int in_add)
 (pss_cons (ps_set (i := 3) sc_Reader_statement.nd rfl (Or.inl rfl) (pe_mx (pe_fld (pv 0) rfl) T.clCursor GCursor_word hr (pX rfl rfl rfl rfl) (pa_cons (pe_fld (pv 0) rfl) pa_nil)))
 (pss_one (ps_ret (pe_tup (pa_cons pe_str (pa_cons (pv 3) (pa_cons (pe_mx (pe_fld (pv 0) rfl) T.clCursor GCursor_expression hr (pX rfl rfl rfl rfl) (pa_cons (pe_fld (pv 0) rfl) (pa_cons (pe_fld (pv 0) rfl) (pa_cons (pe_gl (by rfl) T.gDEEPEST) pa_nil)))) pa_nil))))))))
 pss_nil)
 (pss_cons (ps_if (PW.pt (pw_and (pt_cmpR op_eq (pv 2) pe_str (nomark _)) (pw_and (pt_truth (pe_fld (pv 0) rfl) (by intro _; rfl)) (pw_and1 (pt_truth (pe_fld (pv 0) rfl) (by intro _; rfl))))))
 (pss_cons (ps_fldaug (pe_fld (pv 0) rfl) pe_int in_add)
 (pss_cons (ps_fldaug (pv 0) pe_int in_sub)
 (pss_cons (ps_set (i := 3) sc_Reader_statement.nd rfl (Or.inl rfl) (pe_mx (pe_fld (pv 0) rfl) T.clCursor GCursor_word hr (pX rfl rfl rfl rfl) (pa_cons (pe_fld (pv 0) rfl) pa_nil)))
 (pss_one (ps_ret (pe_tup (pa_cons pe_str (pa_cons (pv 3) (pa_cons (pe_mx (pe_fld (pv 0) rfl) T.clCursor GCursor_number hr (pX rfl rfl rfl rfl) (pa_cons pe_int (pa_cons (pe_gl (by rfl) T.gMOST_RESULTS) pa_nil))) pa_nil)))))))))
 pss_nil)
 (pss_cons (ps_if (PW.pt (pw_and (pt_cmpR op_eq (pv 2) pe_str (nomark _)) (pw_and (pt_truth (pe_fld (pv 0) rfl) (by intro _; rfl)) (pw_and1 (pt_truth (pe_fld (pv 0) rfl) (by intro _; rfl))))))
 (pss_cons (ps_fldaug (pe_fld (pv 0) rfl) pe_int in_add)
 (pss_cons (ps_fldaug (pv 0) pe_int in_sub)
 (pss_cons (ps_set (i := 3) sc_Reader_statement.nd rfl (Or.inl rfl) (pe_mx (pe_fld (pv 0) rfl) T.clCursor GCursor_word hr (pX rfl rfl rfl rfl) (pa_cons (pe_fld (pv 0) rfl) pa_nil)))
 (pss_one (ps_ret (pe_tup (pa_cons pe_str (pa_cons (pv 3) (pa_cons (pe_mx (pe_fld (pv 0) rfl) T.clCursor GCursor_expression hr (pX rfl rfl rfl rfl) (pa_cons (pe_fld (pv 0) rfl) (pa_cons (pe_fld (pv 0) rfl) (pa_cons (pe_gl (by rfl) T.gDEEPEST) pa_nil)))) pa_nil)))))))))
 pss_nil)
 (pss_cons (ps_if (PW.pt (pw_and (pt_cmpR op_eq (pv 2) pe_str (nomark _)) (pw_and1 (pt_truth (pe_fld (pv 0) rfl) (by intro _; rfl)))))
 (pss_cons (ps_fldaug (pe_fld (pv 0) rfl) pe_int in_add)
 (pss_one (ps_ret (pe_tup (pa_cons pe_str (pa_cons (pe_mx (pe_fld (pv 0) rfl) T.clCursor GCursor_expression hr (pX rfl rfl rfl rfl) (pa_cons (pe_fld (pv 0) rfl) (pa_cons (pe_fld (pv 0) rfl) (pa_cons (pe_gl (by rfl) T.gDEEPEST) pa_nil)))) pa_nil))))))
 pss_nil)
 (pss_cons (ps_if (PW.pt (pw_and (pt_cmpR op_eq (pv 2) pe_str (nomark _)) (pw_and1 (pt_truth (pv 1) (by intro _; rfl)))))
 (pss_one (ps_ret (pe_mx (pv 0) T.clReader GReader_choice hr (pX rfl rfl rfl rfl) (pa_cons (pv 1) pa_nil))))
 pss_nil)
 (pss_one (ps_ret pe_non)))))))), ?_⟩
  obtain ⟨dx, ho⟩ := R.cur.obj
  obtain ⟨dr, hro⟩ := R.rd
  have emp : ∀ xs : List Str, (!(xs.map V.str).isEmpty) = !xs.isEmpty := fun xs => by cases xs <;> rfl
  have kc : Keep [c, r] H (upd H c (.ins CC dx (putF "at" (.int ((i : Int) + 1)) (cf l i)))) := Keep.upd (by simp)
  have R1 := R.bump ho
  refine ⟨_, rfl, r, CR, dr, _, _, rfl, hro, T.clReader, T.rCursor, (rf_look _ _ _ _ _).1, c, dx, _, rfl, ho, cf_no _ _ (by decide +kernel) (by decide +kernel), c, l, ws, i, rfl, R.cur, ?_⟩
  -- set
  refine ⟨_, rfl, wv_scal _ _, _, rfl, ?_⟩
  rw [wv_eq]
  by_cases hA : ws[i]? = some ("set" : Str) ∧ nm ≠ []
  · rw [decide_eq_true hA.1]
    refine iteT ⟨_, rfl, r, CR, dr, _, _, rfl, hro, T.clReader, T.rNames, (rf_look _ _ _ _ _).2.1, _, .inl ⟨_, SqL.of R.hn, rfl⟩, ?_⟩
    rw [emp_t hA.2]
    refine iteT ?_
    have i1 : i + 1 ≤ ws.length := (List.getElem?_eq_some_iff.mp hA.1).1
    have st1 : ∀ k st, M ws i (.blk d k :: st) ⟨nm, ex, left, uses⟩ = M ws (i + 1) (.one :: .val (nm ++ ex) 5 :: .blk d k.nx :: st) ⟨nm, ex, left, uses⟩ := fun k st => blk_stm hA.1 (stm_set hA.2)
    refine ⟨_, rfl, r, CR, dr, _, _, rfl, hro, T.clReader, T.rCursor, (rf_look _ _ _ _ _).1, c, CC, dx, _, _, rfl, ho, T.clCursor, T.cAt, cf_at _ _, _, _, rfl, rfl, dx, _, ho, by show 2 < 1000; decide, ?_⟩
    generalize upd H c (.ins CC dx (putF "at" (.int ((i : Int) + 1)) (cf l i))) = H1 at kc R1 ⊢
    obtain ⟨dx1, ho1⟩ := R1.cur.obj
    obtain ⟨dr1, hro1⟩ := R1.rd
    refine ⟨_, rfl, r, CR, dr1, _, _, rfl, hro1, T.clReader, T.rCursor, (rf_look _ _ _ _ _).1, c, dx1, _, rfl, ho1, cf_no _ _ (by decide +kernel) (by decide +kernel), _, rfl, r, CR, dr1, _, _, rfl, hro1, T.clReader, T.rNames, (rf_look _ _ _ _ _).2.1, c, l, n, ws, nm, i + 1, rfl, R1.cur, .inl (SqL.of R1.hn), fun x H2 e2 hx kp2 hc2 => ?_, fun bad => ?_⟩
    · have R2 := R1.toc kp2 hc2
      obtain ⟨dx2, ho2⟩ := R2.cur.obj
      obtain ⟨dr2, hro2⟩ := R2.rd
      have i2 : i + 2 ≤ ws.length := (List.getElem?_eq_some_iff.mp e2).1
      refine ⟨_, rfl, _, rfl, r, CR, dr2, _, _, rfl, hro2, T.clReader, T.rCursor, (rf_look _ _ _ _ _).1, c, dx2, _, rfl, ho2, cf_no _ _ (by decide +kernel) (by decide +kernel), _, rfl, r, CR, dr2, _, _, rfl, hro2, T.clReader, T.rNames, (rf_look _ _ _ _ _).2.1, _, rfl, r, CR, dr2, _, _, rfl, hro2, T.clReader, T.rExtra, (rf_look _ _ _ _ _).2.2.2.2, c, l, n, e, ws, nm, ex, i + 2, rfl, by decide, R2.cur, i2, R2.hn, R2.he, fun j a H3 ij jl kp3 hc3 ex3 m3 => ?_, fun k hk => ?_⟩
      · refine ⟨by show 3 ≤ sizeLine; decide, fun p hp => ?_⟩
        have R3 := R2.toc kp3 hc3
        refine k1 j p left uses _ (by omega) jl (kc.trans ((kp2.mono (by simp)).trans ((kp3.mono (by simp)).trans (Keep.new hp)))) (R3.same (same_new hp _)) hl0 hu0 ?_ (fun k st => ?_)
        · have pl : PlW (upd H3 p (.tup [.str "set", .str x, .ref a])) p (seg ws i j) := .inl ⟨"set", x, a, seg ws (i + 2) j, .inl rfl, upd_same, ex3.keep (Tk.new hp), by rw [seg_cons e2 (by omega), seg_cons hA.1 (by omega)]⟩
          cases d with
          | zero => exact pl
          | succ d => exact .inl pl
        · rw [st1, one_ok e2 hx]; exact m3 _ _
      · exact k3 k fun kk st => by rw [st1, one_ok e2 hx]; exact hk _ _
    · exact k3 (i + 1) fun kk st => by rw [st1]; exact one_fail bad
  refine ite_f2 (fun q z => ⟨_, rfl, r, CR, dr, _, _, rfl, hro, T.clReader, T.rNames, (rf_look _ _ _ _ _).2.1, _, .inl ⟨_, SqL.of R.hn, rfl⟩, by rw [emp_f (by_not hA q)]; exact iteF z⟩) (fun z => iteF z) ?_
  -- draw
  refine ⟨_, rfl, wv_scal _ _, _, rfl, ?_⟩
  rw [wv_eq]
  by_cases hB : ws[i]? = some ("draw" : Str) ∧ nm ≠ [] ∧ left > 0
  · rw [decide_eq_true hB.1]
    refine iteT ⟨_, rfl, r, CR, dr, _, _, rfl, hro, T.clReader, T.rNames, (rf_look _ _ _ _ _).2.1, _, .inl ⟨_, SqL.of R.hn, rfl⟩, ?_⟩
    rw [emp_t hB.2.1]
    refine iteT ⟨_, rfl, r, CR, dr, _, _, rfl, hro, T.clReader, T.rLeft, (rf_look _ _ _ _ _).2.2.1, _, rfl, ?_⟩
    rw [show (left != 0) = true by have := hB.2.2; simp; omega]
    refine iteT ?_
    have i1 : i + 1 ≤ ws.length := (List.getElem?_eq_some_iff.mp hB.1).1
    have st1 : ∀ k st, M ws i (.blk d k :: st) ⟨nm, ex, left, uses⟩ = M ws (i + 1) (.one :: .num 1 6 :: .blk d k.nx :: st) ⟨nm, ex, left - 1, uses⟩ := fun k st => blk_stm hB.1 (stm_draw hB.2.1 hB.2.2)
    refine ⟨_, rfl, r, CR, dr, _, _, rfl, hro, T.clReader, T.rCursor, (rf_look _ _ _ _ _).1, c, CC, dx, _, _, rfl, ho, T.clCursor, T.cAt, cf_at _ _, _, _, rfl, rfl, dx, _, ho, by show 2 < 1000; decide, ?_⟩
    generalize upd H c (.ins CC dx (putF "at" (.int ((i : Int) + 1)) (cf l i))) = H0 at kc R1 ⊢
    obtain ⟨dr0, hro0⟩ := R1.rd
    refine ⟨_, rfl, r, CR, dr0, _, _, rfl, hro0, T.clReader, T.rLeft, (rf_look _ _ _ _ _).2.2.1, _, _, rfl, rfl, dr0, _, hro0, by show 5 < 1000; decide, ?_⟩
    have R2 := R1.setl (dr := dr0) (left - 1)
    have kc1 : Keep [c, r] H (upd H0 r (.ins CR dr0 (putF "left" (.int (left - 1)) (rf c n left uses e)))) := kc.trans (Keep.upd (by simp))
    generalize upd H0 r (.ins CR dr0 (putF "left" (.int (left - 1)) (rf c n left uses e))) = H1 at kc1 R2 ⊢
    obtain ⟨dx1, ho1⟩ := R2.cur.obj
    obtain ⟨dr1, hro1⟩ := R2.rd
    refine ⟨_, rfl, r, CR, dr1, _, _, rfl, hro1, T.clReader, T.rCursor, (rf_look _ _ _ _ _).1, c, dx1, _, rfl, ho1, cf_no _ _ (by decide +kernel) (by decide +kernel), _, rfl, r, CR, dr1, _, _, rfl, hro1, T.clReader, T.rNames, (rf_look _ _ _ _ _).2.1, c, l, n, ws, nm, i + 1, rfl, R2.cur, .inl (SqL.of R2.hn), fun x H2 e2 hx kp2 hc2 => ?_, fun bad => ?_⟩
    · have R3 := R2.toc kp2 hc2
      obtain ⟨dx2, ho2⟩ := R3.cur.obj
      obtain ⟨dr2, hro2⟩ := R3.rd
      have i2 : i + 2 ≤ ws.length := (List.getElem?_eq_some_iff.mp e2).1
      refine ⟨_, rfl, _, rfl, r, CR, dr2, _, _, rfl, hro2, T.clReader, T.rCursor, (rf_look _ _ _ _ _).1, c, dx2, _, rfl, ho2, cf_no _ _ (by decide +kernel) (by decide +kernel), c, l, ws, i + 2, 1, 6, rfl, by decide, by decide, R3.cur, fun y H3 e3 hy kp3 hc3 => ?_, fun bad => ?_⟩
      · refine ⟨by show 3 ≤ sizeLine; decide, fun p hp => ?_⟩
        have R4 := R3.toc kp3 hc3
        have i3 : i + 3 ≤ ws.length := (List.getElem?_eq_some_iff.mp e3).1
        have hy2 : numOk y = true ∧ 1 ≤ numV y ∧ numV y ≤ 6 := by
          simp only [isNum, Bool.and_eq_true, decide_eq_true_eq] at hy
          exact ⟨hy.1.1, hy.1.2, hy.2⟩
        refine k1 (i + 3) p (left - 1) uses _ (by omega) i3 (kc1.trans ((kp2.mono (by simp)).trans ((kp3.mono (by simp)).trans (Keep.new hp)))) (R4.same (same_new hp _)) (by have := hB.2.2; omega) hu0 ?_ (fun k st => ?_)
        · have pl : PlW (upd H3 p (.tup [.str "draw", .str x, .int (numV y)])) p (seg ws i (i + 3)) := .inr (.inr ⟨x, numV y, upd_same, hy2.2.1, hy2.2.2, by rw [← seg_cons hB.1 (by omega), ← seg_cons e2 (by omega), seg_one e3, numOk_str hy2.1]⟩)
          cases d with
          | zero => exact pl
          | succ d => exact .inl pl
        · rw [st1, one_ok e2 hx, num_ok e3 hy]
      · exact k3 (i + 2) fun kk st => by rw [st1, one_ok e2 hx]; exact num_fail bad
    · exact k3 (i + 1) fun kk st => by rw [st1]; exact one_fail bad
  refine ite_f2 (fun q z => ⟨_, rfl, r, CR, dr, _, _, rfl, hro, T.clReader, T.rNames, (rf_look _ _ _ _ _).2.1, _, .inl ⟨_, SqL.of R.hn, rfl⟩, by
    by_cases hn0 : nm = []
    · rw [emp_f hn0]; exact iteF z
    · rw [emp_t hn0]
      refine iteT ⟨_, rfl, r, CR, dr, _, _, rfl, hro, T.clReader, T.rLeft, (rf_look _ _ _ _ _).2.2.1, _, rfl, ?_⟩
      have l0 : left = 0 := Classical.byContradiction fun zz => hB ⟨of_decide_eq_true q, hn0, by omega⟩
      rw [show (left != 0) = false by rw [l0]; rfl]
      exact iteF z⟩) (fun z => iteF z) ?_
  -- use
  refine ⟨_, rfl, wv_scal _ _, _, rfl, ?_⟩
  rw [wv_eq]
  by_cases hC : ws[i]? = some ("use" : Str) ∧ nm ≠ [] ∧ uses > 0
  · rw [decide_eq_true hC.1]
    refine iteT ⟨_, rfl, r, CR, dr, _, _, rfl, hro, T.clReader, T.rNames, (rf_look _ _ _ _ _).2.1, _, .inl ⟨_, SqL.of R.hn, rfl⟩, ?_⟩
    rw [emp_t hC.2.1]
    refine iteT ⟨_, rfl, r, CR, dr, _, _, rfl, hro, T.clReader, T.rUses, (rf_look _ _ _ _ _).2.2.2.1, _, rfl, ?_⟩
    rw [show (uses != 0) = true by have := hC.2.2; simp; omega]
    refine iteT ?_
    have i1 : i + 1 ≤ ws.length := (List.getElem?_eq_some_iff.mp hC.1).1
    have st1 : ∀ k st, M ws i (.blk d k :: st) ⟨nm, ex, left, uses⟩ = M ws (i + 1) (.one :: .val (nm ++ ex) 5 :: .blk d k.nx :: st) ⟨nm, ex, left, uses - 1⟩ := fun k st => blk_stm hC.1 (stm_use hC.2.1 hC.2.2)
    refine ⟨_, rfl, r, CR, dr, _, _, rfl, hro, T.clReader, T.rCursor, (rf_look _ _ _ _ _).1, c, CC, dx, _, _, rfl, ho, T.clCursor, T.cAt, cf_at _ _, _, _, rfl, rfl, dx, _, ho, by show 2 < 1000; decide, ?_⟩
    generalize upd H c (.ins CC dx (putF "at" (.int ((i : Int) + 1)) (cf l i))) = H0 at kc R1 ⊢
    obtain ⟨dr0, hro0⟩ := R1.rd
    refine ⟨_, rfl, r, CR, dr0, _, _, rfl, hro0, T.clReader, T.rUses, (rf_look _ _ _ _ _).2.2.2.1, _, _, rfl, rfl, dr0, _, hro0, by show 5 < 1000; decide, ?_⟩
    have R2 := R1.setu (dr := dr0) (uses - 1)
    have kc1 : Keep [c, r] H (upd H0 r (.ins CR dr0 (putF "uses" (.int (uses - 1)) (rf c n left uses e)))) := kc.trans (Keep.upd (by simp))
    generalize upd H0 r (.ins CR dr0 (putF "uses" (.int (uses - 1)) (rf c n left uses e))) = H1 at kc1 R2 ⊢
    obtain ⟨dx1, ho1⟩ := R2.cur.obj
    obtain ⟨dr1, hro1⟩ := R2.rd
    refine ⟨_, rfl, r, CR, dr1, _, _, rfl, hro1, T.clReader, T.rCursor, (rf_look _ _ _ _ _).1, c, dx1, _, rfl, ho1, cf_no _ _ (by decide +kernel) (by decide +kernel), _, rfl, r, CR, dr1, _, _, rfl, hro1, T.clReader, T.rNames, (rf_look _ _ _ _ _).2.1, c, l, n, ws, nm, i + 1, rfl, R2.cur, .inl (SqL.of R2.hn), fun x H2 e2 hx kp2 hc2 => ?_, fun bad => ?_⟩
    · have R3 := R2.toc kp2 hc2
      obtain ⟨dx2, ho2⟩ := R3.cur.obj
      obtain ⟨dr2, hro2⟩ := R3.rd
      have i2 : i + 2 ≤ ws.length := (List.getElem?_eq_some_iff.mp e2).1
      refine ⟨_, rfl, _, rfl, r, CR, dr2, _, _, rfl, hro2, T.clReader, T.rCursor, (rf_look _ _ _ _ _).1, c, dx2, _, rfl, ho2, cf_no _ _ (by decide +kernel) (by decide +kernel), _, rfl, r, CR, dr2, _, _, rfl, hro2, T.clReader, T.rNames, (rf_look _ _ _ _ _).2.1, _, rfl, r, CR, dr2, _, _, rfl, hro2, T.clReader, T.rExtra, (rf_look _ _ _ _ _).2.2.2.2, c, l, n, e, ws, nm, ex, i + 2, rfl, by decide, R3.cur, i2, R3.hn, R3.he, fun j a H3 ij jl kp3 hc3 ex3 m3 => ?_, fun k hk => ?_⟩
      · refine ⟨by show 3 ≤ sizeLine; decide, fun p hp => ?_⟩
        have R4 := R3.toc kp3 hc3
        refine k1 j p left (uses - 1) _ (by omega) jl (kc1.trans ((kp2.mono (by simp)).trans ((kp3.mono (by simp)).trans (Keep.new hp)))) (R4.same (same_new hp _)) hl0 (by have := hC.2.2; omega) ?_ (fun k st => ?_)
        · have pl : PlW (upd H3 p (.tup [.str "use", .str x, .ref a])) p (seg ws i j) := .inl ⟨"use", x, a, seg ws (i + 2) j, .inr rfl, upd_same, ex3.keep (Tk.new hp), by rw [seg_cons e2 (by omega), seg_cons hC.1 (by omega)]⟩
          cases d with
          | zero => exact pl
          | succ d => exact .inl pl
        · rw [st1, one_ok e2 hx]; exact m3 _ _
      · exact k3 k fun kk st => by rw [st1, one_ok e2 hx]; exact hk _ _
    · exact k3 (i + 1) fun kk st => by rw [st1]; exact one_fail bad
  refine ite_f2 (fun q z => ⟨_, rfl, r, CR, dr, _, _, rfl, hro, T.clReader, T.rNames, (rf_look _ _ _ _ _).2.1, _, .inl ⟨_, SqL.of R.hn, rfl⟩, by
    by_cases hn0 : nm = []
    · rw [emp_f hn0]; exact iteF z
    · rw [emp_t hn0]
      refine iteT ⟨_, rfl, r, CR, dr, _, _, rfl, hro, T.clReader, T.rUses, (rf_look _ _ _ _ _).2.2.2.1, _, rfl, ?_⟩
      have l0 : uses = 0 := Classical.byContradiction fun zz => hC ⟨of_decide_eq_true q, hn0, by omega⟩
      rw [show (uses != 0) = false by rw [l0]; rfl]
      exact iteF z⟩) (fun z => iteF z) ?_
  -- say
  refine ⟨_, rfl, wv_scal _ _, _, rfl, ?_⟩
  rw [wv_eq]
  by_cases hD : ws[i]? = some ("say" : Str) ∧ ex ≠ []
  · rw [decide_eq_true hD.1]
    refine iteT ⟨_, rfl, r, CR, dr, _, _, rfl, hro, T.clReader, T.rExtra, (rf_look _ _ _ _ _).2.2.2.2, _, .inr (.inl ⟨_, SqT.of R.he, rfl⟩), ?_⟩
    rw [emp_t hD.2]
    refine iteT ?_
    have i1 : i + 1 ≤ ws.length := (List.getElem?_eq_some_iff.mp hD.1).1
    have st1 : ∀ k st, M ws i (.blk d k :: st) ⟨nm, ex, left, uses⟩ = M ws (i + 1) (.val (nm ++ ex) 5 :: .blk d k.nx :: st) ⟨nm, ex, left, uses⟩ := fun k st => blk_stm hD.1 (stm_say hD.2)
    refine ⟨_, rfl, r, CR, dr, _, _, rfl, hro, T.clReader, T.rCursor, (rf_look _ _ _ _ _).1, c, CC, dx, _, _, rfl, ho, T.clCursor, T.cAt, cf_at _ _, _, _, rfl, rfl, dx, _, ho, by show 2 < 1000; decide, ?_⟩
    generalize upd H c (.ins CC dx (putF "at" (.int ((i : Int) + 1)) (cf l i))) = H1 at kc R1 ⊢
    obtain ⟨dx1, ho1⟩ := R1.cur.obj
    obtain ⟨dr1, hro1⟩ := R1.rd
    refine ⟨_, rfl, r, CR, dr1, _, _, rfl, hro1, T.clReader, T.rCursor, (rf_look _ _ _ _ _).1, c, dx1, _, rfl, ho1, cf_no _ _ (by decide +kernel) (by decide +kernel), _, rfl, r, CR, dr1, _, _, rfl, hro1, T.clReader, T.rNames, (rf_look _ _ _ _ _).2.1, _, rfl, r, CR, dr1, _, _, rfl, hro1, T.clReader, T.rExtra, (rf_look _ _ _ _ _).2.2.2.2, c, l, n, e, ws, nm, ex, i + 1, rfl, by decide, R1.cur, i1, R1.hn, R1.he, fun j a H3 ij jl kp3 hc3 ex3 m3 => ?_, fun k hk => ?_⟩
    · refine ⟨by show 2 ≤ sizeLine; decide, fun p hp => ?_⟩
      have R3 := R1.toc kp3 hc3
      refine k1 j p left uses _ (by omega) jl (kc.trans ((kp3.mono (by simp)).trans (Keep.new hp))) (R3.same (same_new hp _)) hl0 hu0 ?_ (fun k st => ?_)
      · have pl : PlW (upd H3 p (.tup [.str "say", .ref a])) p (seg ws i j) := .inr (.inl ⟨a, seg ws (i + 1) j, upd_same, ex3.keep (Tk.new hp), by rw [seg_cons hD.1 (by omega)]⟩)
        cases d with
        | zero => exact pl
        | succ d => exact .inl pl
      · rw [st1]; exact m3 _ _
    · exact k3 k fun kk st => by rw [st1]; exact hk _ _
  refine ite_f2 (fun q z => ⟨_, rfl, r, CR, dr, _, _, rfl, hro, T.clReader, T.rExtra, (rf_look _ _ _ _ _).2.2.2.2, _, .inr (.inl ⟨_, SqT.of R.he, rfl⟩), by rw [emp_f (by_not hD q)]; exact iteF z⟩) (fun z => iteF z) ?_
  -- if
  refine ⟨_, rfl, wv_scal _ _, _, rfl, ?_⟩
  rw [wv_eq]
  by_cases hE : ws[i]? = some ("if" : Str) ∧ ¬ d = 0
  · rw [decide_eq_true hE.1]
    refine iteT ⟨_, rfl, _, rfl, ?_⟩
    rw [show (((d : Nat) : Int) != 0) = true by have := hE.2; simp; omega]
    refine iteT ?_
    exact ⟨_, rfl, r, dr, _, rfl, hro, rf_no _ _ _ _ _ (by decide +kernel), _, rfl, r, c, l, n, e, ws, nm, ex, i, left, uses, rfl, R, hE.1, by have := hE.2; omega, hl0, hu0, k1, k3⟩
  refine ite_f2 (fun q z => ⟨_, rfl, _, rfl, by rw [show (((d : Nat) : Int) != 0) = false by rw [by_not hE q]; rfl]; exact iteF z⟩) (fun z => iteF z) ?_
  exact k2 fun x hx => stm_none (fun z => hA ⟨by rw [hx, z.1], z.2⟩) (fun z => hB ⟨by rw [hx, z.1], z.2⟩) (fun z => hC ⟨by rw [hx, z.1], z.2⟩) (fun z => hD ⟨by rw [hx, z.1], z.2⟩) (fun z => hE ⟨by rw [hx, z.1], by have := z.2; omega⟩)
theorem sc_Reader_choice : FnScope ["self", "room", "test", "then", "other", "ends"] ["self", "room"] (defScope s_Reader_choice) := ⟨rfl, rfl, rfl, by decide +kernel, rfl, by decide +kernel, by decide +kernel⟩
theorem ok_choice {f : Addr} {fd : FuncData} (F : Fun K "choice" "Reader.choice" s_Reader_choice f fd) (T : Txt P K mg CB fB CC CR CX aK aS)
    (GCursor_word : MetX P w K mg base (L2N.CX P w) 3 CC "word" (spWord K CB CC)) (GCursor_expression : MetX P w K mg base (L2N.CX P w) 8 CC "expression" (spExpr CB CC 5)) {d k : Nat} (hk8 : 8 ≤ k)
    (GReader_block : MetX P w K mg base (L2N.CX P w) k CR "block" (spBlock CB CC CR d)) : FnOk P w K mg base (L2N.CX P w) (k + 1) f fd ["self", "room"] (spChoice CB CC CR (d + 1)) := by
  refine okN F sc_Reader_choice (fun vs H Q E h => ?_) (fun cdv A outer s H vs Q E hr h => ?_)
  · obtain ⟨r, c, l, n, e, ws, nm, ex, i, left, uses, rfl, _⟩ := h
    rfl
  obtain ⟨r, c, l, n, e, ws, nm, ex, i, left, uses, rfl, R, hif, hd1, hl0, hu0, k1, k3⟩ := h
  refine ⟨_, (pss_cons (ps_fldaug (pe_fld (pv 0) rfl) pe_int in_add)
 (pss_cons (ps_set (i := 2) sc_Reader_choice.nd rfl (Or.inl rfl) (pe_mx (pe_fld (pv 0) rfl) T.clCursor GCursor_expression hr (pX rfl rfl rfl rfl) (pa_cons (pe_fld (pv 0) rfl) (pa_cons (pe_fld (pv 0) rfl) (pa_cons (pe_gl (by rfl) T.gDEEPEST) pa_nil)))))
 (pss_cons (ps_set (i := 3) sc_Reader_choice.nd rfl (Or.inl rfl) (pe_mx (pv 0) T.clReader GReader_block hr (pX rfl rfl rfl rfl) (pa_cons (pe_op op_sub (pv 1) pe_int) pa_nil)))
 (pss_cons (ps_set (i := 4) sc_Reader_choice.nd rfl (Or.inl rfl) (pe_tup pa_nil))
 (pss_cons (ps_set (i := 5) sc_Reader_choice.nd rfl (Or.inl rfl) (pe_ifExp (PW.pt (pw_or (pt_truth (pe_fld (pv 0) rfl) (by intro _; rfl)) (pw_or (pt_truth (pe_fld (pv 0) rfl) (by intro _; rfl)) (pw_or1 (pt_cmpR op_gt (pv 1) pe_int (nomark _)))))) (pe_tup (pa_cons pe_str (pa_cons pe_str pa_nil))) (pe_tup (pa_cons pe_str pa_nil))))
 (pss_cons (ps_if (pt_cmpR op_eq (pe_mx (pe_fld (pv 0) rfl) T.clCursor GCursor_word hr (pX rfl rfl rfl rfl) (pa_cons (pv 5) pa_nil)) pe_str (nomark _))
 (pss_cons (ps_set (i := 4) sc_Reader_choice.nd rfl (Or.inl rfl) (pe_mx (pv 0) T.clReader GReader_block hr (pX rfl rfl rfl rfl) (pa_cons (pe_op op_sub (pv 1) pe_int) pa_nil)))
 (pss_cons (ps_if (pt_not (pt_truth (pv 4) (by intro _; rfl)))
 (pss_one (ps_raiseBt rfl T.bt hr (L2N.takes_of rfl rfl rfl rfl) (pa_cons (pe_fld (pe_fld (pv 0) rfl) rfl) pa_nil)))
 pss_nil)
 (pss_one (ps_expr (pe_mx (pe_fld (pv 0) rfl) T.clCursor GCursor_word hr (pX rfl rfl rfl rfl) (pa_cons (pe_tup (pa_cons pe_str pa_nil)) pa_nil))))))
 pss_nil)
 (pss_one (ps_ret (pe_tup (pa_cons pe_str (pa_cons (pv 2) (pa_cons (pv 3) (pa_cons (pv 4) pa_nil))))))))))))), ?_⟩
  obtain ⟨dx, ho⟩ := R.cur.obj
  obtain ⟨dr, hro⟩ := R.rd
  have kc : Keep [c, r] H (upd H c (.ins CC dx (putF "at" (.int ((i : Int) + 1)) (cf l i)))) := Keep.upd (by simp)
  have R1 := R.bump ho
  have i1 : i + 1 ≤ ws.length := (List.getElem?_eq_some_iff.mp hif).1
  have ed : (((d + 1 : Nat) : Int) - 1) = (d : Int) := by omega
  have st1 : ∀ k st, M ws i (.blk ((d + 1 : Nat) : Int) k :: st) ⟨nm, ex, left, uses⟩ = M ws (i + 1) (.val (nm ++ ex) 5 :: .blk d .thn :: .blk ((d + 1 : Nat) : Int) k.nx :: st) ⟨nm, ex, left, uses⟩ := fun k st => by
    have q := blk_stm (st := st) (k := k) hif (stm_if (r := ((d + 1 : Nat) : Int)) (sc := ⟨nm, ex, left, uses⟩) (by omega))
    rw [ed] at q
    exact q
  refine ⟨_, rfl, r, CR, dr, _, _, rfl, hro, T.clReader, T.rCursor, (rf_look _ _ _ _ _).1, c, CC, dx, _, _, rfl, ho, T.clCursor, T.cAt, cf_at _ _, _, _, rfl, rfl, dx, _, ho, by show 2 < 1000; decide, ?_⟩
  generalize upd H c (.ins CC dx (putF "at" (.int ((i : Int) + 1)) (cf l i))) = H1 at kc R1 ⊢
  obtain ⟨dx1, ho1⟩ := R1.cur.obj
  obtain ⟨dr1, hro1⟩ := R1.rd
  -- test
  refine ⟨_, rfl, r, CR, dr1, _, _, rfl, hro1, T.clReader, T.rCursor, (rf_look _ _ _ _ _).1, c, dx1, _, rfl, ho1, cf_no _ _ (by decide +kernel) (by decide +kernel), _, rfl, r, CR, dr1, _, _, rfl, hro1, T.clReader, T.rNames, (rf_look _ _ _ _ _).2.1, _, rfl, r, CR, dr1, _, _, rfl, hro1, T.clReader, T.rExtra, (rf_look _ _ _ _ _).2.2.2.2, c, l, n, e, ws, nm, ex, i + 1, rfl, by decide, R1.cur, i1, R1.hn, R1.he, fun j1 ta H2 ij1 jl1 kp2 hc2 ex2 m2 => ?_, fun k hk => k3 k fun kk st => by rw [st1]; exact hk _ _⟩
  have R2 := R1.toc kp2 hc2
  obtain ⟨dr2, hro2⟩ := R2.rd
  have ev : [V.ref r, V.int (((d + 1 : Nat) : Int) - 1)] ++ [] = [V.ref r, V.int (d : Int)] := by rw [ed]; rfl
  -- then
  refine ⟨_, rfl, r, dr2, _, rfl, hro2, rf_no _ _ _ _ _ (by decide +kernel), _, rfl, _, _, rfl, rfl, r, c, l, n, e, ws, nm, ex, j1, left, uses, ev, R2, jl1, hl0, hu0, fun j2 tt rt left3 uses3 H3 ij2 jl2 kp3 R3 hl3 hu3 bl3 ew3 ns3 m3 => ?_, fun k hk => k3 k fun kk st => by rw [st1]; exact (m2 _ _).trans (hk _ _)⟩
  have m3' : ∀ k st, M ws i (.blk ((d + 1 : Nat) : Int) k :: st) ⟨nm, ex, left, uses⟩ = M ws j2 (.blk d .thn :: .blk ((d + 1 : Nat) : Int) k.nx :: st) ⟨nm, ex, left3, uses3⟩ := fun k st => by
    rw [st1]
    refine (m2 _ _).trans ((m3 _ _).trans ?_)
    split <;> rfl
  -- other = ()
  refine ⟨Nat.zero_le _, fun o hno => ?_⟩
  have R4 := R3.same (same_new hno (.tup []))
  have ho4 : (upd H3 o (.tup ([] : List V))) o = some (.tup []) := upd_same
  have kp4 : Keep [c, r] H3 (upd H3 o (.tup [])) := Keep.new hno
  generalize upd H3 o (.tup ([] : List V)) = H4 at R4 ho4 kp4 ⊢
  obtain ⟨dx4, ho4c⟩ := R4.cur.obj
  obtain ⟨dr4, hro4⟩ := R4.rd
  have kpA : Keep [c, r] H H4 := kc.trans ((kp2.mono (by simp)).trans (kp3.trans kp4))
  have exA : ExW H4 5 ta (seg ws (i + 1) j1) := ex2.keep ((R2.tk kp3).trans (R3.tk kp4))
  have blA : BlL (StW H4 d) H4 tt rt := bl3.keep (R3.tk kp4)
  -- what follows ends
  have segA : seg ws i j2 = ("if" : Str) :: (seg ws (i + 1) j1 ++ wsOf rt) := by rw [ew3, seg_cat (by omega) (by omega), seg_cons hif (by omega)]
  have closeA : ∀ (j p : Nat) (pa : Addr) (oa : Addr) (ro : List (Addr × List Str)) (left' uses' : Int) (H5 H' : Hp), j2 ≤ p → ws[p]? = some ("end" : Str) → p + 1 ≤ ws.length → elseW ro = seg ws j2 p → Keep [c, r] H4 H5 → RdAt CC CR H5 r c l n e ws (p + 1) nm ex left' uses' → 0 ≤ left' → 0 ≤ uses' → BlL (StW H5 d) H5 oa ro →
      (∀ k st, M ws i (.blk ((d + 1 : Nat) : Int) k :: st) ⟨nm, ex, left, uses⟩ = M ws (p + 1) (.blk ((d + 1 : Nat) : Int) k.nx :: st) ⟨nm, ex, left', uses'⟩) → H5 pa = none → Q (.ref pa) (upd H5 pa (.tup [.str "if", .ref ta, .ref tt, .ref oa])) := fun j p pa oa ro left' uses' H5 H' h1 h2 h3 h4 h5 h6 h7 h8 h9 h10 h11 => by
    refine k1 (p + 1) pa left' uses' _ (by omega) h3 (kpA.trans (h5.trans (Keep.new h11))) (h6.same (same_new h11 _)) h7 h8 ?_ h10
    have tk5 := (R4.tk h5).trans (Tk.new (o := .tup [.str "if", .ref ta, .ref tt, .ref oa]) h11)
    refine .inr ⟨ta, tt, oa, seg ws (i + 1) j1, rt, ro, upd_same, exA.keep tk5, blA.keep tk5, h9.keep (Tk.new h11), ?_⟩
    rw [h4, ← seg_cat (show i ≤ j2 by omega) (show j2 ≤ p + 1 by omega), ← seg_cat h1 (show p ≤ p + 1 by omega), seg_one h2, segA]
    simp
  have endE : decide (V.str ("end" : Str) = V.str ("else" : Str)) = false := decide_eq_false (fun z => absurd (V.str.inj z) (by decide +kernel))
  refine ⟨_, rfl, r, CR, dr4, _, _, rfl, hro4, T.clReader, T.rNames, (rf_look _ _ _ _ _).2.1, _, .inl ⟨_, SqL.of R4.hn, rfl⟩, ?_⟩
  by_cases hp : possible d ⟨nm, ex, left3, uses3⟩ = true
  · refine ite_t2 (fun z => iteT z) (fun q z => ⟨_, rfl, r, CR, dr4, _, _, rfl, hro4, T.clReader, T.rExtra, (rf_look _ _ _ _ _).2.2.2.2, _, .inr (.inl ⟨_, SqT.of R4.he, rfl⟩), ite_t2 (fun z => iteT z) (fun q2 z => ⟨_, rfl, _, _, rfl, rfl, _, rfl, by
      have n0 : nm = [] := Classical.byContradiction fun y => by rw [emp_t y] at q; cases q
      have e0 : ex = [] := Classical.byContradiction fun y => by rw [emp_t y] at q2; cases q2
      have d0 : (d : Int) > 0 := by simpa [possible, n0, e0] using hp
      rw [decide_eq_true (show (1 : Int) < ((d + 1 : Nat) : Int) by omega)]
      exact iteT z⟩) z⟩) ?_
    refine ⟨by show 2 ≤ sizeLine; decide, fun q hq => ?_⟩
    have R5 := R4.same (same_new hq (.tup [.str "else", .str "end"]))
    have hq5 : (upd H4 q (.tup [V.str "else", V.str "end"])) q = some (.tup (([("else" : Str), ("end" : Str)] : List Str).map V.str)) := upd_same
    have ho5 : (upd H4 q (.tup [V.str "else", V.str "end"])) o = some (.tup []) := same_new hq _ _ _ ho4
    have kp5 : Keep [c, r] H4 (upd H4 q (.tup [V.str "else", V.str "end"])) := Keep.new hq
    generalize upd H4 q (.tup [V.str "else", V.str "end"]) = H5 at R5 hq5 ho5 kp5 ⊢
    obtain ⟨dx5, ho5c⟩ := R5.cur.obj
    obtain ⟨dr5, hro5⟩ := R5.rd
    refine ⟨_, rfl, r, CR, dr5, _, _, rfl, hro5, T.clReader, T.rCursor, (rf_look _ _ _ _ _).1, c, dx5, _, rfl, ho5c, cf_no _ _ (by decide +kernel) (by decide +kernel), _, rfl, c, l, q, ws, [("else" : Str), ("end" : Str)], j2, rfl, R5.cur, .inr (SqT.of hq5), fun x H6 e6 hx kp6 hc6 => ?_, fun bad => ?_⟩
    · have R6 := R5.toc kp6 hc6
      have jl2' : j2 + 1 ≤ ws.length := (List.getElem?_eq_some_iff.mp e6).1
      obtain ⟨dr6, hro6⟩ := R6.rd
      have ho6 : H6 o = some (.tup []) := R5.tk (kp6.mono (by simp)) _ _ ho5
      have hx' : x = "else" ∨ x = "end" := by simpa using hx
      rcases hx' with rfl | rfl
      · -- else
        refine ⟨rfl, _, rfl, ?_⟩
        rw [decide_eq_true rfl]
        have ev2 : ∀ q, [V.ref r, V.int (((d + 1 : Nat) : Int) - 1)] ++ q = [V.ref r, V.int (d : Int)] ++ q := fun q => by rw [ed]
        refine iteT ⟨_, rfl, r, dr6, _, rfl, hro6, rf_no _ _ _ _ _ (by decide +kernel), _, rfl, _, _, rfl, rfl, r, c, l, n, e, ws, nm, ex, j2 + 1, left3, uses3, ev2 [], R6, jl2', hl3, hu3, fun j7 ot ro left7 uses7 H7 ij7 jl7 kp7 R7 hl7 hu7 bl7 ew7 ns7 m7 => ?_, fun k hk => k3 k fun kk st => by rw [m3', blk_else e6 hp]; exact hk _ _⟩
        obtain ⟨dx7, ho7⟩ := R7.cur.obj
        obtain ⟨dr7, hro7⟩ := R7.rd
        have mE : ∀ k st, M ws i (.blk ((d + 1 : Nat) : Int) k :: st) ⟨nm, ex, left, uses⟩ = M ws j7 (.blk d (if ro = [] then Kd.emp else Kd.emp.nx) :: .blk ((d + 1 : Nat) : Int) k.nx :: st) ⟨nm, ex, left7, uses7⟩ := fun k st => by rw [m3', blk_else e6 hp]; exact m7 _ _
        refine ⟨_, rfl, _, .inr (.inl ⟨_, SqT.of bl7.1, rfl⟩), ?_⟩
        by_cases hro0 : ro = []
        · rw [emp_f hro0]
          refine iteT ?_
          refine ⟨_, rfl, r, CR, dr7, _, _, rfl, hro7, T.clReader, T.rCursor, (rf_look _ _ _ _ _).1, c, CC, dx7, _, _, rfl, ho7, T.clCursor, T.cAt, cf_at _ _, _, rfl, fun d' hd' => k3 j7 (fun kk st => ?_) _ d' upd_same⟩
          rw [mE, if_pos hro0]
          cases e7 : ws[j7]? with
          | none => exact blk_end e7 (by decide)
          | some y => exact blk_bad ns7 e7 (fun z => by rcases z.2 with z | z <;> cases z) (fun z => by cases z.2.1) (fun z => by cases z.2)
        · rw [emp_t hro0]
          refine iteF ?_
          refine ⟨_, rfl, r, CR, dr7, _, _, rfl, hro7, T.clReader, T.rCursor, (rf_look _ _ _ _ _).1, c, dx7, _, rfl, ho7, cf_no _ _ (by decide +kernel) (by decide +kernel), by show 1 ≤ sizeLine; decide, fun q2 hq2 => ?_⟩
          have R8 := R7.same (same_new hq2 (.tup [.str "end"]))
          have hq8 : (upd H7 q2 (.tup [V.str "end"])) q2 = some (.tup (([("end" : Str)] : List Str).map V.str)) := upd_same
          have kp8 : Keep [c, r] H7 (upd H7 q2 (.tup [V.str "end"])) := Keep.new hq2
          generalize upd H7 q2 (.tup [V.str "end"]) = H8 at R8 hq8 kp8 ⊢
          refine ⟨c, l, q2, ws, [("end" : Str)], j7, rfl, R8.cur, .inr (SqT.of hq8), fun y H9 e9 hy kp9 hc9 => ?_, fun bad => ?_⟩
          · have R9 := R8.toc kp9 hc9
            have hy' : y = "end" := by simpa using hy
            subst hy'
            refine ⟨_, rfl, _, rfl, _, rfl, by show 4 ≤ sizeLine; decide, fun p hpn => ?_⟩
            have jl9 : j7 + 1 ≤ ws.length := (List.getElem?_eq_some_iff.mp e9).1
            refine closeA 0 j7 p ot ro left7 uses7 H9 H9 (by omega) e9 jl9 ?_ (kp5.trans ((kp6.mono (by simp)).trans (kp7.trans (kp8.trans (kp9.mono (by simp)))))) R9 hl7 hu7 (bl7.keep ((R7.tk kp8).trans (R8.tk (kp9.mono (by simp))))) (fun k st => ?_) hpn
            · unfold elseW; rw [if_neg hro0, ew7, seg_cons e6 (by omega)]
            · rw [mE, if_neg hro0]; exact blk_close e9 (.inr rfl)
          · refine k3 j7 fun kk st => ?_
            rw [mE, if_neg hro0]
            cases e7 : ws[j7]? with
            | none => exact blk_end e7 (by decide)
            | some y => exact blk_bad ns7 e7 (fun z => bad y e7 (by rw [z.1]; simp)) (fun z => by cases z.2.1) (fun z => by cases z.2)
      · -- end
        refine ⟨rfl, _, rfl, ?_⟩
        rw [endE]
        refine iteF ⟨_, rfl, _, rfl, _, rfl, by show 4 ≤ sizeLine; decide, fun p hpn => ?_⟩
        refine closeA 0 j2 p o [] left3 uses3 H6 H6 (Nat.le_refl _) e6 jl2' (by rw [seg_nil]; rfl) (kp5.trans (kp6.mono (by simp))) R6 hl3 hu3 ⟨ho6, fun y hy => by cases hy⟩ (fun k st => ?_) hpn
        rw [m3']; exact blk_close e6 (.inl rfl)
    · refine k3 j2 fun kk st => ?_
      rw [m3']
      cases e7 : ws[j2]? with
      | none => exact blk_end e7 (by decide)
      | some y => exact blk_bad ns3 e7 (fun z => bad y e7 (by rw [z.1]; simp)) (fun z => bad y e7 (by rw [z.1]; simp)) (fun z => by cases z.2)
  · have n0 : nm = [] := Classical.byContradiction fun y => hp (by simp [possible, y])
    have e0 : ex = [] := Classical.byContradiction fun y => hp (by simp [possible, y])
    have d0 : d = 0 := Classical.byContradiction fun y => hp (by simp [possible]; omega)
    rw [emp_f n0]
    refine iteF ⟨_, rfl, r, CR, dr4, _, _, rfl, hro4, T.clReader, T.rExtra, (rf_look _ _ _ _ _).2.2.2.2, _, .inr (.inl ⟨_, SqT.of R4.he, rfl⟩), ?_⟩
    rw [emp_f e0]
    refine iteF ⟨_, rfl, _, _, rfl, rfl, _, rfl, ?_⟩
    rw [decide_eq_false (show ¬ (1 : Int) < ((d + 1 : Nat) : Int) by omega)]
    refine iteF ⟨by show 1 ≤ sizeLine; decide, fun q hq => ?_⟩
    have R5 := R4.same (same_new hq (.tup [.str "end"]))
    have hq5 : (upd H4 q (.tup [V.str "end"])) q = some (.tup (([("end" : Str)] : List Str).map V.str)) := upd_same
    have ho5 : (upd H4 q (.tup [V.str "end"])) o = some (.tup []) := same_new hq _ _ _ ho4
    have kp5 : Keep [c, r] H4 (upd H4 q (.tup [V.str "end"])) := Keep.new hq
    generalize upd H4 q (.tup [V.str "end"]) = H5 at R5 hq5 ho5 kp5 ⊢
    obtain ⟨dx5, ho5c⟩ := R5.cur.obj
    obtain ⟨dr5, hro5⟩ := R5.rd
    refine ⟨_, rfl, r, CR, dr5, _, _, rfl, hro5, T.clReader, T.rCursor, (rf_look _ _ _ _ _).1, c, dx5, _, rfl, ho5c, cf_no _ _ (by decide +kernel) (by decide +kernel), _, rfl, c, l, q, ws, [("end" : Str)], j2, rfl, R5.cur, .inr (SqT.of hq5), fun x H6 e6 hx kp6 hc6 => ?_, fun bad => ?_⟩
    · have R6 := R5.toc kp6 hc6
      have jl2' : j2 + 1 ≤ ws.length := (List.getElem?_eq_some_iff.mp e6).1
      have ho6 : H6 o = some (.tup []) := R5.tk (kp6.mono (by simp)) _ _ ho5
      have hx' : x = "end" := by simpa using hx
      subst hx'
      refine ⟨rfl, _, rfl, ?_⟩
      rw [endE]
      refine iteF ⟨_, rfl, _, rfl, _, rfl, by show 4 ≤ sizeLine; decide, fun p hpn => ?_⟩
      refine closeA 0 j2 p o [] left3 uses3 H6 H6 (Nat.le_refl _) e6 jl2' (by rw [seg_nil]; rfl) (kp5.trans (kp6.mono (by simp))) R6 hl3 hu3 ⟨ho6, fun y hy => by cases hy⟩ (fun k st => ?_) hpn
      rw [m3']; exact blk_close e6 (.inl rfl)
    · refine k3 j2 fun kk st => ?_
      rw [m3']
      cases e7 : ws[j2]? with
      | none => exact blk_end e7 (by decide)
      | some y => exact blk_bad ns3 e7 (fun z => bad y e7 (by rw [z.1]; simp)) (fun z => hp z.2.2) (fun z => by cases z.2)
theorem sc_Reader_block : FnScope ["self", "room", "found", "statement"] ["self", "room"] (defScope s_Reader_block) := ⟨rfl, rfl, rfl, by decide +kernel, rfl, by decide +kernel, by decide +kernel⟩
theorem ok_block {f : Addr} {fd : FuncData} (F : Fun K "block" "Reader.block" s_Reader_block f fd) (T : Txt P K mg CB fB CC CR CX aK aS) {d k : Nat}
    (GReader_statement : MetX P w K mg base (L2N.CX P w) k CR "statement" (spStmt CB CC CR d)) : FnOk P w K mg base (L2N.CX P w) (k + 1) f fd ["self", "room"] (spBlock CB CC CR d) := by
  refine okN F sc_Reader_block (fun vs H Q E h => ?_) (fun cdv A outer s H vs Q E hr h => ?_)
  · obtain ⟨r, c, l, n, e, ws, nm, ex, i, left, uses, rfl, _⟩ := h
    rfl
  obtain ⟨r, c, l, n, e, ws, nm, ex, i, left, uses, rfl, R, hi, hl0, hu0, k1, k3⟩ := h
  refine ⟨_, (pss_cons (ps_set (i := 2) sc_Reader_block.nd rfl (Or.inl rfl) (pe_lst pa_nil))
 (pss_cons (ps_set (i := 3) sc_Reader_block.nd rfl (Or.inl rfl) (pe_mx (pv 0) T.clReader GReader_statement hr (pX rfl rfl rfl rfl) (pa_cons (pv 1) pa_nil)))
 (pss_cons (ps_while (passes_of rfl) (pt_cmpR op_notN (pv 3) pe_non (nomark _))
 (pss_cons (ps_expr (pe_bm PySem.F.plainAttrs_list PySem.F.slot_list_append PySem.F.type_list_append mt_append (pv 2) (pa_cons (pv 3) pa_nil)))
 (pss_one (ps_set (i := 3) sc_Reader_block.nd rfl (Or.inl rfl) (pe_mx (pv 0) T.clReader GReader_statement hr (pX rfl rfl rfl rfl) (pa_cons (pv 1) pa_nil))))))
 (pss_one (ps_ret (pe_callTy call_tuple_of (by rfl) T.tuple_ (by decide +kernel) (pa_cons (pv 2) pa_nil))))))), ?_⟩
  let SC : Int → Int → Sc := fun a b => ⟨nm, ex, a, b⟩
  refine ⟨Nat.zero_le _, fun fl hfl => ?_⟩
  obtain ⟨ac, ar, al, an, ae⟩ := R.apart hfl
  have R1 : RdAt CC CR (upd H fl (.lst [])) r c l n e ws i nm ex left uses := R.same (same_new hfl _)
  have hf1 : (upd H fl (.lst ([] : List V))) fl = some (.lst []) := upd_same
  have kp1 : Keep [c, r] H (upd H fl (.lst [])) := Keep.new hfl
  generalize upd H fl (.lst ([] : List V)) = H1 at R1 hf1 kp1 ⊢
  obtain ⟨dr1, hro1⟩ := R1.rd
  refine ⟨_, rfl, r, dr1, _, rfl, hro1, rf_no _ _ _ _ _ (by decide +kernel), _, rfl, r, c, l, n, e, ws, nm, ex, i, left, uses, rfl, R1, hi, hl0, hu0, fun j3 a3 left3 uses3 H3 ij3 jl3 kp3 R3 hl3 hu3 st3 m3 => ?_, fun ns => ?_, fun k0 hk => k3 k0 hk⟩
  · skip
    refine ⟨fun m σ H' => ∃ (v : V) (j : Nat) (rs : List (Addr × List Str)) (left' uses' : Int), σ = [some (.ref r), some (.int d), some (.ref fl), some v] ∧ i ≤ j ∧ j ≤ ws.length ∧ Keep [c, r] H H' ∧ RdAt CC CR H' r c l n e ws j nm ex left' uses' ∧ 0 ≤ left' ∧ 0 ≤ uses' ∧
      H' fl = some (.lst (rs.map fun p => .ref p.1)) ∧ (∀ p ∈ rs, StW H' d p.1 p.2) ∧
      ((v = .non ∧ m = ws.length - j ∧ wsOf rs = seg ws i j ∧ NoSt ws j d ⟨nm, ex, left', uses'⟩ ∧ (∀ k st, M ws i (.blk d k :: st) ⟨nm, ex, left, uses⟩ = M ws j (.blk d (if rs = [] then k else k.nx) :: st) ⟨nm, ex, left', uses'⟩)) ∨
        (∃ (a : Addr) (x : List Str), v = .ref a ∧ m = ws.length - j + 1 ∧ StW H' d a x ∧ wsOf rs ++ x = seg ws i j ∧ rs.length < j ∧ (∀ k st, M ws i (.blk d k :: st) ⟨nm, ex, left, uses⟩ = M ws j (.blk d k.nx :: st) ⟨nm, ex, left', uses'⟩))), ?_, ?_⟩
    · exact ⟨_, .ref a3, j3, [], left3, uses3, rfl, by omega, jl3, kp1.trans kp3, R3, hl3, hu3, kp3 _ _ hf1 (by simp; exact ⟨ac.symm, ar.symm⟩), (fun p hp => by cases hp), .inr ⟨a3, seg ws i j3, rfl, rfl, st3, rfl, by show 0 < j3; omega, m3⟩⟩
    · skip
      rintro m σ H' ⟨v, j, rs, left', uses', rfl, ij, jl, kp, R', hl', hu', hf, hrs, hv⟩
      refine ⟨_, rfl, rfl, _, rfl, ?_⟩
      rcases hv with ⟨rfl, rfl, ew, ns, mm⟩ | ⟨a, x, rfl, rfl, hst, ew, hlen, mm⟩
      · refine iteF ⟨_, rfl, fl, _, rfl, .inl ⟨SqL.of hf, fun p hp => ?_⟩⟩
        exact k1 j p rs left' uses' _ ij jl (kp.trans (Keep.new hp)) (R'.same (same_new hp _)) hl' hu' ⟨upd_same, fun q hq => (hrs q hq).keep (Tk.new hp)⟩ ew ns mm
      · refine iteT ⟨_, fun σ' H' z => z, ?_⟩
        refine ⟨_, rfl, .inl ⟨rfl, _, SqL.of hf⟩, _, rfl, fl, _, _, rfl, rfl, hf, ?_, ?_⟩
        · rw [List.length_map]; have := R'.cur.nl; omega
        have R2 := R'.other (o := .lst ((rs.map fun p => V.ref p.1) ++ [.ref a])) ac ar al an ae
        have tk2 : Tk H' (upd H' fl (.lst ((rs.map fun p => V.ref p.1) ++ [.ref a]))) := Tk.upd hf (by intro xs z; cases z)
        have kp2 : Keep [c, r] H (upd H' fl (.lst ((rs.map fun p => V.ref p.1) ++ [.ref a]))) := fun b o hb hn => by rw [upd_ne (ne_of_none hb hfl)]; exact kp b o hb hn
        have hf2 : (upd H' fl (.lst ((rs.map fun p => V.ref p.1) ++ [.ref a]))) fl = some (.lst ((rs ++ [(a, x)]).map fun p => .ref p.1)) := by rw [upd_same, List.map_append]; rfl
        have hrs2 : ∀ p ∈ rs ++ [(a, x)], StW (upd H' fl (.lst ((rs.map fun p => V.ref p.1) ++ [.ref a]))) d p.1 p.2 := fun p hp => by
          rcases List.mem_append.mp hp with hp | hp
          · exact (hrs p hp).keep tk2
          · have : p = (a, x) := by simpa using hp
            subst this; exact hst.keep tk2
        have ew2 : wsOf (rs ++ [(a, x)]) = seg ws i j := by rw [← ew]; simp [wsOf]
        have ne2 : rs ++ [(a, x)] ≠ [] := by simp
        have len2 : (rs ++ [(a, x)]).length ≤ j := by simp; omega
        generalize rs ++ [(a, x)] = rs2 at hf2 hrs2 ew2 ne2 len2
        generalize upd H' fl (.lst ((rs.map fun p => V.ref p.1) ++ [.ref a])) = H2 at R2 kp2 hf2 hrs2 ⊢
        obtain ⟨dr2, hro2⟩ := R2.rd
        have fr2 : fl ∉ [c, r] := by simp; exact ⟨ac.symm, ar.symm⟩
        refine ⟨_, rfl, r, dr2, _, rfl, hro2, rf_no _ _ _ _ _ (by decide +kernel), _, rfl, r, c, l, n, e, ws, nm, ex, j, left', uses', rfl, R2, jl, hl', hu', fun j3 a3 left3 uses3 H3 ij3 jl3 kp3 R3 hl3 hu3 st3 m3 => ?_, fun ns => ?_, fun k0 hk => k3 k0 fun kk st => by rw [mm]; exact hk _ _⟩
        · exact ⟨ws.length - j3 + 1, by omega, .ref a3, j3, rs2, left3, uses3, rfl, by omega, jl3, kp2.trans kp3, R3, hl3, hu3, kp3 _ _ hf2 fr2, fun p hp => (hrs2 p hp).keep (R2.tk kp3), .inr ⟨a3, seg ws j j3, rfl, rfl, st3, by rw [ew2, seg_cat ij (by omega)], by omega, fun kk st => by rw [mm, m3]; cases kk <;> rfl⟩⟩
        · exact ⟨ws.length - j, by omega, .non, j, rs2, left', uses', rfl, ij, jl, kp2, R2, hl', hu', hf2, hrs2, .inl ⟨rfl, rfl, ew2, ns, fun kk st => by rw [mm, if_neg ne2]⟩⟩
  · skip
    refine ⟨fun m σ H' => ∃ (v : V) (j : Nat) (rs : List (Addr × List Str)) (left' uses' : Int), σ = [some (.ref r), some (.int d), some (.ref fl), some v] ∧ i ≤ j ∧ j ≤ ws.length ∧ Keep [c, r] H H' ∧ RdAt CC CR H' r c l n e ws j nm ex left' uses' ∧ 0 ≤ left' ∧ 0 ≤ uses' ∧
      H' fl = some (.lst (rs.map fun p => .ref p.1)) ∧ (∀ p ∈ rs, StW H' d p.1 p.2) ∧
      ((v = .non ∧ m = ws.length - j ∧ wsOf rs = seg ws i j ∧ NoSt ws j d ⟨nm, ex, left', uses'⟩ ∧ (∀ k st, M ws i (.blk d k :: st) ⟨nm, ex, left, uses⟩ = M ws j (.blk d (if rs = [] then k else k.nx) :: st) ⟨nm, ex, left', uses'⟩)) ∨
        (∃ (a : Addr) (x : List Str), v = .ref a ∧ m = ws.length - j + 1 ∧ StW H' d a x ∧ wsOf rs ++ x = seg ws i j ∧ rs.length < j ∧ (∀ k st, M ws i (.blk d k :: st) ⟨nm, ex, left, uses⟩ = M ws j (.blk d k.nx :: st) ⟨nm, ex, left', uses'⟩))), ?_, ?_⟩
    · exact ⟨_, .non, i, [], left, uses, rfl, Nat.le_refl _, hi, kp1, R1, hl0, hu0, hf1, (fun p hp => by cases hp), .inl ⟨rfl, rfl, by rw [seg_nil]; rfl, ns, fun kk st => rfl⟩⟩
    · skip
      rintro m σ H' ⟨v, j, rs, left', uses', rfl, ij, jl, kp, R', hl', hu', hf, hrs, hv⟩
      refine ⟨_, rfl, rfl, _, rfl, ?_⟩
      rcases hv with ⟨rfl, rfl, ew, ns, mm⟩ | ⟨a, x, rfl, rfl, hst, ew, hlen, mm⟩
      · refine iteF ⟨_, rfl, fl, _, rfl, .inl ⟨SqL.of hf, fun p hp => ?_⟩⟩
        exact k1 j p rs left' uses' _ ij jl (kp.trans (Keep.new hp)) (R'.same (same_new hp _)) hl' hu' ⟨upd_same, fun q hq => (hrs q hq).keep (Tk.new hp)⟩ ew ns mm
      · refine iteT ⟨_, fun σ' H' z => z, ?_⟩
        refine ⟨_, rfl, .inl ⟨rfl, _, SqL.of hf⟩, _, rfl, fl, _, _, rfl, rfl, hf, ?_, ?_⟩
        · rw [List.length_map]; have := R'.cur.nl; omega
        have R2 := R'.other (o := .lst ((rs.map fun p => V.ref p.1) ++ [.ref a])) ac ar al an ae
        have tk2 : Tk H' (upd H' fl (.lst ((rs.map fun p => V.ref p.1) ++ [.ref a]))) := Tk.upd hf (by intro xs z; cases z)
        have kp2 : Keep [c, r] H (upd H' fl (.lst ((rs.map fun p => V.ref p.1) ++ [.ref a]))) := fun b o hb hn => by rw [upd_ne (ne_of_none hb hfl)]; exact kp b o hb hn
        have hf2 : (upd H' fl (.lst ((rs.map fun p => V.ref p.1) ++ [.ref a]))) fl = some (.lst ((rs ++ [(a, x)]).map fun p => .ref p.1)) := by rw [upd_same, List.map_append]; rfl
        have hrs2 : ∀ p ∈ rs ++ [(a, x)], StW (upd H' fl (.lst ((rs.map fun p => V.ref p.1) ++ [.ref a]))) d p.1 p.2 := fun p hp => by
          rcases List.mem_append.mp hp with hp | hp
          · exact (hrs p hp).keep tk2
          · have : p = (a, x) := by simpa using hp
            subst this; exact hst.keep tk2
        have ew2 : wsOf (rs ++ [(a, x)]) = seg ws i j := by rw [← ew]; simp [wsOf]
        have ne2 : rs ++ [(a, x)] ≠ [] := by simp
        have len2 : (rs ++ [(a, x)]).length ≤ j := by simp; omega
        generalize rs ++ [(a, x)] = rs2 at hf2 hrs2 ew2 ne2 len2
        generalize upd H' fl (.lst ((rs.map fun p => V.ref p.1) ++ [.ref a])) = H2 at R2 kp2 hf2 hrs2 ⊢
        obtain ⟨dr2, hro2⟩ := R2.rd
        have fr2 : fl ∉ [c, r] := by simp; exact ⟨ac.symm, ar.symm⟩
        refine ⟨_, rfl, r, dr2, _, rfl, hro2, rf_no _ _ _ _ _ (by decide +kernel), _, rfl, r, c, l, n, e, ws, nm, ex, j, left', uses', rfl, R2, jl, hl', hu', fun j3 a3 left3 uses3 H3 ij3 jl3 kp3 R3 hl3 hu3 st3 m3 => ?_, fun ns => ?_, fun k0 hk => k3 k0 fun kk st => by rw [mm]; exact hk _ _⟩
        · exact ⟨ws.length - j3 + 1, by omega, .ref a3, j3, rs2, left3, uses3, rfl, by omega, jl3, kp2.trans kp3, R3, hl3, hu3, kp3 _ _ hf2 fr2, fun p hp => (hrs2 p hp).keep (R2.tk kp3), .inr ⟨a3, seg ws j j3, rfl, rfl, st3, by rw [ew2, seg_cat ij (by omega)], by omega, fun kk st => by rw [mm, m3]; cases kk <;> rfl⟩⟩
        · exact ⟨ws.length - j, by omega, .non, j, rs2, left', uses', rfl, ij, jl, kp2, R2, hl', hu', hf2, hrs2, .inl ⟨rfl, rfl, ew2, ns, fun kk st => by rw [mm, if_neg ne2]⟩⟩
end
end Nt

set_option Elab.async false
set_option linter.all false
set_option maxRecDepth 100000
set_option maxHeartbeats 2000000
namespace Nt
open PySem L2
def bf (b a : Int) (v s t : Addr) : List (Str × V) := [("buttons", .int b), ("answers", .int a), ("variables", .ref v), ("start", .ref s), ("block", .ref t)]
theorem bf_look (b a : Int) (v s t : Addr) : (bf b a v s t).lookup ("buttons" : Str) = some (.int b) ∧ (bf b a v s t).lookup ("answers" : Str) = some (.int a) ∧ (bf b a v s t).lookup ("variables" : Str) = some (.ref v) ∧
    (bf b a v s t).lookup ("start" : Str) = some (.ref s) ∧ (bf b a v s t).lookup ("block" : Str) = some (.ref t) := by
  unfold bf
  refine ⟨?_, ?_, ?_, ?_, ?_⟩ <;> simp only [List.lookup, show (("answers" : Str) == "buttons") = false from by decide +kernel, show (("variables" : Str) == "buttons") = false from by decide +kernel, show (("variables" : Str) == "answers") = false from by decide +kernel,
    show (("start" : Str) == "buttons") = false from by decide +kernel, show (("start" : Str) == "answers") = false from by decide +kernel, show (("start" : Str) == "variables") = false from by decide +kernel, show (("block" : Str) == "buttons") = false from by decide +kernel,
    show (("block" : Str) == "answers") = false from by decide +kernel, show (("block" : Str) == "variables") = false from by decide +kernel, show (("block" : Str) == "start") = false from by decide +kernel, beq_self_eq_true]
def spBoxInit (CX : Addr) : Sp := fun vs H Q _ => ∃ (p dx vl s t : Addr) (b a : Int) (xs ss ts : List V), vs = [.ref p, .int b, .int a, .ref vl, .ref s, .ref t] ∧ H p = some (.ins CX dx []) ∧ H vl = some (.lst xs) ∧ H s = some (.tup ss) ∧ H t = some (.tup ts) ∧
  ∀ (v : Addr) (H' : Hp), Keep [p] H H' → H' p = some (.ins CX dx (bf b a v s t)) → H' v = some (.tup xs) → Q .non H'
/-- variables at v: their addresses, names, sizes -/
def VarL (H : Hp) (v : Addr) (vars : List (Addr × Str × Int)) : Prop := H v = some (.tup (vars.map fun p => V.ref p.1)) ∧ ∀ p ∈ vars, H p.1 = some (.tup [.str p.2.1, .int p.2.2]) ∧ 1 ≤ p.2.2 ∧ p.2.2 ≤ 12
def varW (vars : List (Addr × Str × Int)) : List Str := vars.flatMap fun p => [("var" : Str), p.2.1, numS p.2.2]
/-- at x a box that writes the words ws -/
def BoxW (CX : Addr) (H : Hp) (x : Addr) (ws : List Str) : Prop := ∃ (dx v s t : Addr) (b a : Int) (vars : List (Addr × Str × Int)) (rs rt : List (Addr × List Str)), H x = some (.ins CX dx (bf b a v s t)) ∧ 1 ≤ b ∧ b ≤ 4 ∧ 1 ≤ a ∧ a ≤ 4 ∧ VarL H v vars ∧
  BlL (StW H 4) H s rs ∧ BlL (StW H 4) H t rt ∧ ws = [("buttons" : Str), numS b, ("answers" : Str), numS a] ++ (varW vars ++ ("start" : Str) :: (wsOf rs ++ ("press" : Str) :: wsOf rt))
def spReadAny (CB CX : Addr) : Sp := fun vs H Q E => ∃ (t : Str) (us : Int), vs = [.str t, .int us] ∧ t.length + 2 ≤ sizeLine ∧ 0 ≤ us ∧ (∀ (x : Addr) (H' : Hp), wrong (wordsOf t) us = none → BoxW CX H' x (wordsOf t) → Q (.ref x) H') ∧
  ∀ i : Nat, wrong (wordsOf t) us = some i → ErrK CB E i
def spRead (CB CX : Addr) (us : Int) : Sp := fun vs H Q E => ∃ (t : Str), vs = [.str t] ∧ t.length + 2 ≤ sizeLine ∧ (∀ (x : Addr) (H' : Hp), wrong (wordsOf t) us = none → BoxW CX H' x (wordsOf t) → Q (.ref x) H') ∧
  ∀ i : Nat, wrong (wordsOf t) us = some i → ErrK CB E i
section
variable {P : Program} {w : World} {K : PySem.W.Frag} {mg : Str → Option Value} {base : Heap} {CB fB CC CR CX aK aS : Addr}
theorem rd_all {fc fs fb : Addr} {fdc fds fdb : FuncData} (FC : Fun K "choice" "Reader.choice" s_Reader_choice fc fdc) (FS : Fun K "statement" "Reader.statement" s_Reader_statement fs fds) (FB : Fun K "block" "Reader.block" s_Reader_block fb fdb) (T : Txt P K mg CB fB CC CR CX aK aS)
    (mc : Meth K CR "choice" fc) (ms : Meth K CR "statement" fs) (mb : Meth K CR "block" fb) (bc : Binds K fdc ["self", "room"] []) (bs : Binds K fds ["self", "room"] []) (bb : Binds K fdb ["self", "room"] [])
    (GCursor_next : MetX P w K mg base CX0 1 CC "next" (spNext CC))
    (GCursor_word : MetX P w K mg base (L2N.CX P w) 3 CC "word" (spWord K CB CC)) (GCursor_number : MetX P w K mg base (L2N.CX P w) 3 CC "number" (spNumber CB CC)) (GCursor_expression : MetX P w K mg base (L2N.CX P w) 8 CC "expression" (spExpr CB CC 5)) :
    ∀ d, MetX P w K mg base (L2N.CX P w) (8 + 3 * d) CR "choice" (spChoice CB CC CR d) ∧ MetX P w K mg base (L2N.CX P w) (10 + 3 * d) CR "block" (spBlock CB CC CR d) := by
  have up : ∀ d, MetX P w K mg base (L2N.CX P w) (8 + 3 * d) CR "choice" (spChoice CB CC CR d) → MetX P w K mg base (L2N.CX P w) (10 + 3 * d) CR "block" (spBlock CB CC CR d) := fun d c =>
    ⟨fb, fdb, _, (ok_block (k := 9 + 3 * d) FB T ⟨fs, fds, _, (ok_stmt (k := 8 + 3 * d) FS T GCursor_next GCursor_word GCursor_number GCursor_expression (by omega) c).mono (by omega), ms, bs⟩).mono (by omega), mb, bb⟩
  intro d
  induction d with
  | zero =>
    have no : ∀ vs H Q E, ¬ spChoice CB CC CR 0 vs H Q E := fun vs H Q E h => by
      obtain ⟨r, c, l, n, e, ws, nm, ex, i, left, uses, _, _, _, h1, _⟩ := h
      omega
    have c : MetX P w K mg base (L2N.CX P w) (8 + 3 * 0) CR "choice" (spChoice CB CC CR 0) := ⟨fc, fdc, ["self", "room"], ⟨fun vs H Q E h => absurd h (no vs H Q E), fun A outer s H args us vs Q E _ _ _ _ h => absurd h (no vs H Q E)⟩, mc, bc⟩
    exact ⟨c, up 0 c⟩
  | succ d ih =>
    have c : MetX P w K mg base (L2N.CX P w) (8 + 3 * (d + 1)) CR "choice" (spChoice CB CC CR (d + 1)) := ⟨fc, fdc, _, (ok_choice (k := 10 + 3 * d) FC T GCursor_word GCursor_expression (by omega) ih.2).mono (by omega), mc, bc⟩
    exact ⟨c, up (d + 1) c⟩
theorem sc_Box_init : FnScope ["self", "buttons", "answers", "variables", "start", "block"] ["self", "buttons", "answers", "variables", "start", "block"] (defScope s_Box_init) := ⟨rfl, rfl, rfl, by decide +kernel, rfl, by decide +kernel, by decide +kernel⟩
theorem ok_Box_init {f : Addr} {fd : FuncData} (F : Fun K "__init__" "Box.__init__" s_Box_init f fd) (T : Txt P K mg CB fB CC CR CX aK aS) : FnOk P w K mg base CX0 1 f fd ["self", "buttons", "answers", "variables", "start", "block"] (spBoxInit CX) := by
  refine F.ok sc_Box_init (fun vs H Q E h => ?_) (fun cdv A outer s H vs Q E hr h => ?_)
  · obtain ⟨p, dx, vl, s, t, b, a, xs, ss, ts, rfl, _⟩ := h
    rfl
  obtain ⟨p, dx, vl, s, t, b, a, xs, ss, ts, rfl, hp, hvl, hs, ht, k⟩ := h
  refine ⟨_, (pss_cons (ps_fld (pv 0) (pv 1) rfl)
 (pss_cons (ps_fld (pv 0) (pv 2) rfl)
 (pss_cons (ps_fld (pv 0) (pe_callTy call_tuple_of (by rfl) T.tuple_ (by decide +kernel) (pa_cons (pv 3) pa_nil)) rfl)
 (pss_cons (ps_fld (pv 0) (pe_callTy call_tuple_of (by rfl) T.tuple_ (by decide +kernel) (pa_cons (pv 4) pa_nil)) rfl)
 (pss_one (ps_fld (pv 0) (pe_callTy call_tuple_of (by rfl) T.tuple_ (by decide +kernel) (pa_cons (pv 5) pa_nil)) rfl)))))), ?_⟩
  have nvp : vl ≠ p := ne_of hvl hp (by intro q; cases q)
  have nsp : s ≠ p := ne_of hs hp (by intro q; cases q)
  have ntp : t ≠ p := ne_of ht hp (by intro q; cases q)
  refine ⟨_, rfl, _, rfl, p, CX, dx, [], rfl, hp, T.clBox, T.xButtons, by show 0 < 1000; decide, ?_⟩
  refine ⟨_, rfl, _, rfl, p, CX, dx, _, rfl, upd_same, T.clBox, T.xAnswers, by show 1 < 1000; decide, ?_⟩
  refine ⟨_, rfl, vl, xs, rfl, .inl ⟨SqL.of (by rw [upd_ne nvp, upd_ne nvp]; exact hvl), fun v hv => ?_⟩⟩
  have npv : p ≠ v := fun z => by rw [← z, upd_same] at hv; cases hv
  have hv0 : H v = none := by rwa [upd_ne npv.symm, upd_ne npv.symm] at hv
  have nvs : s ≠ v := ne_of_none hs hv0
  have nvt : t ≠ v := ne_of_none ht hv0
  refine ⟨_, rfl, p, CX, dx, _, rfl, Eq.trans (upd_ne npv) upd_same, T.clBox, T.xVariables, by show 2 < 1000; decide, ?_⟩
  refine ⟨_, rfl, s, ss, rfl, .inr ⟨SqT.of (by rw [upd_ne nsp, upd_ne nvs, upd_ne nsp, upd_ne nsp]; exact hs), ?_⟩⟩
  refine ⟨_, rfl, p, CX, dx, _, rfl, upd_same, T.clBox, T.xStart, by show 3 < 1000; decide, ?_⟩
  refine ⟨_, rfl, t, ts, rfl, .inr ⟨SqT.of (by rw [upd_ne ntp, upd_ne ntp, upd_ne nvt, upd_ne ntp, upd_ne ntp]; exact ht), ?_⟩⟩
  refine ⟨_, rfl, p, CX, dx, _, rfl, upd_same, T.clBox, T.xBlock, by show 4 < 1000; decide, ?_⟩
  have q : putF "block" (V.ref t) (putF "start" (V.ref s) (putF "variables" (V.ref v) (putF "answers" (V.int a) (putF "buttons" (V.int b) [])))) = bf b a v s t := by
    unfold bf
    simp only [putF, show ¬ (("buttons" : Str) = "answers") from by decide +kernel, show ¬ (("buttons" : Str) = "variables") from by decide +kernel, show ¬ (("buttons" : Str) = "start") from by decide +kernel, show ¬ (("buttons" : Str) = "block") from by decide +kernel,
      show ¬ (("answers" : Str) = "variables") from by decide +kernel, show ¬ (("answers" : Str) = "start") from by decide +kernel, show ¬ (("answers" : Str) = "block") from by decide +kernel, show ¬ (("variables" : Str) = "start") from by decide +kernel, show ¬ (("variables" : Str) = "block") from by decide +kernel,
      show ¬ (("start" : Str) = "block") from by decide +kernel, if_false]
  refine k v _ (fun y o hy hn => ?_) ?_ ?_
  · have hyp : y ≠ p := fun z => hn (by rw [z]; simp)
    have hyv : y ≠ v := ne_of_none hy hv0
    rw [upd_ne hyp, upd_ne hyp, upd_ne hyp, upd_ne hyv, upd_ne hyp, upd_ne hyp]; exact hy
  · rw [upd_same, ← q]
  · rw [upd_ne npv.symm, upd_ne npv.symm, upd_ne npv.symm, upd_same]
theorem sc_read_box : FnScope ["text"] ["text"] (defScope s_read_box) := ⟨rfl, rfl, rfl, by decide +kernel, rfl, by decide +kernel, by decide +kernel⟩
theorem ok_read_box {f : Addr} {fd : FuncData} (F : Fun K "read_box" "read_box" s_read_box f fd) (Gread_any : CalX P w K mg base (L2N.CX P w) 23 "read_any" (spReadAny CB CX)) : FnOk P w K mg base (L2N.CX P w) 24 f fd ["text"] (spRead CB CX 0) := by
  refine okN F sc_read_box (fun vs H Q E h => ?_) (fun cdv A outer s H vs Q E hr h => ?_)
  · obtain ⟨t, rfl, _⟩ := h
    rfl
  obtain ⟨t, rfl, hz, k1, k2⟩ := h
  refine ⟨_, (pss_one (ps_ret (pe_cx Gread_any hr (pX rfl rfl rfl rfl) (pa_cons (pv 0) (pa_cons pe_int pa_nil))))), ?_⟩
  exact ⟨_, rfl, t, 0, rfl, hz, by decide, k1, k2⟩
theorem sc_read_around : FnScope ["text"] ["text"] (defScope s_read_around) := ⟨rfl, rfl, rfl, by decide +kernel, rfl, by decide +kernel, by decide +kernel⟩
theorem ok_read_around {f : Addr} {fd : FuncData} (F : Fun K "read_around" "read_around" s_read_around f fd) (T : Txt P K mg CB fB CC CR CX aK aS) (Gread_any : CalX P w K mg base (L2N.CX P w) 23 "read_any" (spReadAny CB CX)) : FnOk P w K mg base (L2N.CX P w) 24 f fd ["text"] (spRead CB CX 24) := by
  refine okN F sc_read_around (fun vs H Q E h => ?_) (fun cdv A outer s H vs Q E hr h => ?_)
  · obtain ⟨t, rfl, _⟩ := h
    rfl
  obtain ⟨t, rfl, hz, k1, k2⟩ := h
  refine ⟨_, (pss_one (ps_ret (pe_cx Gread_any hr (pX rfl rfl rfl rfl) (pa_cons (pv 0) (pa_cons (pe_gl (by rfl) T.gMOST_USES) pa_nil))))), ?_⟩
  exact ⟨_, rfl, t, 24, rfl, hz, by decide, k1, k2⟩
theorem sc_read_any : FnScope ["text", "uses", "cursor", "buttons", "answers", "reader", "variables", "start", "block"] ["text", "uses"] (defScope s_read_any) := ⟨rfl, rfl, rfl, by decide +kernel, rfl, by decide +kernel, by decide +kernel⟩
theorem ok_read_any {f : Addr} {fd : FuncData} (F : Fun K "read_any" "read_any" s_read_any f fd) (T : Txt P K mg CB fB CC CR CX aK aS) (GCursor : MakX P w K mg base CX0 1 "Cursor" CC (spCurInit CC)) (GReader : MakX P w K mg base CX0 1 "Reader" CR (spRdInit CR)) (GBox : MakX P w K mg base CX0 1 "Box" CX (spBoxInit CX))
    (GCursor_next : MetX P w K mg base CX0 1 CC "next" (spNext CC)) (GCursor_word : MetX P w K mg base (L2N.CX P w) 3 CC "word" (spWord K CB CC)) (GCursor_number : MetX P w K mg base (L2N.CX P w) 3 CC "number" (spNumber CB CC)) (GCursor_new_name : MetX P w K mg base (L2N.CX P w) 3 CC "new_name" (spNewName K CB CC))
    (GCursor_finish : MetX P w K mg base (L2N.CX P w) 3 CC "finish" (spFinish CB CC)) (GReader_block : MetX P w K mg base (L2N.CX P w) 22 CR "block" (spBlock CB CC CR 4)) : FnOk P w K mg base (L2N.CX P w) 23 f fd ["text", "uses"] (spReadAny CB CX) := by
  refine okN F sc_read_any (fun vs H Q E h => ?_) (fun cdv A outer s H vs Q E hr h => ?_)
  · obtain ⟨t, us, rfl, _⟩ := h
    rfl
  obtain ⟨t, us, rfl, hz, hus, k1, k2⟩ := h
  refine ⟨_, (pss_cons (ps_set (i := 2) sc_read_any.nd rfl (Or.inl rfl) (pe_mkx GCursor hr pass0 (pa_cons (pv 0) pa_nil)))
 (pss_cons (ps_expr (pe_mx (pv 2) T.clCursor GCursor_word hr (pX rfl rfl rfl rfl) (pa_cons (pe_tup (pa_cons pe_str pa_nil)) pa_nil)))
 (pss_cons (ps_set (i := 3) sc_read_any.nd rfl (Or.inl rfl) (pe_mx (pv 2) T.clCursor GCursor_number hr (pX rfl rfl rfl rfl) (pa_cons pe_int (pa_cons pe_int pa_nil))))
 (pss_cons (ps_expr (pe_mx (pv 2) T.clCursor GCursor_word hr (pX rfl rfl rfl rfl) (pa_cons (pe_tup (pa_cons pe_str pa_nil)) pa_nil)))
 (pss_cons (ps_set (i := 4) sc_read_any.nd rfl (Or.inl rfl) (pe_mx (pv 2) T.clCursor GCursor_number hr (pX rfl rfl rfl rfl) (pa_cons pe_int (pa_cons pe_int pa_nil))))
 (pss_cons (ps_set (i := 5) sc_read_any.nd rfl (Or.inl rfl) (pe_mkx GReader hr pass0 (pa_cons (pv 2) (pa_cons (pv 1) pa_nil))))
 (pss_cons (ps_set (i := 6) sc_read_any.nd rfl (Or.inl rfl) (pe_lst pa_nil))
 (pss_cons (ps_while (passes_of rfl) (PW.pt (pw_and (pt_cmpR op_eq (pe_mx0 (pv 2) T.clCursor GCursor_next hr pass0) pe_str (nomark _)) (pw_and1 (pt_cmpR op_lt (pe_callB call_len_seq (by rfl) T.len PySem.boot_len (pa_cons (pv 6) pa_nil)) (pe_gl (by rfl) T.gMOST_VARIABLES) (nomark _)))))
 (pss_cons (ps_fldaug (pv 2) pe_int in_add)
 (pss_cons (ps_expr (pe_bm PySem.F.plainAttrs_list PySem.F.slot_list_append PySem.F.type_list_append mt_append (pe_fld (pv 5) rfl) (pa_cons (pe_mx (pv 2) T.clCursor GCursor_new_name hr (pX rfl rfl rfl rfl) (pa_cons (pe_fld (pv 5) rfl) pa_nil)) pa_nil)))
 (pss_one (ps_expr (pe_bm PySem.F.plainAttrs_list PySem.F.slot_list_append PySem.F.type_list_append mt_append (pv 6) (pa_cons (pe_tup (pa_cons (pe_ix ix_list (pe_fld (pv 5) rfl) pe_neg1 (fun _ _ => rfl)) (pa_cons (pe_mx (pv 2) T.clCursor GCursor_number hr (pX rfl rfl rfl rfl) (pa_cons pe_int (pa_cons (pe_gl (by rfl) T.gMOST_SIZE) pa_nil))) pa_nil))) pa_nil)))))))
 (pss_cons (ps_expr (pe_mx (pv 2) T.clCursor GCursor_word hr (pX rfl rfl rfl rfl) (pa_cons (pe_tup (pa_cons pe_str pa_nil)) pa_nil)))
 (pss_cons (ps_set (i := 7) sc_read_any.nd rfl (Or.inl rfl) (pe_mx (pv 5) T.clReader GReader_block hr (pX rfl rfl rfl rfl) (pa_cons (pe_gl (by rfl) T.gMOST_IFS) pa_nil)))
 (pss_cons (ps_expr (pe_mx (pv 2) T.clCursor GCursor_word hr (pX rfl rfl rfl rfl) (pa_cons (pe_tup (pa_cons pe_str pa_nil)) pa_nil)))
 (pss_cons (ps_fld (pv 5) (pe_tup (pa_cons pe_str pa_nil)) rfl)
 (pss_cons (ps_set (i := 8) sc_read_any.nd rfl (Or.inl rfl) (pe_mx (pv 5) T.clReader GReader_block hr (pX rfl rfl rfl rfl) (pa_cons (pe_gl (by rfl) T.gMOST_IFS) pa_nil)))
 (pss_cons (ps_expr (pe_mx0 (pv 2) T.clCursor GCursor_finish hr (pX rfl rfl rfl rfl)))
 (pss_one (ps_ret (pe_mkx GBox hr pass0 (pa_cons (pv 3) (pa_cons (pv 4) (pa_cons (pv 6) (pa_cons (pv 7) (pa_cons (pv 8) pa_nil)))))))))))))))))))))), ?_⟩
  refine ⟨_, rfl, fun c dxc hc0 hdx0 hne0 => ⟨c, dxc, t, rfl, upd_same, hz, fun l H1 kp1 hl C0 => ⟨rfl, ?_⟩⟩⟩
  generalize wordsOf t = ws at k1 k2 C0
  obtain ⟨dx, ho⟩ := C0.obj
  -- buttons
  refine ⟨_, rfl, c, dx, _, rfl, ho, cf_no _ _ (by decide +kernel) (by decide +kernel), by show 1 ≤ sizeLine; decide, fun q1 hq1 => ⟨c, l, q1, ws, [("buttons" : Str)], 0, rfl, C0.same (same_new hq1 _), .inr (SqT.of upd_same), fun x0 H2 e0 hx0 kp2 C1 => ?_, fun bad => k2 0 (word_fail fun w h z => bad w h (by rw [z]; simp))⟩⟩
  have hx0' : x0 = "buttons" := by simpa using hx0
  subst hx0'
  have hM1 : wrong ws us = M ws 1 [.num 1 4, .word "answers", .num 1 4, .head] (sc0 us) := word_ok e0
  obtain ⟨dx1, ho1⟩ := C1.obj
  refine ⟨_, rfl, c, dx1, _, rfl, ho1, cf_no _ _ (by decide +kernel) (by decide +kernel), c, l, ws, 1, 1, 4, rfl, by decide, by decide, C1, fun x1 H3 e1 h1 kp3 C2 => ?_, fun bad => k2 1 (hM1.trans (num_fail bad))⟩
  have hM2 := hM1.trans (num_ok e1 h1)
  obtain ⟨dx2, ho2⟩ := C2.obj
  -- answers
  refine ⟨_, rfl, c, dx2, _, rfl, ho2, cf_no _ _ (by decide +kernel) (by decide +kernel), by show 1 ≤ sizeLine; decide, fun q2 hq2 => ⟨c, l, q2, ws, [("answers" : Str)], 2, rfl, C2.same (same_new hq2 _), .inr (SqT.of upd_same), fun x2 H4 e2 hx2 kp4 C3 => ?_, fun bad => k2 2 (hM2.trans (word_fail fun w h z => bad w h (by rw [z]; simp)))⟩⟩
  have hx2' : x2 = "answers" := by simpa using hx2
  subst hx2'
  have hM3 := hM2.trans (word_ok e2)
  obtain ⟨dx3, ho3⟩ := C3.obj
  refine ⟨_, rfl, c, dx3, _, rfl, ho3, cf_no _ _ (by decide +kernel) (by decide +kernel), c, l, ws, 3, 1, 4, rfl, by decide, by decide, C3, fun x3 H5 e3 h3 kp5 C4 => ?_, fun bad => k2 3 (hM3.trans (num_fail bad))⟩
  have hM4 : wrong ws us = M ws 4 [.head] ⟨[], [], 3, us⟩ := hM3.trans (num_ok e3 h3)
  have l4 : 4 ≤ ws.length := (List.getElem?_eq_some_iff.mp e3).1
  have w4 : seg ws 0 4 = [("buttons" : Str), x1, ("answers" : Str), x3] := by rw [← seg_cons e0 (by omega), ← seg_cons e1 (by omega), ← seg_cons e2 (by omega), seg_one e3]
  -- the reader
  refine ⟨_, rfl, _, rfl, fun r dxr hr0 hdr0 hner => ⟨r, dxr, c, us, rfl, upd_same, fun n e H7 kp7 hn hee hnne rd hn7 he7 => ⟨rfl, ?_⟩⟩⟩
  obtain ⟨dx4, ho4⟩ := C4.obj
  have C5 : CurAt CC (upd (upd H5 dxr (.own r)) r (.ins CR dxr [])) c l ws 4 := C4.same fun b o hb => by
    rw [upd_ne (ne_of_none hb hr0), upd_ne (ne_of_none hb hdr0)]; exact hb
  have R0 : RdAt CC CR H7 r c l n e ws 4 [] [] 3 us := ⟨C5.kp kp7 (by simpa using ne_of_none ho4 hr0) (by simpa using ne_of_none C4.lst hr0), rd, hn7, he7⟩
  have nnl : n ≠ l := by
    intro z
    have y := C5.lst
    rw [← z, hn] at y
    cases y
  refine ⟨Nat.zero_le _, fun vl hvl => ?_⟩
  obtain ⟨ac, ar, al, an, ae⟩ := R0.apart hvl
  have R1 : RdAt CC CR (upd H7 vl (.lst [])) r c l n e ws 4 [] [] 3 us := R0.same (same_new hvl _)
  have hv1 : (upd H7 vl (.lst ([] : List V))) vl = some (.lst []) := upd_same
  generalize upd H7 vl (.lst ([] : List V)) = H8 at R1 hv1 ⊢
  -- the variables
  refine ⟨fun m σ H' => ∃ (j : Nat) (nm : List Str) (vars : List (Addr × Str × Int)), σ = [some (.str t), some (.int us), some (.ref c), some (.int (numV x1)), some (.int (numV x3)), some (.ref r), some (.ref vl), none, none] ∧ m = ws.length - j ∧ 4 ≤ j ∧ j ≤ ws.length ∧ RdAt CC CR H' r c l n e ws j nm [] 3 us ∧
    H' vl = some (.lst (vars.map fun p => .ref p.1)) ∧ vars.length = nm.length ∧ nm.length ≤ 4 ∧ (∀ p ∈ vars, H' p.1 = some (.tup [.str p.2.1, .int p.2.2]) ∧ 1 ≤ p.2.2 ∧ p.2.2 ≤ 12) ∧ varW vars = seg ws 4 j ∧ wrong ws us = M ws j [.head] ⟨nm, [], 3, us⟩,
    ⟨_, 4, [], [], rfl, rfl, Nat.le_refl _, l4, R1, hv1, rfl, by decide, (fun p hp => by cases hp), by rw [seg_nil]; rfl, hM4⟩, ?_⟩
  rintro m σ H' ⟨j, nm, vars, rfl, rfl, j4, jl, R', hv', vlen, nm4, hvars, ewv, hM⟩
  obtain ⟨dx5, ho5⟩ := R'.cur.obj
  refine ⟨_, rfl, c, dx5, _, rfl, ho5, cf_no _ _ (by decide +kernel) (by decide +kernel), c, l, ws, j, rfl, R'.cur, wv_scal _ _, _, rfl, ?_⟩
  rw [wv_eq]
  by_cases hv : ws[j]? = some ("var" : Str) ∧ ¬ ¬ nm.length < 4
  · have hv2 : nm.length < 4 := Classical.not_not.mp hv.2
    have j1l : j + 1 ≤ ws.length := (List.getElem?_eq_some_iff.mp hv.1).1
    rw [decide_eq_true hv.1]
    refine iteT ⟨_, rfl, vl, _, rfl, .inl (SqL.of hv'), _, _, rfl, rfl, _, rfl, ?_⟩
    rw [List.length_map, vlen, decide_eq_true (show (nm.length : Int) < 4 by omega)]
    refine iteT ⟨_, fun σ' H' z => z, ?_⟩
    have hMv := hM.trans (head_var hv.1 hv2)
    refine ⟨_, rfl, c, CC, dx5, _, _, rfl, ho5, T.clCursor, T.cAt, cf_at _ _, _, _, rfl, rfl, dx5, _, ho5, by show 2 < 1000; decide, ?_⟩
    have R6 := R'.bump ho5
    have hv6 : (upd H' c (.ins CC dx5 (putF "at" (.int ((j : Int) + 1)) (cf l j)))) vl = some (.lst (vars.map fun p => .ref p.1)) := by rw [upd_ne ac.symm]; exact hv'
    have tk6 : Tk H' (upd H' c (.ins CC dx5 (putF "at" (.int ((j : Int) + 1)) (cf l j)))) := Tk.upd ho5 (by intro xs z; cases z)
    generalize upd H' c (.ins CC dx5 (putF "at" (.int ((j : Int) + 1)) (cf l j))) = H6 at R6 hv6 tk6 ⊢
    obtain ⟨dx6, ho6⟩ := R6.cur.obj
    obtain ⟨dr6, hro6⟩ := R6.rd
    refine ⟨_, rfl, r, CR, dr6, _, _, rfl, hro6, T.clReader, T.rNames, (rf_look _ _ _ _ _).2.1, .inl ⟨rfl, _, SqL.of R6.hn⟩, _, rfl, c, dx6, _, rfl, ho6, cf_no _ _ (by decide +kernel) (by decide +kernel), _, rfl, r, CR, dr6, _, _, rfl, hro6, T.clReader, T.rNames, (rf_look _ _ _ _ _).2.1, c, l, n, ws, nm, j + 1, rfl, R6.cur, R6.hn, fun x H9 e9 hx hnx kp9 hc9 => ?_, fun bad => k2 (j + 1) (hMv.trans (new_fail bad))⟩
    have R9 := R6.toc kp9 hc9
    have j2l : j + 2 ≤ ws.length := (List.getElem?_eq_some_iff.mp e9).1
    refine ⟨n, _, _, rfl, rfl, R9.hn, by rw [List.length_map]; exact Nat.lt_of_le_of_lt nm4 (by decide), ?_⟩
    have RA := R9.setn nnl x
    have hvA : (upd H9 n (.lst (nm.map V.str ++ [.str x]))) vl = some (.lst (vars.map fun p => .ref p.1)) := by rw [upd_ne an.symm]; exact kp9 _ _ hv6 (by simpa using ac.symm)
    have tkA : Tk H6 (upd H9 n (.lst (nm.map V.str ++ [.str x]))) := (R6.tk (kp9.mono (by simp))).trans (Tk.upd R9.hn (by intro xs z; cases z))
    generalize upd H9 n (.lst (nm.map V.str ++ [.str x])) = HA at RA hvA tkA ⊢
    obtain ⟨dxA, hoA⟩ := RA.cur.obj
    obtain ⟨drA, hroA⟩ := RA.rd
    have hMw := hMv.trans (new_ok e9 hx hnx)
    refine ⟨_, rfl, .inl ⟨rfl, _, SqL.of hvA⟩, _, rfl, r, CR, drA, _, _, rfl, hroA, T.clReader, T.rNames, (rf_look _ _ _ _ _).2.1, _, rfl, n, _, _, _, rfl, rfl, SqL.of RA.hn, by rw [List.map_append]; exact atI_last _ _, _, rfl, c, dxA, _, rfl, hoA, cf_no _ _ (by decide +kernel) (by decide +kernel), c, l, ws, j + 2, 1, 12, rfl, by decide, by decide, RA.cur, fun y HB eB hy kpB hcB => ?_, fun bad => k2 (j + 2) (hMw.trans (num_fail bad))⟩
    have RB := RA.toc kpB hcB
    have j3l : j + 3 ≤ ws.length := (List.getElem?_eq_some_iff.mp eB).1
    have hvB : HB vl = some (.lst (vars.map fun p => .ref p.1)) := kpB _ _ hvA (by simpa using ac.symm)
    refine ⟨by show 2 ≤ sizeLine; decide, fun p hp => ⟨vl, _, _, rfl, rfl, (same_new hp _) _ _ hvB, by rw [List.length_map, vlen]; exact Nat.lt_of_le_of_lt nm4 (by decide), ?_⟩⟩
    have npv : p ≠ vl := fun z => by rw [z, hvB] at hp; cases hp
    have RC := (RB.same (same_new hp (.tup [.str x, .int (numV y)]))).other (o := .lst ((vars.map fun p => V.ref p.1) ++ [.ref p])) ac ar al an ae
    have hy2 : numOk y = true ∧ 1 ≤ numV y ∧ numV y ≤ 12 := by
      simp only [isNum, Bool.and_eq_true, decide_eq_true_eq] at hy
      exact ⟨hy.1.1, hy.1.2, hy.2⟩
    have tkC : Tk H' (upd (upd HB p (.tup [.str x, .int (numV y)])) vl (.lst ((vars.map fun p => V.ref p.1) ++ [.ref p]))) :=
      tk6.trans (tkA.trans ((RA.tk (kpB.mono (by simp))).trans ((Tk.new hp).trans (Tk.upd (same_new hp _ _ _ hvB) (by intro xs z; cases z)))))
    refine ⟨ws.length - (j + 3), by omega, j + 3, nm ++ [x], vars ++ [(p, x, numV y)], rfl, rfl, by omega, j3l, RC, ?_, ?_, ?_, fun q hq => ?_, ?_, hMw.trans (num_ok eB hy)⟩
    · rw [upd_same, List.map_append]; rfl
    · simp [vlen]
    · simp; omega
    · rcases List.mem_append.mp hq with hq | hq
      · exact ⟨tkC _ _ (hvars q hq).1, (hvars q hq).2⟩
      · have : q = (p, x, numV y) := by simpa using hq
        subst this
        exact ⟨by rw [upd_ne npv, upd_same], hy2.2⟩
    · have e1 : varW (vars ++ [(p, x, numV y)]) = varW vars ++ [("var" : Str), x, numS (numV y)] := by simp [varW]
      rw [e1, ewv, numOk_str hy2.1, ← seg_cat j4 (show j ≤ j + 3 by omega), ← seg_cons hv.1 (by omega), ← seg_cons e9 (by omega), seg_one eB]
  refine ite_f2 (fun q z => ⟨_, rfl, vl, _, rfl, .inl (SqL.of hv'), _, _, rfl, rfl, _, rfl, by
    rw [List.length_map, vlen, decide_eq_false (show ¬ (nm.length : Int) < 4 from fun y => by_not hv q (by omega))]
    exact iteF z⟩) (fun z => iteF z) ?_
  -- start
  refine ⟨_, rfl, c, dx5, _, rfl, ho5, cf_no _ _ (by decide +kernel) (by decide +kernel), by show 1 ≤ sizeLine; decide, fun q5 hq5 => ⟨c, l, q5, ws, [("start" : Str)], j, rfl, R'.cur.same (same_new hq5 _), .inr (SqT.of upd_same), fun x5 H6 e5 hx5 kp6 C6 => ?_, fun bad => k2 j (hM.trans (head_fail (fun z => hv ⟨z.1, fun y => y z.2⟩) (fun z => bad _ z (by simp))))⟩⟩
  have hx5' : x5 = "start" := by simpa using hx5
  subst hx5'
  have R6 := (R'.same (same_new hq5 _)).toc kp6 C6
  have hv6 : H6 vl = some (.lst (vars.map fun p => .ref p.1)) := kp6 _ _ (same_new hq5 _ _ _ hv') (by simpa using ac.symm)
  have tk6 : Tk H' H6 := (Tk.new (o := .tup [.str "start"]) hq5).trans ((R'.same (same_new hq5 _)).tk (kp6.mono (by simp)))
  have hM6 := hM.trans (head_start e5)
  have j6 : j + 1 ≤ ws.length := (List.getElem?_eq_some_iff.mp e5).1
  obtain ⟨dr6, hro6⟩ := R6.rd
  refine ⟨_, rfl, r, dr6, _, rfl, hro6, rf_no _ _ _ _ _ (by decide +kernel), r, c, l, n, e, ws, nm, [], j + 1, 3, us, rfl, R6, j6, by decide, hus, fun j7 sa rs l7 u7 H7' ij7 jl7 kp7' R7 hl7 hu7 bl7 ew7 ns7 m7 => ?_, fun k0 hk => k2 k0 (hM6.trans (hk _ _))⟩
  have hM7 : wrong ws us = M ws j7 [.blk 4 .start] ⟨nm, [], l7, u7⟩ := hM6.trans ((m7 _ _).trans (by split <;> rfl))
  have hv7 : H7' vl = some (.lst (vars.map fun p => .ref p.1)) := kp7' _ _ hv6 (by simp; exact ⟨ac.symm, ar.symm⟩)
  have tk7 := tk6.trans (R6.tk kp7')
  obtain ⟨dx7, ho7⟩ := R7.cur.obj
  -- press
  refine ⟨_, rfl, c, dx7, _, rfl, ho7, cf_no _ _ (by decide +kernel) (by decide +kernel), by show 1 ≤ sizeLine; decide, fun q7 hq7 => ⟨c, l, q7, ws, [("press" : Str)], j7, rfl, R7.cur.same (same_new hq7 _), .inr (SqT.of upd_same), fun x8 H8' e8 hx8 kp8 C8 => ?_, fun bad => k2 j7 (hM7.trans ?_)⟩⟩
  rotate_left
  · cases e7 : ws[j7]? with
    | none => exact blk_end e7 (by decide)
    | some y => exact blk_bad ns7 e7 (fun z => by rcases z.2 with z | z <;> cases z) (fun z => by cases z.2.1) (fun z => bad y e7 (by rw [z.1]; simp))
  have hx8' : x8 = "press" := by simpa using hx8
  subst hx8'
  have R8 := (R7.same (same_new hq7 _)).toc kp8 C8
  have hv8 : H8' vl = some (.lst (vars.map fun p => .ref p.1)) := kp8 _ _ (same_new hq7 _ _ _ hv7) (by simpa using ac.symm)
  have tk8 : Tk H7' H8' := (Tk.new (o := .tup [.str "press"]) hq7).trans ((R7.same (same_new hq7 _)).tk (kp8.mono (by simp)))
  have hM8 := hM7.trans (blk_press e8)
  have j8 : j7 + 1 ≤ ws.length := (List.getElem?_eq_some_iff.mp e8).1
  -- extra
  refine ⟨by show 1 ≤ sizeLine; decide, fun q9 hq9 => ?_⟩
  have R9 := R8.same (same_new hq9 (.tup [.str "press"]))
  obtain ⟨dr9, hro9⟩ := R9.rd
  refine ⟨_, rfl, r, CR, dr9, _, rfl, hro9, T.clReader, T.rExtra, by show 5 < 1000; decide, ?_⟩
  have RA := R9.sete (dr := dr9) (q := q9) (ex2 := [("press" : Str)]) upd_same
  have nq9 : q9 ≠ vl := fun z => by rw [z, hv8] at hq9; cases hq9
  have hvA : (upd (upd H8' q9 (.tup [V.str "press"])) r (.ins CR dr9 (putF "extra" (V.ref q9) (rf c n l7 u7 e)))) vl = some (.lst (vars.map fun p => .ref p.1)) := by rw [upd_ne ar.symm]; exact same_new hq9 _ _ _ hv8
  have tkA : Tk H8' (upd (upd H8' q9 (.tup [V.str "press"])) r (.ins CR dr9 (putF "extra" (V.ref q9) (rf c n l7 u7 e)))) := (Tk.new hq9).trans (Tk.upd hro9 (by intro xs z; cases z))
  generalize upd (upd H8' q9 (.tup [V.str "press"])) r (.ins CR dr9 (putF "extra" (V.ref q9) (rf c n l7 u7 e))) = HA at RA hvA tkA ⊢
  obtain ⟨drA, hroA⟩ := RA.rd
  refine ⟨_, rfl, r, drA, _, rfl, hroA, rf_no _ _ _ _ _ (by decide +kernel), r, c, l, n, q9, ws, nm, [("press" : Str)], j7 + 1, l7, u7, rfl, RA, j8, hl7, hu7, fun jB ba rt lB uB HB ijB jlB kpB RB hlB huB blB ewB nsB mB => ?_, fun k0 hk => k2 k0 (hM8.trans (hk _ _))⟩
  have hMB : wrong ws us = M ws jB [.blk 4 .top] ⟨nm, [("press" : Str)], lB, uB⟩ := hM8.trans ((mB _ _).trans (by split <;> rfl))
  have hvB : HB vl = some (.lst (vars.map fun p => .ref p.1)) := kpB _ _ hvA (by simp; exact ⟨ac.symm, ar.symm⟩)
  have tkB := RA.tk kpB
  obtain ⟨dxB, hoB⟩ := RB.cur.obj
  refine ⟨_, rfl, c, dxB, _, rfl, hoB, cf_no _ _ (by decide +kernel) (by decide +kernel), c, l, ws, jB, rfl, RB.cur, fun hno => ?_, fun x hx => k2 jB (hMB.trans (blk_bad nsB hx (fun z => by rcases z.2 with z | z <;> cases z) (fun z => by cases z.2.1) (fun z => by cases z.2)))⟩
  have jBe : jB = ws.length := by have := List.getElem?_eq_none_iff.mp hno; omega
  have tkS : Tk H7' HB := tk8.trans (tkA.trans tkB)
  -- Box
  refine ⟨_, rfl, _, rfl, _, rfl, _, rfl, _, rfl, fun x dxx hx hdxx hnx => ?_⟩
  have sm : Same HB (upd (upd HB dxx (.own x)) x (.ins CX dxx [])) := fun b o hb => by rw [upd_ne (ne_of_none hb hx), upd_ne (ne_of_none hb hdxx)]; exact hb
  refine ⟨x, dxx, vl, sa, ba, numV x1, numV x3, _, _, _, rfl, upd_same, sm _ _ hvB, sm _ _ (tkS _ _ bl7.1), sm _ _ blB.1, fun v HF kpF hbox hvF => ⟨rfl, ?_⟩⟩
  have tkF : Tk HB HF := Tk.trans (fun b xs hb => sm _ _ hb) (kpF.tk fun b hb xs z => by
    have : b = x := by simpa using hb
    rw [this, upd_same] at z; cases z)
  have n1 : numOk x1 = true ∧ 1 ≤ numV x1 ∧ numV x1 ≤ 4 := by
    simp only [isNum, Bool.and_eq_true, decide_eq_true_eq] at h1
    exact ⟨h1.1.1, h1.1.2, h1.2⟩
  have n3 : numOk x3 = true ∧ 1 ≤ numV x3 ∧ numV x3 ≤ 4 := by
    simp only [isNum, Bool.and_eq_true, decide_eq_true_eq] at h3
    exact ⟨h3.1.1, h3.1.2, h3.2⟩
  refine k1 x HF (hMB.trans (top_end hno)) ⟨dxx, v, sa, ba, numV x1, numV x3, vars, rs, rt, hbox, n1.2.1, n1.2.2, n3.2.1, n3.2.2, ⟨hvF, fun p hp => ⟨tkF _ _ (tkS _ _ (tk7 _ _ (hvars p hp).1)), (hvars p hp).2⟩⟩, bl7.keep (tkS.trans tkF), blB.keep tkF, ?_⟩
  rw [numOk_str n1.1, numOk_str n3.1, ewv, ew7, ewB, seg_cons e8 (by omega), seg_cat (by omega) (by omega), seg_cons e5 (by omega), seg_cat j4 (by omega), ← w4, seg_cat (by omega) (by omega), jBe, seg_all]
end
end Nt

set_option Elab.async false
set_option linter.all false
set_option maxRecDepth 100000
set_option maxHeartbeats 2000000
namespace Nt
open PySem L2
theorem Same.tk {H H' : Hp} (s : Same H H') : Tk H H' := fun b xs h => s b _ h
theorem lg {n : Int} (h0 : 0 ≤ n) (h1 : n ≤ 65535) : n.natAbs.log2 < 1920 := by
  by_cases z : n.natAbs = 0
  · rw [z]; decide
  · rw [Nat.log2_lt z]
    have : n.natAbs < 2 ^ 16 := by omega
    exact Nat.lt_of_lt_of_le this (Nat.pow_le_pow_right (by decide) (by decide))
def spEW (d : Nat) : Sp := fun vs H Q _ => ∃ (a : Addr) (ws : List Str), vs = [.ref a] ∧ d ≤ 10 ∧ ExW H d a ws ∧ ∀ (l : Addr) (H' : Hp), Same H H' → H l = none → H' l = some (.lst (ws.map V.str)) → Q (.ref l) H'
def spBW (d : Nat) : Sp := fun vs H Q _ => ∃ (a : Addr) (rs : List (Addr × List Str)), vs = [.ref a] ∧ BlL (StW H d) H a rs ∧ (wsOf rs).length ≤ sizeLine ∧ ∀ (l : Addr) (H' : Hp), Same H H' → H l = none → H' l = some (.lst ((wsOf rs).map V.str)) → Q (.ref l) H'
def spBoxText (CX : Addr) : Sp := fun vs H Q _ => ∃ (x : Addr) (ws : List Str), vs = [.ref x] ∧ BoxW CX H x ws ∧ (ws.map (·.length)).sum + ws.length ≤ 16777216 ∧ ∀ H', Q (.str (Txt.join " " ws)) H'
theorem pow10 {d : Nat} (h : d ≤ 10) : 2 ^ d ≤ 1024 := by
  have := Nat.pow_le_pow_right (n := 2) (by decide) h
  exact this
theorem small {n : Nat} (h : n ≤ 16777216) : n ≤ sizeLine := by rw [sizeLine_eq]; exact h
section
variable {P : Program} {w : World} {K : PySem.W.Frag} {mg : Str → Option Value} {base : Heap} {CB fB CC CR CX aK aS : Addr}
theorem sc_expression_words : FnScope ["expression"] ["expression"] (defScope s_expression_words) := ⟨rfl, rfl, rfl, by decide +kernel, rfl, by decide +kernel, by decide +kernel⟩
theorem ew_step {f : Addr} {fd : FuncData} (F : Fun K "expression_words" "expression_words" s_expression_words f fd) (T : Txt P K mg CB fB CC CR CX aK aS) {d : Nat} (Gexpression_words : CalX P w K mg base CX0 (d + 1) "expression_words" (spEW d)) :
    FnOk P w K mg base CX0 (d + 2) f fd ["expression"] (spEW (d + 1)) := by
  refine F.ok sc_expression_words (fun vs H Q E h => ?_) (fun cdv A outer s H vs Q E hr h => ?_)
  · obtain ⟨a, ws, rfl, _⟩ := h
    rfl
  obtain ⟨a, ws, rfl, hd, hw, k⟩ := h
  refine ⟨_, (pss_cons (ps_if (pt_cmpR op_eq (pe_callB call_len_seq (by rfl) T.len PySem.boot_len (pa_cons (pv 0) pa_nil)) pe_int (nomark _))
 (pss_one (ps_ret (pe_lst (pa_cons (pe_ix ix_tup (pv 0) pe_int (fun _ _ => rfl)) (StX.pa_star (pe_cx Gexpression_words hr pass0 (pa_cons (pe_ix ix_tup (pv 0) pe_int (fun _ _ => rfl)) pa_nil)) (StX.pa_star (pe_cx Gexpression_words hr pass0 (pa_cons (pe_ix ix_tup (pv 0) pe_int (fun _ _ => rfl)) pa_nil)) pa_nil))))))
 pss_nil)
 (pss_one (ps_ret (pe_lst (pa_cons (pe_callTy call_str_any (by rfl) T.str_ (by decide +kernel) (pa_cons (pe_ix ix_tup (pv 0) pe_neg1 (fun _ _ => rfl)) pa_nil)) pa_nil))))), ?_⟩
  have hlen := hw.len
  have h10 := pow10 hd
  rcases hw with ⟨n, h, h0, h1, rfl⟩ | ⟨x, h, rfl⟩ | ⟨x, h, rfl⟩ | ⟨o, b, c, w1, w2, h, e1, e2, rfl⟩
  · refine ⟨_, rfl, a, _, rfl, .inr (SqT.of h), rfl, _, rfl, ?_⟩
    refine iteF ⟨_, rfl, _, rfl, a, _, _, _, rfl, rfl, SqT.of h, rfl, .inl ⟨n, rfl, lg h0 h1, by show 1 ≤ sizeLine; decide, fun l hl => ?_⟩⟩
    exact k l _ (same_new hl _) hl upd_same
  · refine ⟨_, rfl, a, _, rfl, .inr (SqT.of h), rfl, _, rfl, ?_⟩
    refine iteF ⟨_, rfl, _, rfl, a, _, _, _, rfl, rfl, SqT.of h, rfl, .inr ⟨x, rfl, by show 1 ≤ sizeLine; decide, fun l hl => ?_⟩⟩
    exact k l _ (same_new hl _) hl upd_same
  · refine ⟨_, rfl, a, _, rfl, .inr (SqT.of h), rfl, _, rfl, ?_⟩
    refine iteF ⟨_, rfl, _, rfl, a, _, _, _, rfl, rfl, SqT.of h, rfl, .inr ⟨x, rfl, by show 1 ≤ sizeLine; decide, fun l hl => ?_⟩⟩
    exact k l _ (same_new hl _) hl upd_same
  · refine ⟨_, rfl, a, _, rfl, .inr (SqT.of h), rfl, _, rfl, ?_⟩
    refine iteT ⟨_, rfl, a, _, _, _, rfl, rfl, SqT.of h, rfl, _, rfl, a, _, _, _, rfl, rfl, SqT.of h, rfl, b, w1, rfl, by omega, e1, fun l1 H1 s1 n1 hl1 => ?_⟩
    refine ⟨l1, _, rfl, .inr (SqL.of hl1), _, rfl, a, _, _, _, rfl, rfl, SqT.of (s1 _ _ h), rfl, c, w2, rfl, by omega, e2.keep (Same.tk s1), fun l2 H2 s2 n2 hl2 => ?_⟩
    refine ⟨l2, _, rfl, .inr (SqL.of hl2), ?_, fun l hl => ?_⟩
    · refine small ?_
      simp only [List.length_cons, List.length_append, List.length_map, List.length_nil] at hlen ⊢
      omega
    · refine k l _ (s1.trans (s2.trans (same_new hl _))) (s1.free (s2.free hl)) ?_
      rw [upd_same]; simp
theorem ew_all {f : Addr} {fd : FuncData} (F : Fun K "expression_words" "expression_words" s_expression_words f fd) (T : Txt P K mg CB fB CC CR CX aK aS) (m : mg "expression_words" = some (.ref f)) (bi : Binds K fd ["expression"] []) : ∀ d, CalX P w K mg base CX0 (d + 1) "expression_words" (spEW d)
  | 0 => by
    have no : ∀ vs H Q E, ¬ spEW 0 vs H Q E := fun vs H Q E h => by
      obtain ⟨a, ws, _, _, h1, _⟩ := h
      exact h1
    exact ⟨f, fd, ["expression"], ⟨fun vs H Q E h => absurd h (no vs H Q E), fun A outer s H args us vs Q E _ _ _ _ h => absurd h (no vs H Q E)⟩, m, F.kp, bi⟩
  | d + 1 => ⟨f, fd, _, ew_step F T (ew_all F T m bi d), m, F.kp, bi⟩
theorem wsOf_take {rs : List (Addr × List Str)} {i : Nat} {p : Addr × List Str} (h : rs[i]? = some p) : wsOf (rs.take (i + 1)) = wsOf (rs.take i) ++ p.2 := by
  rw [List.take_succ, h]; simp [wsOf]
theorem wsOf_le {rs : List (Addr × List Str)} {i : Nat} {p : Addr × List Str} (h : rs[i]? = some p) : (wsOf (rs.take i)).length + p.2.length ≤ (wsOf rs).length := by
  have e : wsOf rs = wsOf (rs.take (i + 1)) ++ wsOf (rs.drop (i + 1)) := by
    unfold wsOf
    rw [← List.flatten_append, ← List.map_append, List.take_append_drop]
  rw [e, wsOf_take h]
  simp only [List.length_append]; omega
theorem rs_of {rs : List (Addr × List Str)} {i : Nat} {x : V} (h : (rs.map fun p => V.ref p.1)[i]? = some x) : ∃ p, rs[i]? = some p ∧ x = .ref p.1 := by
  rw [List.getElem?_map] at h
  cases e : rs[i]? with
  | none => rw [e] at h; cases h
  | some p => rw [e] at h; exact ⟨p, rfl, (Option.some.inj h).symm⟩
theorem sc_block_words : FnScope ["block", "words", "row"] ["block"] (defScope s_block_words) := ⟨rfl, rfl, rfl, by decide +kernel, rfl, by decide +kernel, by decide +kernel⟩
theorem bw_step {f : Addr} {fd : FuncData} (F : Fun K "block_words" "block_words" s_block_words f fd) (T : Txt P K mg CB fB CC CR CX aK aS) {d : Nat} (Gexpression_words : CalX P w K mg base CX0 6 "expression_words" (spEW 5))
    (Gany : ∃ sp, CalX P w K mg base CX0 (d + 6) "block_words" sp ∧ ∀ d', d = d' + 1 → sp = spBW d') : FnOk P w K mg base CX0 (d + 7) f fd ["block"] (spBW d) := by
  obtain ⟨spB, Gblock_words, hsp⟩ := Gany
  refine F.ok sc_block_words (fun vs H Q E h => ?_) (fun cdv A outer s H vs Q E hr h => ?_)
  · obtain ⟨a, rs, rfl, _⟩ := h
    rfl
  obtain ⟨a, rs, rfl, hb, hz, k⟩ := h
  refine ⟨_, (pss_cons (ps_set (i := 1) sc_block_words.nd rfl (Or.inl rfl) (pe_lst pa_nil))
 (pss_cons (ps_for PassesOwn.never rfl (pi_tup (pv 0)) (pg_name (i := 2) sc_block_words.nd rfl (Or.inl rfl))
 (pss_one (ps_if (pt_cmpR op_eq (pe_ix ix_tup (pv 2) pe_int (fun _ _ => rfl)) pe_str (nomark _))
 (pss_cons (ps_expr (pe_bm PySem.F.plainAttrs_list PySem.F.slot_list_extend PySem.F.type_list_extend mt_extend (pv 1) (pa_cons (pe_lst (pa_cons pe_str (StX.pa_star (pe_cx Gexpression_words hr pass0 (pa_cons (pe_ix ix_tup (pv 2) pe_int (fun _ _ => rfl)) pa_nil)) (StX.pa_star (pe_cx Gblock_words hr pass0 (pa_cons (pe_ix ix_tup (pv 2) pe_int (fun _ _ => rfl)) pa_nil)) pa_nil)))) pa_nil)))
 (pss_cons (ps_if (pt_truth (pe_ix ix_tup (pv 2) pe_int (fun _ _ => rfl)) (by intro _; rfl))
 (pss_one (ps_expr (pe_bm PySem.F.plainAttrs_list PySem.F.slot_list_extend PySem.F.type_list_extend mt_extend (pv 1) (pa_cons (pe_lst (pa_cons pe_str (StX.pa_star (pe_cx Gblock_words hr pass0 (pa_cons (pe_ix ix_tup (pv 2) pe_int (fun _ _ => rfl)) pa_nil)) pa_nil))) pa_nil))))
 pss_nil)
 (pss_one (ps_expr (pe_bm PySem.F.plainAttrs_list PySem.F.slot_list_append PySem.F.type_list_append mt_append (pv 1) (pa_cons pe_str pa_nil))))))
 (pss_one (ps_if (pt_cmpR op_eq (pe_ix ix_tup (pv 2) pe_int (fun _ _ => rfl)) pe_str (nomark _))
 (pss_one (ps_expr (pe_bm PySem.F.plainAttrs_list PySem.F.slot_list_extend PySem.F.type_list_extend mt_extend (pv 1) (pa_cons (pe_lst (pa_cons pe_str (pa_cons (pe_ix ix_tup (pv 2) pe_int (fun _ _ => rfl)) (pa_cons (pe_callTy call_str_int (by rfl) T.str_ (by decide +kernel) (pa_cons (pe_ix ix_tup (pv 2) pe_int (fun _ _ => rfl)) pa_nil)) pa_nil)))) pa_nil))))
 (pss_one (ps_expr (pe_bm PySem.F.plainAttrs_list PySem.F.slot_list_extend PySem.F.type_list_extend mt_extend (pv 1) (pa_cons (pe_lst (StX.pa_star (pe_slice sl_tup (pv 2) po_none (po_some pe_neg1)) (StX.pa_star (pe_cx Gexpression_words hr pass0 (pa_cons (pe_ix ix_tup (pv 2) pe_neg1 (fun _ _ => rfl)) pa_nil)) pa_nil))) pa_nil)))))))))
 (pss_one (ps_ret (pv 1))))), ?_⟩
  refine ⟨Nat.zero_le _, fun wl hwl => ?_⟩
  refine ⟨_, rfl, a, rfl, ⟨_, SqT.of (same_new hwl _ _ _ hb.1)⟩, for_tup (xs := rs.map fun p => V.ref p.1) (fun i σ H' => ∃ v, σ = [some (.ref a), some (.ref wl), v] ∧ Same H H' ∧ H' wl = some (.lst ((wsOf (rs.take i)).map V.str))) ⟨none, rfl, same_new hwl _, upd_same⟩
    (fun i σ H' _ ⟨_, _, s1, _⟩ => SqT.of (s1 _ _ hb.1)) ?_ ?_⟩
  · rintro i x σ H' hi ⟨v, rfl, s1, hw⟩
    obtain ⟨p, hp, rfl⟩ := rs_of hi
    have st := (hb.2 p (List.mem_of_getElem? hp)).keep (Same.tk s1)
    have tot := wsOf_le hp
    have fin : ∀ (v : V) (H2 : Hp), Same H H2 → H2 wl = some (.lst ((wsOf (rs.take i) ++ p.2).map V.str)) → ∃ v', [some (V.ref a), some (V.ref wl), some v] = [some (.ref a), some (.ref wl), v'] ∧ Same H H2 ∧ H2 wl = some (.lst ((wsOf (rs.take (i + 1))).map V.str)) := fun v H2 s2 h2 => ⟨some v, rfl, s2, by rw [wsOf_take hp]; exact h2⟩
    have keepW : ∀ {H2 : Hp} {o : HO}, Same H H2 → Same H (upd H2 wl o) := fun {H2 o} s2 b u q => by rw [upd_ne (ne_of_none q hwl)]; exact s2 b u q
    obtain ⟨pa, pw⟩ := p
    have st2 : PlW H' pa pw ∨ ∃ d', d = d' + 1 ∧ ∃ (b t o : Addr) (we : List Str) (rt ro : List (Addr × List Str)), H' pa = some (.tup [.str "if", .ref b, .ref t, .ref o]) ∧ ExW H' 5 b we ∧ BlL (StW H' d') H' t rt ∧ BlL (StW H' d') H' o ro ∧
      pw = ("if" : Str) :: (we ++ wsOf rt ++ elseW ro ++ [("end" : Str)]) := by
      cases d with
      | zero => exact .inl st
      | succ d' =>
        rcases st with st | st
        · exact .inl st
        · exact .inr ⟨d', rfl, st⟩
    rcases st2 with (⟨kw, x, b, we, hk, h, ex, rfl⟩ | ⟨b, we, h, ex, rfl⟩ | ⟨x, n, h, n1, n6, rfl⟩) | ⟨d', rfl, b, t, o, we, rt, ro, h, ex, bt, bo, rfl⟩
    · -- set, use
      refine ⟨_, rfl, pa, _, _, _, rfl, rfl, SqT.of h, rfl, rfl, _, rfl, ?_⟩
      have k1 : decide (V.str kw = V.str ("if" : Str)) = false := decide_eq_false fun z => by rcases hk with rfl | rfl <;> exact absurd (V.str.inj z) (by decide +kernel)
      have k2 : decide (V.str kw = V.str ("draw" : Str)) = false := decide_eq_false fun z => by rcases hk with rfl | rfl <;> exact absurd (V.str.inj z) (by decide +kernel)
      rw [k1]
      refine iteF ⟨_, rfl, pa, _, _, _, rfl, rfl, SqT.of h, rfl, rfl, _, rfl, ?_⟩
      rw [k2]
      refine iteF ⟨_, rfl, .inl ⟨rfl, _, SqL.of hw⟩, _, rfl, _, rfl, _, rfl, pa, _, rfl, SqT.of h, by show ¬ (HT.sIx 3 0 none = 0 ∧ HT.sIx 3 3 (some (-1)) = 3); decide, fun q hq => ?_⟩
      have hq2 : (upd H' q (.tup (cutV [V.str kw, V.str x, V.ref b] none (some (-1))))) q = some (.tup [.str kw, .str x]) := upd_same
      have s2 := same_new hq (.tup (cutV [V.str kw, V.str x, V.ref b] none (some (-1))))
      refine ⟨q, _, rfl, .inl (SqT.of hq2), _, rfl, _, rfl, pa, _, _, _, rfl, rfl, SqT.of (s2 _ _ h), rfl, b, we, rfl, by decide, ex.keep (Same.tk s2), fun l1 H1 s3 nl1 hl1 => ?_⟩
      refine ⟨l1, _, rfl, .inr (SqL.of hl1), ?_, fun l2 hl2 => ?_⟩
      · have := ex.len; simp only [List.length_cons, List.length_append, List.length_map, List.length_nil] at this ⊢; exact small (by omega)
      · have s4 : ∀ o, Same H' (upd H1 l2 o) := fun o => s2.trans (s3.trans (same_new hl2 o))
        refine ⟨wl, l2, _, _, rfl, rfl, s4 _ _ _ hw, upd_same, ?_, ?_⟩
        · simp only [List.length_cons, List.length_append, List.length_map, List.length_nil] at tot ⊢; omega
        · refine fin _ _ (keepW (s1.trans (s4 _))) ?_
          rw [upd_same]; simp
    · -- say
      refine ⟨_, rfl, pa, _, _, _, rfl, rfl, SqT.of h, rfl, rfl, _, rfl, ?_⟩
      have k1 : decide (V.str "say" = V.str ("if" : Str)) = false := decide_eq_false fun z => absurd (V.str.inj z) (by decide +kernel)
      have k2 : decide (V.str "say" = V.str ("draw" : Str)) = false := decide_eq_false fun z => absurd (V.str.inj z) (by decide +kernel)
      rw [k1]
      refine iteF ⟨_, rfl, pa, _, _, _, rfl, rfl, SqT.of h, rfl, rfl, _, rfl, ?_⟩
      rw [k2]
      refine iteF ⟨_, rfl, .inl ⟨rfl, _, SqL.of hw⟩, _, rfl, _, rfl, _, rfl, pa, _, rfl, SqT.of h, by show ¬ (HT.sIx 2 0 none = 0 ∧ HT.sIx 2 2 (some (-1)) = 2); decide, fun q hq => ?_⟩
      have hq2 : (upd H' q (.tup (cutV [V.str "say", V.ref b] none (some (-1))))) q = some (.tup [.str "say"]) := upd_same
      have s2 := same_new hq (.tup (cutV [V.str "say", V.ref b] none (some (-1))))
      refine ⟨q, _, rfl, .inl (SqT.of hq2), _, rfl, _, rfl, pa, _, _, _, rfl, rfl, SqT.of (s2 _ _ h), rfl, b, we, rfl, by decide, ex.keep (Same.tk s2), fun l1 H1 s3 nl1 hl1 => ?_⟩
      refine ⟨l1, _, rfl, .inr (SqL.of hl1), ?_, fun l2 hl2 => ?_⟩
      · have := ex.len; simp only [List.length_cons, List.length_append, List.length_map, List.length_nil] at this ⊢; exact small (by omega)
      · have s4 : ∀ o, Same H' (upd H1 l2 o) := fun o => s2.trans (s3.trans (same_new hl2 o))
        refine ⟨wl, l2, _, _, rfl, rfl, s4 _ _ _ hw, upd_same, ?_, ?_⟩
        · simp only [List.length_cons, List.length_append, List.length_map, List.length_nil] at tot ⊢; omega
        · refine fin _ _ (keepW (s1.trans (s4 _))) ?_
          rw [upd_same]; simp
    · -- draw
      refine ⟨_, rfl, pa, _, _, _, rfl, rfl, SqT.of h, rfl, rfl, _, rfl, ?_⟩
      have k1 : decide (V.str "draw" = V.str ("if" : Str)) = false := decide_eq_false fun z => absurd (V.str.inj z) (by decide +kernel)
      rw [k1]
      refine iteF ⟨_, rfl, pa, _, _, _, rfl, rfl, SqT.of h, rfl, rfl, _, rfl, ?_⟩
      rw [decide_eq_true rfl]
      refine iteT ⟨_, rfl, .inl ⟨rfl, _, SqL.of hw⟩, _, rfl, pa, _, _, _, rfl, rfl, SqT.of h, rfl, _, rfl, pa, _, _, _, rfl, rfl, SqT.of h, rfl, n, rfl, lg (by omega) (by omega), by show 3 ≤ sizeLine; decide, fun l2 hl2 => ?_⟩
      refine ⟨wl, l2, _, _, rfl, rfl, same_new hl2 _ _ _ hw, upd_same, ?_, ?_⟩
      · simp only [List.length_cons, List.length_append, List.length_map, List.length_nil] at tot ⊢; omega
      · refine fin _ _ (keepW (s1.trans (same_new hl2 _))) ?_
        rw [upd_same]; simp; rfl
    · -- if
      have e := hsp d' rfl
      subst e
      refine ⟨_, rfl, pa, _, _, _, rfl, rfl, SqT.of h, rfl, rfl, _, rfl, ?_⟩
      rw [decide_eq_true rfl]
      simp only [List.length_cons, List.length_append, List.length_nil] at tot
      refine iteT ⟨_, rfl, .inl ⟨rfl, _, SqL.of hw⟩, _, rfl, pa, _, _, _, rfl, rfl, SqT.of h, rfl, b, we, rfl, by decide, ex, fun l1 H1 s2 nl1 hl1 => ?_⟩
      refine ⟨l1, _, rfl, .inr (SqL.of hl1), _, rfl, pa, _, _, _, rfl, rfl, SqT.of (s2 _ _ h), rfl, t, rt, rfl, bt.keep (Same.tk s2), by omega, fun l2 H2 s3 nl2 hl2 => ?_⟩
      refine ⟨l2, _, rfl, .inr (SqL.of hl2), ?_, fun l3 hl3 => ?_⟩
      · simp only [List.length_cons, List.length_append, List.length_map, List.length_nil]; omega
      have s4 : Same H' (upd H2 l3 (.lst (V.str "if" :: (we.map V.str ++ ((wsOf rt).map V.str ++ []))))) := s2.trans (s3.trans (same_new hl3 _))
      refine ⟨wl, l3, _, _, rfl, rfl, s4 _ _ hw, upd_same, ?_, ?_⟩
      · simp only [List.length_cons, List.length_append, List.length_map, List.length_nil]; omega
      have hw5 : (upd (upd H2 l3 (.lst (V.str "if" :: (we.map V.str ++ ((wsOf rt).map V.str ++ []))))) wl (.lst ((wsOf (rs.take i)).map V.str ++ (V.str "if" :: (we.map V.str ++ ((wsOf rt).map V.str ++ [])))))) wl = some (.lst ((wsOf (rs.take i) ++ ("if" : Str) :: (we ++ wsOf rt)).map V.str)) := by rw [upd_same]; simp
      have s5 := keepW (o := .lst ((wsOf (rs.take i)).map V.str ++ (V.str "if" :: (we.map V.str ++ ((wsOf rt).map V.str ++ []))))) (s1.trans s4)
      have tk5 : Tk H' (upd (upd H2 l3 (.lst (V.str "if" :: (we.map V.str ++ ((wsOf rt).map V.str ++ []))))) wl (.lst ((wsOf (rs.take i)).map V.str ++ (V.str "if" :: (we.map V.str ++ ((wsOf rt).map V.str ++ [])))))) := (Same.tk s4).trans (Tk.upd (s4 _ _ hw) (by intro xs z; cases z))
      generalize upd (upd H2 l3 (.lst (V.str "if" :: (we.map V.str ++ ((wsOf rt).map V.str ++ []))))) wl (.lst ((wsOf (rs.take i)).map V.str ++ (V.str "if" :: (we.map V.str ++ ((wsOf rt).map V.str ++ []))))) = H5 at hw5 s5 tk5 ⊢
      clear hl3 s4 s3 hl2 hl1 s2
      have bo5 := bo.keep tk5
      refine ⟨_, rfl, pa, _, _, _, rfl, rfl, SqT.of (tk5 _ _ h), rfl, _, .inr (.inl ⟨_, SqT.of bo5.1, rfl⟩), ?_⟩
      by_cases hro : ro = []
      · rw [emp_f hro]
        refine iteF ⟨_, rfl, .inl ⟨rfl, _, SqL.of hw5⟩, wl, _, _, rfl, rfl, hw5, ?_, ?_⟩
        · simp only [List.length_append, List.length_cons, List.length_map]; omega
        · refine fin _ _ (keepW s5) ?_
          rw [upd_same]; simp [elseW, hro]
      · rw [emp_t hro]
        have el : elseW ro = ("else" : Str) :: wsOf ro := by unfold elseW; rw [if_neg hro]
        rw [el] at tot
        simp only [List.length_cons] at tot
        refine iteT ⟨_, rfl, .inl ⟨rfl, _, SqL.of hw5⟩, _, rfl, pa, _, _, _, rfl, rfl, SqT.of (tk5 _ _ h), rfl, o, ro, rfl, bo5, by omega, fun l6 H6 s6 nl6 hl6 => ?_⟩
        refine ⟨l6, _, rfl, .inr (SqL.of hl6), ?_, fun l7 hl7 => ?_⟩
        · simp only [List.length_cons, List.length_append, List.length_map, List.length_nil]; omega
        have s7 := s6.trans (same_new hl7 (.lst (V.str "else" :: ((wsOf ro).map V.str ++ []))))
        refine ⟨wl, l7, _, _, rfl, rfl, s7 _ _ hw5, upd_same, ?_, ?_⟩
        · simp only [List.length_cons, List.length_append, List.length_map, List.length_nil]; omega
        refine ⟨_, rfl, .inl ⟨rfl, _, SqL.of upd_same⟩, wl, _, _, rfl, rfl, upd_same, ?_, ?_⟩
        · simp only [List.length_cons, List.length_append, List.length_map, List.length_nil]; omega
        · refine fin _ _ (keepW (keepW (s5.trans s7))) ?_
          rw [upd_same, el]; simp
  · rintro σ H' ⟨v, rfl, s1, hw⟩
    refine ⟨_, rfl, k wl H' s1 hwl ?_⟩
    rw [List.length_map, List.take_length] at hw
    exact hw
theorem bw_all {f : Addr} {fd : FuncData} (F : Fun K "block_words" "block_words" s_block_words f fd) (T : Txt P K mg CB fB CC CR CX aK aS) (Gexpression_words : CalX P w K mg base CX0 6 "expression_words" (spEW 5)) (m : mg "block_words" = some (.ref f)) (bi : Binds K fd ["block"] []) :
    ∀ d, CalX P w K mg base CX0 (d + 7) "block_words" (spBW d)
  | 0 => ⟨f, fd, _, bw_step F T Gexpression_words ⟨fun _ _ _ _ => False, ⟨f, fd, ["block"], ⟨fun vs H Q E h => h.elim, fun A outer s H args us vs Q E _ _ _ _ h => h.elim⟩, m, F.kp, bi⟩, fun d' h => by cases h⟩, m, F.kp, bi⟩
  | d + 1 => ⟨f, fd, _, bw_step F T Gexpression_words ⟨spBW d, bw_all F T Gexpression_words m bi d, fun d' h => by cases h; rfl⟩, m, F.kp, bi⟩
theorem sc_box_text : FnScope ["box", "words", "name", "size"] ["box"] (defScope s_box_text) := ⟨rfl, rfl, rfl, by decide +kernel, rfl, by decide +kernel, by decide +kernel⟩
theorem ok_box_text {f : Addr} {fd : FuncData} (F : Fun K "box_text" "box_text" s_box_text f fd) (T : Txt P K mg CB fB CC CR CX aK aS) (Gblock_words : CalX P w K mg base CX0 11 "block_words" (spBW 4)) : FnOk P w K mg base CX0 12 f fd ["box"] (spBoxText CX) := by
  refine F.ok sc_box_text (fun vs H Q E h => ?_) (fun cdv A outer s H vs Q E hr h => ?_)
  · obtain ⟨x, ws, rfl, _⟩ := h
    rfl
  obtain ⟨x, ws, rfl, ⟨dx, v, s0, t, b, a, vars, rs, rt, ho, b1, b4, a1, a4, ⟨hv, hvars⟩, bs, bt, ew⟩, hz, k⟩ := h
  refine ⟨_, (pss_cons (ps_set (i := 1) sc_box_text.nd rfl (Or.inl rfl) (pe_lst (pa_cons pe_str (pa_cons (pe_callTy call_str_int (by rfl) T.str_ (by decide +kernel) (pa_cons (pe_fld (pv 0) rfl) pa_nil)) (pa_cons pe_str (pa_cons (pe_callTy call_str_int (by rfl) T.str_ (by decide +kernel) (pa_cons (pe_fld (pv 0) rfl) pa_nil)) pa_nil))))))
 (pss_cons (ps_for PassesOwn.never rfl (pi_tup (pe_fld (pv 0) rfl)) (pg_tup rfl (pgs_cons (pg_name (i := 2) sc_box_text.nd rfl (Or.inl rfl)) (pgs_cons (pg_name (i := 3) sc_box_text.nd rfl (Or.inl rfl)) pgs_nil)))
 (pss_one (ps_expr (pe_bm PySem.F.plainAttrs_list PySem.F.slot_list_extend PySem.F.type_list_extend mt_extend (pv 1) (pa_cons (pe_lst (pa_cons pe_str (pa_cons (pv 2) (pa_cons (pe_callTy call_str_int (by rfl) T.str_ (by decide +kernel) (pa_cons (pv 3) pa_nil)) pa_nil)))) pa_nil)))))
 (pss_one (ps_ret (pe_join pe_str (pe_lst (StX.pa_star (pv 1) (pa_cons pe_str (StX.pa_star (pe_cx Gblock_words hr pass0 (pa_cons (pe_fld (pv 0) rfl) pa_nil)) (pa_cons pe_str (StX.pa_star (pe_cx Gblock_words hr pass0 (pa_cons (pe_fld (pv 0) rfl) pa_nil)) pa_nil))))))))))), ?_⟩
  have bl := bf_look b a v s0 t
  have tot : ws.length ≤ 16777216 := by omega
  have tot2 : 4 + (varW vars).length + 1 + (wsOf rs).length + 1 + (wsOf rt).length = ws.length := by
    rw [ew]; simp only [List.length_cons, List.length_append, List.length_nil]; omega
  refine ⟨_, rfl, x, CX, dx, _, _, rfl, ho, T.clBox, T.xButtons, bl.1, b, rfl, lg (by omega) (by omega), _, rfl, x, CX, dx, _, _, rfl, ho, T.clBox, T.xAnswers, bl.2.1, a, rfl, lg (by omega) (by omega), by show 4 ≤ sizeLine; decide, fun wl hwl => ?_⟩
  have s1 := same_new hwl (.lst [V.str "buttons", V.str (numS b), V.str "answers", V.str (numS a)])
  refine ⟨_, rfl, x, CX, dx, _, _, rfl, s1 _ _ ho, T.clBox, T.xVariables, bl.2.2.1, v, rfl, ⟨_, SqT.of (s1 _ _ hv)⟩, for_tup (xs := vars.map fun p => V.ref p.1) (fun i σ H' => ∃ v2 v3, σ = [some (.ref x), some (.ref wl), v2, v3] ∧ Same H H' ∧ H' wl = some (.lst (([("buttons" : Str), numS b, ("answers" : Str), numS a] ++ varW (vars.take i)).map V.str))) ⟨none, none, rfl, s1, upd_same⟩
    (fun i σ H' _ ⟨_, _, _, s2, _⟩ => SqT.of (s2 _ _ hv)) ?_ ?_⟩
  · rintro i y σ H' hi ⟨v2, v3, rfl, s2, hw⟩
    obtain ⟨p, hp, rfl⟩ : ∃ p, vars[i]? = some p ∧ y = .ref p.1 := by
      rw [List.getElem?_map] at hi
      cases e : vars[i]? with
      | none => rw [e] at hi; cases hi
      | some p => rw [e] at hi; exact ⟨p, rfl, (Option.some.inj hi).symm⟩
    obtain ⟨hq, q1, q12⟩ := hvars p (List.mem_of_getElem? hp)
    have et : varW (vars.take (i + 1)) = varW (vars.take i) ++ [("var" : Str), p.2.1, numS p.2.2] := by rw [List.take_succ, hp]; simp [varW]
    have el : (varW (vars.take (i + 1))).length ≤ (varW vars).length := by
      have e2 : varW vars = varW (vars.take (i + 1)) ++ varW (vars.drop (i + 1)) := by
        unfold varW
        rw [← List.flatMap_append, List.take_append_drop]
      rw [e2, List.length_append]; omega
    rw [et] at el
    simp only [List.length_append, List.length_cons, List.length_nil] at el
    refine ⟨p.1, _, rfl, SqT.of (s2 _ _ hq), rfl, _, _, rfl, _, _, rfl, rfl, ?_⟩
    refine ⟨_, rfl, .inl ⟨rfl, _, SqL.of hw⟩, _, rfl, _, rfl, p.2.2, rfl, lg (by omega) (by omega), by show 3 ≤ sizeLine; decide, fun l2 hl2 => ?_⟩
    refine ⟨wl, l2, _, _, rfl, rfl, same_new hl2 _ _ _ hw, upd_same, ?_, ?_⟩
    · refine small ?_
      simp only [List.length_map, List.length_append, List.length_cons, List.length_nil]; omega
    · refine ⟨_, _, rfl, fun b' o' q => by rw [upd_ne (ne_of_none q hwl)]; exact (s2.trans (same_new hl2 _)) b' o' q, ?_⟩
      rw [upd_same, et]; simp; rfl
  · rintro σ H' ⟨v2, v3, rfl, s2, hw⟩
    rw [List.length_map, List.take_length] at hw
    refine ⟨⟨_, rfl⟩, ?_⟩
    refine ⟨_, rfl, wl, _, rfl, .inr (SqL.of hw), _, rfl, x, CX, dx, _, _, rfl, s2 _ _ ho, T.clBox, T.xStart, bl.2.2.2.1, s0, rs, rfl, bs.keep (Same.tk s2), small (by omega), fun l1 H1 s3 n1 hl1 => ?_⟩
    refine ⟨l1, _, rfl, .inr (SqL.of hl1), _, rfl, x, CX, dx, _, _, rfl, s3 _ _ (s2 _ _ ho), T.clBox, T.xBlock, bl.2.2.2.2, t, rt, rfl, bt.keep (Same.tk (s2.trans s3)), small (by omega), fun l2 H2 s4 n2 hl2 => ?_⟩
    refine ⟨l2, _, rfl, .inr (SqL.of hl2), ?_, fun l hl => ?_⟩
    · refine small ?_
      simp only [List.length_cons, List.length_append, List.length_map, List.length_nil]; omega
    · refine ⟨" ", l, ws, rfl, rfl, .inl (SqL.of ?_), ?_, k _⟩
      · rw [upd_same, ew]; simp
      · rw [show ((" " : Str)).length = 1 by decide +kernel]; omega
end
end Nt

set_option Elab.async false
set_option linter.all false
set_option maxRecDepth 100000
set_option maxHeartbeats 2000000
namespace Nt
open PySem L2
def Kd.str : Kd → Str
  | .start => "start"
  | .top => "top"
  | .thn => "then"
  | .els => "else"
  | .emp => "empty"
def ItAt (H : Hp) (a : Addr) : It → Prop
  | .head => H a = some (.tup [.str "head"])
  | .num lo hi => H a = some (.tup [.str "number", .int lo, .int hi])
  | .word w => H a = some (.tup [.str "word", .str w])
  | .one => H a = some (.tup [.str "one"])
  | .new => H a = some (.tup [.str "new"])
  | .blk r k => H a = some (.tup [.str "block", .int r, .str k.str])
  | .val nm r => ∃ q, H a = some (.tup [.str "value", .ref q, .int r]) ∧ H q = some (.tup (nm.map V.str))
theorem ItAt.keep {H H' : Hp} (t : Tk H H') {a : Addr} {x : It} (h : ItAt H a x) : ItAt H' a x := by
  cases x with
  | val nm r =>
    obtain ⟨q, h1, h2⟩ := h
    exact ⟨q, t _ _ h1, t _ _ h2⟩
  | _ => exact t _ _ h
/-- the stack: its top is the list's last -/
def StkAt (H : Hp) (sl : Addr) (st : List It) : Prop := ∃ as : List Addr, H sl = some (.lst (as.reverse.map V.ref)) ∧ Paired (ItAt H) as st
theorem paired_keep {H H' : Hp} (t : Tk H H') : ∀ {as : List Addr} {st : List It}, Paired (ItAt H) as st → Paired (ItAt H') as st
  | _, _, .nil => .nil
  | _, _, .cons h r => .cons (h.keep t) (paired_keep t r)
theorem StkAt.len {H : Hp} {sl : Addr} {st : List It} (h : StkAt H sl st) : ∃ as : List Addr, H sl = some (.lst (as.reverse.map V.ref)) ∧ Paired (ItAt H) as st ∧ (as.reverse.map V.ref).length = st.length := by
  obtain ⟨as, h1, h2⟩ := h
  exact ⟨as, h1, h2, by rw [List.length_map, List.length_reverse, Paired.length h2]⟩
theorem StkAt.keep {H H' : Hp} {sl : Addr} {st : List It} (h : StkAt H sl st) (t : Tk H H') (e : H' sl = H sl) : StkAt H' sl st := by
  obtain ⟨as, h1, h2⟩ := h
  exact ⟨as, by rw [e]; exact h1, paired_keep t h2⟩
theorem StkAt.same {H H' : Hp} {sl : Addr} {st : List It} (h : StkAt H sl st) (s : Same H H') : StkAt H' sl st := by
  obtain ⟨as, h1, h2⟩ := h
  exact ⟨as, s _ _ h1, paired_keep (fun b xs z => s b _ z) h2⟩
/-- behind a push -/
theorem StkAt.push {H H' : Hp} {sl a : Addr} {as : List Addr} {st : List It} {x : It} (h2 : Paired (ItAt H) as st) (t : Tk H H') (e : H' sl = some (.lst (as.reverse.map V.ref ++ [.ref a]))) (hx : ItAt H' a x) : StkAt H' sl (x :: st) :=
  ⟨a :: as, by rw [e]; simp, .cons hx (paired_keep t h2)⟩
theorem StkAt.push2 {H H' : Hp} {sl a b : Addr} {as : List Addr} {st : List It} {x y : It} (h2 : Paired (ItAt H) as st) (t : Tk H H') (e : H' sl = some (.lst (as.reverse.map V.ref ++ [.ref a, .ref b]))) (hx : ItAt H' a x) (hy : ItAt H' b y) : StkAt H' sl (y :: x :: st) :=
  ⟨b :: a :: as, by rw [e]; simp, .cons hy (.cons hx (paired_keep t h2))⟩
def scd (n e : Addr) (dr us : Int) : List (Key × V) := [(.inr "names", .ref n), (.inr "extra", .ref e), (.inr "draws", .int dr), (.inr "uses", .int us)]
theorem kne {a b : Str} (h : ¬ a = b) : ¬ ((Sum.inr a : Key) = Sum.inr b) := fun z => h (Sum.inr.inj z)
theorem scd_names (n e : Addr) (dr us : Int) : valV (scd n e dr us) (.inr "names") = some (.ref n) := by unfold scd; rw [valV_pos rfl]
theorem scd_extra (n e : Addr) (dr us : Int) : valV (scd n e dr us) (.inr "extra") = some (.ref e) := by unfold scd; rw [valV_neg (kne (by decide +kernel)), valV_pos rfl]
theorem scd_draws (n e : Addr) (dr us : Int) : valV (scd n e dr us) (.inr "draws") = some (.int dr) := by unfold scd; rw [valV_neg (kne (by decide +kernel)), valV_neg (kne (by decide +kernel)), valV_pos rfl]
theorem scd_uses (n e : Addr) (dr us : Int) : valV (scd n e dr us) (.inr "uses") = some (.int us) := by unfold scd; rw [valV_neg (kne (by decide +kernel)), valV_neg (kne (by decide +kernel)), valV_neg (kne (by decide +kernel)), valV_pos rfl]
theorem put_any {kvs : List (Key × V)} {k : Str} {v o : V} (h : valV kvs (.inr k) = some o) : putK kvs (.inr k) v = kvs.map (fun kv => if kv.1 = .inr k then (kv.1, v) else kv) := by
  unfold putK; rw [valV_any, h]; exact if_pos rfl
theorem scd_pextra (n e : Addr) (dr us : Int) (q : Addr) : putK (scd n e dr us) (.inr "extra") (.ref q) = scd n q dr us := by
  rw [put_any (scd_extra n e dr us)]; unfold scd
  simp only [List.map_cons, List.map_nil, if_neg (kne (a := "names") (b := "extra") (by decide +kernel)), if_neg (kne (a := "draws") (b := "extra") (by decide +kernel)), if_neg (kne (a := "uses") (b := "extra") (by decide +kernel)), if_true]
theorem scd_pdraws (n e : Addr) (dr us z : Int) : putK (scd n e dr us) (.inr "draws") (.int z) = scd n e z us := by
  rw [put_any (scd_draws n e dr us)]; unfold scd
  simp only [List.map_cons, List.map_nil, if_neg (kne (a := "names") (b := "draws") (by decide +kernel)), if_neg (kne (a := "extra") (b := "draws") (by decide +kernel)), if_neg (kne (a := "uses") (b := "draws") (by decide +kernel)), if_true]
theorem scd_puses (n e : Addr) (dr us z : Int) : putK (scd n e dr us) (.inr "uses") (.int z) = scd n e dr z := by
  rw [put_any (scd_uses n e dr us)]; unfold scd
  simp only [List.map_cons, List.map_nil, if_neg (kne (a := "names") (b := "uses") (by decide +kernel)), if_neg (kne (a := "extra") (b := "uses") (by decide +kernel)), if_neg (kne (a := "draws") (b := "uses") (by decide +kernel)), if_true]
theorem dg {H : Hp} {a : Addr} {kvs : List (Key × V)} {k : Str} {v : V} (h : H a = some (.dK kvs)) (e : valV kvs (.inr k) = some v) : DGet H a (.str k) (some v) := by
  rw [← e]; exact DGet.k (k := .inr k) h
/-- the scope at d: its names at n, extra words at e -/
structure ScAt (H : Hp) (d n : Addr) (sc : Sc) : Prop where
  ex : ∃ e, H d = some (.dK (scd n e sc.dr sc.us)) ∧ H e = some (.tup (sc.ex.map V.str))
  hn : H n = some (.lst (sc.nm.map V.str))
theorem ScAt.same {H H' : Hp} {d n : Addr} {sc : Sc} (h : ScAt H d n sc) (s : Same H H') : ScAt H' d n sc := by
  obtain ⟨e, h1, h2⟩ := h.ex
  exact ⟨⟨e, s _ _ h1, s _ _ h2⟩, s _ _ h.hn⟩
theorem ScAt.keep {H H' : Hp} {d n : Addr} {sc : Sc} (h : ScAt H d n sc) (t : Tk H H') (e1 : H' d = H d) (e2 : H' n = H n) : ScAt H' d n sc := by
  obtain ⟨e, h1, h2⟩ := h.ex
  exact ⟨⟨e, by rw [e1]; exact h1, t _ _ h2⟩, by rw [e2]; exact h.hn⟩
theorem rCatA_of {K : PySem.W.Frag} {H : Hp} {a b : Addr} {xs ys : List V} {Q : VK} (hx : H a = some (.tup xs)) (hy : H b = some (.tup ys)) (hz : xs.length + ys.length ≤ sizeLine) (h : ∀ q H2, Same H H2 → H2 q = some (.tup (xs ++ ys)) → Q (.ref q) H2) :
    rCatA K (.ref a) (.ref b) H Q :=
  ⟨a, b, xs, ys, rfl, rfl, SqT.of hx, SqT.of hy, hz, fun e => h b H (Same.refl H) (by rw [e]; exact hy), fun _ e => h a H (Same.refl H) (by rw [e, List.append_nil]; exact hx), fun _ _ p hp => h p _ (same_new hp _) upd_same⟩
/-- what follows, cut off by the heap, by an answer, by a text -/
theorem cutH {R : Hp → Prop} {G : Prop} {P : Hp → Prop} (h1 : (∀ H2, P H2 → R H2) → G) (h2 : ∀ H2, P H2 → R H2) : G := h1 h2
theorem cutB {R : Bool → Prop} {G : Prop} {P : Bool → Prop} (h1 : (∀ b, P b → R b) → G) (h2 : ∀ b, P b → R b) : G := h1 h2
theorem cutS {R : Str → Prop} {G : Prop} {P : Str → Prop} (h1 : (∀ b, P b → R b) → G) (h2 : ∀ b, P b → R b) : G := h1 h2
theorem ScAt.kp {L : List Addr} {H H' : Hp} {d n : Addr} {sc : Sc} (h : ScAt H d n sc) (k : Keep L H H') (h1 : d ∉ L) (h2 : n ∉ L) (h3 : ∀ e xs, H e = some (.tup xs) → e ∉ L) : ScAt H' d n sc := by
  obtain ⟨e, q1, q2⟩ := h.ex
  exact ⟨⟨e, k _ _ q1 h1, k _ _ q2 (h3 _ _ q2)⟩, k _ _ h.hn h2⟩
theorem ScAt.dn {H : Hp} {d n sl : Addr} {sc : Sc} {st : List It} (h : ScAt H d n sc) (s : StkAt H sl st) : sl ≠ d := by
  obtain ⟨e, q1, q2⟩ := h.ex
  obtain ⟨as, p1, _⟩ := s
  exact ne_of p1 q1 (by intro z; cases z)
/-- behind a push of one new tuple -/
theorem psh {H : Hp} {sl a : Addr} {as : List Addr} {st : List It} {xs : List V} {x : It} (h1 : H sl = some (.lst (as.reverse.map V.ref))) (h2 : Paired (ItAt H) as st) (ha : H a = none) (hx : ∀ H', H' a = some (.tup xs) → Tk H H' → ItAt H' a x) :
    StkAt (upd (upd H a (.tup xs)) sl (.lst (as.reverse.map V.ref ++ [.ref a]))) sl (x :: st) ∧ Keep [sl] H (upd (upd H a (.tup xs)) sl (.lst (as.reverse.map V.ref ++ [.ref a]))) := by
  have hs := ne_of_none h1 ha
  have t : Tk H (upd (upd H a (.tup xs)) sl (.lst (as.reverse.map V.ref ++ [.ref a]))) := (Tk.new ha).trans (Tk.upd (same_new ha _ _ _ h1) (by intro xs z; cases z))
  exact ⟨StkAt.push h2 t upd_same (hx _ (by rw [upd_ne hs.symm, upd_same]) t), (Keep.new ha).trans (Keep.upd (by simp))⟩
theorem psh2 {H : Hp} {sl a b l : Addr} {as : List Addr} {st : List It} {xs ys : List V} {x y : It} (h1 : H sl = some (.lst (as.reverse.map V.ref))) (h2 : Paired (ItAt H) as st) (ha : H a = none) (hb : (upd H a (.tup xs)) b = none) (hl : (upd (upd H a (.tup xs)) b (.tup ys)) l = none)
    (hx : ∀ H', H' a = some (.tup xs) → Tk H H' → ItAt H' a x) (hy : ∀ H', H' b = some (.tup ys) → Tk H H' → ItAt H' b y) :
    StkAt (upd (upd (upd (upd H a (.tup xs)) b (.tup ys)) l (.lst [.ref a, .ref b])) sl (.lst (as.reverse.map V.ref ++ [.ref a, .ref b]))) sl (y :: x :: st) ∧ Keep [sl] H (upd (upd (upd (upd H a (.tup xs)) b (.tup ys)) l (.lst [.ref a, .ref b])) sl (.lst (as.reverse.map V.ref ++ [.ref a, .ref b]))) ∧
    (upd (upd (upd H a (.tup xs)) b (.tup ys)) l (.lst [.ref a, .ref b])) sl = some (.lst (as.reverse.map V.ref)) := by
  have s1 := same_new ha (.tup xs)
  have s2 := same_new hb (.tup ys)
  have s3 := same_new hl (.lst [.ref a, .ref b])
  have hsl := s3 _ _ (s2 _ _ (s1 _ _ h1))
  have s123 := s1.trans (s2.trans s3)
  have a3 := s3 _ _ (s2 _ _ (show (upd H a (.tup xs)) a = some (.tup xs) from upd_same))
  have b3 := s3 _ _ (show (upd (upd H a (.tup xs)) b (.tup ys)) b = some (.tup ys) from upd_same)
  have tu := Tk.upd (o := .lst (as.reverse.map V.ref ++ [.ref a, .ref b])) hsl (by intro xs z; cases z)
  have t := Tk.trans (fun b xs z => s123 b _ z) tu
  exact ⟨StkAt.push2 h2 t upd_same (hx _ (tu _ _ a3) t) (hy _ (tu _ _ b3) t), (Keep.of_same s123).trans (Keep.upd (by simp)), hsl⟩
def wrV : Option Nat → V
  | none => .non
  | some i => .int i
def spLIsNum : Sp := fun vs H Q _ => ∃ (w : Str) (lo hi : Int), vs = [.str w, .int lo, .int hi] ∧ w.length ≤ sizeLine ∧ Q (.bl (isNum w lo hi)) H
def spLIsName : Sp := fun vs H Q _ => ∃ w : Str, vs = [.str w] ∧ w.length ≤ sizeLine ∧ ∀ H', Same H H' → Q (.bl (isName w)) H'
def spLValues : Sp := fun vs H Q _ => ∃ (sl q : Addr) (w : Str) (r : Int) (nm : List Str) (st : List It), vs = [.ref sl, .ref q, .str w, .int r] ∧ StkAt H sl st ∧ H q = some (.tup (nm.map V.str)) ∧ st.length + 2 ≤ sizeLine ∧ w.length ≤ sizeLine ∧
  (∀ sc st' H', step (.val nm r) st sc w = some (st', sc) → Keep [sl] H H' → StkAt H' sl st' → Q (.bl true) H') ∧ (∀ H', (∀ sc, step (.val nm r) st sc w = none) → Keep [sl] H H' → Q (.bl false) H')
def spLBlocks : Sp := fun vs H Q _ => ∃ (sl d n : Addr) (w : Str) (r : Int) (k : Kd) (st : List It) (sc : Sc), vs = [.ref sl, .ref d, .str w, .int r, .str k.str] ∧ StkAt H sl st ∧ ScAt H d n sc ∧ sl ≠ n ∧ st.length + 4 ≤ sizeLine ∧ sc.nm.length + sc.ex.length ≤ sizeLine ∧
  (∀ st' sc' H', blocks r k st sc w = some (st', sc') → Keep [sl, d] H H' → StkAt H' sl st' → ScAt H' d n sc' → Q (.bl true) H') ∧ (∀ H', blocks r k st sc w = none → Keep [sl, d] H H' → Q (.bl false) H')
def spLNext : Sp := fun vs H Q _ => ∃ (sl d n : Addr) (w : Str) (x : It) (st : List It) (sc : Sc), vs = [.ref sl, .ref d, .str w] ∧ StkAt H sl (x :: st) ∧ ScAt H d n sc ∧ sl ≠ n ∧ st.length + 5 ≤ sizeLine ∧ sc.nm.length + sc.ex.length + 1 ≤ sizeLine ∧ w.length ≤ sizeLine ∧
  (∀ st' sc' H', step x st sc w = some (st', sc') → Keep [sl, d, n] H H' → StkAt H' sl st' → ScAt H' d n sc' → Q (.bl true) H') ∧ (∀ H', step x st sc w = none → Keep [sl, d, n] H H' → Q (.bl false) H')
def spLWrong (K : PySem.W.Frag) : Sp := fun vs H Q _ => ∃ (wl : Addr) (ws : List Str) (us : Int), vs = [.ref wl, .int us] ∧ H wl = some (.lst (ws.map V.str)) ∧ ws.length ≤ 5000000 ∧ (∀ w, w ∈ ws → w.length ≤ sizeLine) ∧ ∀ H', Same H H' → Q (wrV (wrong ws us)) H'
theorem lgN {w : Str} (h5 : w.length ≤ 5) (h : digB w = true) : (numV w).natAbs.log2 < 1920 := by
  have q := val_le _ (allDig h)
  have e : (numV w).natAbs = NumText.digitsVal w.cps.toList := Int.natAbs_natCast _
  rw [← len_list] at q
  have : (10 : Nat) ^ w.length ≤ 10 ^ 5 := Nat.pow_le_pow_right (by decide) h5
  rw [e]
  by_cases z : NumText.digitsVal w.cps.toList = 0
  · rw [z]; decide
  · rw [Nat.log2_lt z]
    have : NumText.digitsVal w.cps.toList < 2 ^ 17 := by omega
    exact Nat.lt_of_lt_of_le this (Nat.pow_le_pow_right (by decide) (by decide))
theorem all_take1 {l : List Nat} {i c : Nat} {f : Nat → Bool} (h : l[i]? = some c) : (l.take (i + 1)).all f = ((l.take i).all f && f c) := by
  rw [List.take_succ, h]; simp
theorem not_all {l : List Nat} {i c : Nat} {f : Nat → Bool} (h : l[i]? = some c) (e : f c = false) : l.all f = false := by
  rw [Bool.eq_false_iff]; intro z
  rw [List.all_eq_true.mp z c (List.mem_of_getElem? h)] at e; cases e
section
variable {P : Program} {w : World} {K : PySem.W.Frag} {mg : Str → Option Value} {base : Heap} {CB fB CC CR CX aK aS : Addr}
theorem sc_law_is_number : FnScope ["_law_word", "_law_least", "_law_upper", "_law_char"] ["_law_word", "_law_least", "_law_upper"] (defScope s_law_is_number) := ⟨rfl, rfl, rfl, by decide +kernel, rfl, by decide +kernel, by decide +kernel⟩
theorem ok_law_is_number {f : Addr} {fd : FuncData} (F : Fun K "_law_is_number" "_law_is_number" s_law_is_number f fd) (T : Txt P K mg CB fB CC CR CX aK aS) : FnOk P w K mg base CX0 1 f fd ["_law_word", "_law_least", "_law_upper"] spLIsNum := by
  refine F.ok sc_law_is_number (fun vs H Q E h => ?_) (fun cdv A outer s H vs Q E hr h => ?_)
  · obtain ⟨w, lo, hi, rfl, _⟩ := h
    rfl
  obtain ⟨w, lo, hi, rfl, hz, k⟩ := h
  refine ⟨_, (pss_cons (ps_if (pt_not (pt_chain op_lt op_lt pe_int (pe_callB call_len_str (by rfl) T.len PySem.boot_len (pa_cons (pv 0) pa_nil)) pe_int))
 (pss_one (ps_ret pe_bl))
 pss_nil)
 (pss_cons (ps_for PassesOwn.never rfl (pi_str (pv 0)) (pg_name (i := 3) sc_law_is_number.nd rfl (Or.inl rfl))
 (pss_one (ps_if (pt_not (pt_chain op_le_str op_le_str pe_str (pv 3) pe_str))
 (pss_one (ps_ret pe_bl))
 pss_nil)))
 (pss_one (ps_ret (pe_and (pe_cmpR op_eq (pe_callTy call_str_int (by rfl) T.str_ (by decide +kernel) (pa_cons (pe_callTy call_int_str (by rfl) T.int_ (by decide +kernel) (pa_cons (pv 0) pa_nil)) pa_nil)) (pv 0) (nomark _)) (pe_one (pe_chain op_le op_le (pv 1) (pe_callTy call_int_str (by rfl) T.int_ (by decide +kernel) (pa_cons (pv 0) pa_nil)) (pv 2)))))))), ?_⟩
  have no : isNum w lo hi = false → Q (.bl false) H := fun e => by rwa [e] at k
  refine ⟨_, rfl, w, rfl, hz, _, _, rfl, rfl, _, rfl, ?_⟩
  by_cases h1 : 0 < w.length
  · rw [decide_eq_true (show (0 : Int) < (w.length : Int) by omega)]
    refine iteT ⟨_, _, rfl, rfl, _, rfl, ?_⟩
    by_cases h2 : w.length ≤ 5
    · rw [decide_eq_true (show (w.length : Int) < 6 by omega)]
      refine iteF ⟨_, rfl, w, rfl, for_it walk_str (fun i σ H' => H' = H ∧ (∃ v, σ = [some (.str w), some (.int lo), some (.int hi), v]) ∧ ((w.cps.toList.take i).all fun c => decide (48 ≤ c) && decide (c ≤ 57)) = true) ⟨rfl, ⟨none, rfl⟩, rfl⟩ (fun _ _ _ _ _ => trivial) ?_ ?_⟩
      · rintro i x σ H1 H2 hi2 ⟨rfl, ⟨v, rfl⟩, ha⟩ ⟨rfl, c, hc, rfl⟩
        refine ⟨_, rfl, _, _, rfl, rfl, _, rfl, ?_⟩
        rw [le_sign c _ _ cps_0]
        by_cases q1 : 48 ≤ c
        · rw [decide_eq_true q1]
          refine iteT ⟨_, _, rfl, rfl, _, rfl, ?_⟩
          rw [ge_sign c _ _ cps_9]
          by_cases q2 : c ≤ 57
          · rw [decide_eq_true q2]
            exact iteF ⟨rfl, ⟨_, rfl⟩, by rw [all_take1 (cps_get hc), ha]; simp [q1, q2]⟩
          · rw [decide_eq_false q2]
            refine iteT (no ?_)
            have : digB w = false := not_all (cps_get hc) (by simp [q2])
            simp [isNum, numOk, this]
        · rw [decide_eq_false q1]
          refine iteF ⟨_, rfl, iteT (no ?_)⟩
          have : digB w = false := not_all (cps_get hc) (by simp [q1])
          simp [isNum, numOk, this]
      · rintro σ H1 ⟨rfl, ⟨v, rfl⟩, ha⟩
        have hd : digB w = true := by rw [List.take_of_length_le (by simp)] at ha; exact ha
        refine ⟨_, rfl, w, _, rfl, int_of h1 h2 hd, by omega, _, rfl, lgN h2 hd, _, rfl, rfl, _, rfl, ?_⟩
        have ek : isNum w lo hi = (decide (numS (numV w) = w) && decide (lo ≤ numV w) && decide (numV w ≤ hi)) := by unfold isNum; rw [numOk_iff h1 h2 hd]
        rw [ek] at k
        by_cases e : numS (numV w) = w
        · rw [decide_eq_true e] at k
          rw [decide_eq_true (show V.str (Str.ofString (toString (numV w))) = V.str w from congrArg V.str e)]
          refine iteT ⟨_, rfl, _, rfl, w, _, rfl, int_of h1 h2 hd, by omega, _, _, rfl, rfl, _, rfl, ?_⟩
          by_cases e1 : lo ≤ numV w
          · rw [decide_eq_true e1] at k ⊢
            refine iteT ⟨_, rfl, _, _, rfl, rfl, ?_⟩
            exact k
          · rw [decide_eq_false e1] at k ⊢
            exact iteF k
        · rw [decide_eq_false e] at k
          rw [decide_eq_false (show ¬ V.str (Str.ofString (toString (numV w))) = V.str w from fun z => e (V.str.inj z))]
          exact iteF k
    · rw [decide_eq_false (show ¬ (w.length : Int) < 6 by omega)]
      refine iteT (no (by simp [isNum, numOk, h2]))
  · rw [decide_eq_false (show ¬ (0 : Int) < (w.length : Int) by omega)]
    refine iteF ⟨_, rfl, ?_⟩
    exact iteT (no (by simp [isNum, numOk, h1]))
theorem sc_law_is_name : FnScope ["_law_word", "_law_keys", "_law_char"] ["_law_word"] (defScope s_law_is_name) := ⟨rfl, rfl, rfl, by decide +kernel, rfl, by decide +kernel, by decide +kernel⟩
theorem ok_law_is_name {f : Addr} {fd : FuncData} (F : Fun K "_law_is_name" "_law_is_name" s_law_is_name f fd) (T : Txt P K mg CB fB CC CR CX aK aS) : FnOk P w K mg base CX0 1 f fd ["_law_word"] spLIsName := by
  refine F.ok sc_law_is_name (fun vs H Q E h => ?_) (fun cdv A outer s H vs Q E hr h => ?_)
  · obtain ⟨w, rfl, _⟩ := h
    rfl
  obtain ⟨w, rfl, hz, k⟩ := h
  refine ⟨_, (pss_cons (ps_set (i := 1) sc_law_is_name.nd rfl (Or.inl rfl) (pe_tup (pa_cons pe_str (pa_cons pe_str (pa_cons pe_str (pa_cons pe_str (pa_cons pe_str (pa_cons pe_str (pa_cons pe_str (pa_cons pe_str (pa_cons pe_str (pa_cons pe_str (pa_cons pe_str (pa_cons pe_str (pa_cons pe_str pa_nil)))))))))))))))
 (pss_cons (ps_if (PW.pt (pw_or (pt_not (pt_chain op_lt op_lt pe_int (pe_callB call_len_str (by rfl) T.len PySem.boot_len (pa_cons (pv 0) pa_nil)) pe_int)) (pw_or1 (pt_cmpR op_in_seq (pv 0) (pv 1) rfl))))
 (pss_one (ps_ret pe_bl))
 pss_nil)
 (pss_cons (ps_for PassesOwn.never rfl (pi_str (pv 0)) (pg_name (i := 2) sc_law_is_name.nd rfl (Or.inl rfl))
 (pss_one (ps_if (pt_not (pt_chain op_le_str op_le_str pe_str (pv 2) pe_str))
 (pss_one (ps_ret pe_bl))
 pss_nil)))
 (pss_one (ps_ret pe_bl))))), ?_⟩
  refine ⟨by show 13 ≤ sizeLine; decide, fun p hp => ?_⟩
  have s1 := same_new hp (.tup [.str "buttons", .str "answers", .str "var", .str "start", .str "press", .str "set", .str "draw", .str "use", .str "say", .str "if", .str "else", .str "end", .str "mod"])
  have hp1 : (upd H p (.tup [.str "buttons", .str "answers", .str "var", .str "start", .str "press", .str "set", .str "draw", .str "use", .str "say", .str "if", .str "else", .str "end", .str "mod"])) p = some (.tup (keys.map V.str)) := upd_same
  generalize upd H p (.tup [.str "buttons", .str "answers", .str "var", .str "start", .str "press", .str "set", .str "draw", .str "use", .str "say", .str "if", .str "else", .str "end", .str "mod"]) = H1 at s1 hp1 ⊢
  have no : isName w = false → Q (.bl false) H1 := fun e => by have := k H1 s1; rwa [e] at this
  refine ⟨_, rfl, w, rfl, hz, _, _, rfl, rfl, _, rfl, ?_⟩
  by_cases h1 : 0 < w.length
  · rw [decide_eq_true (show (0 : Int) < (w.length : Int) by omega)]
    refine iteT ⟨_, _, rfl, rfl, _, rfl, ?_⟩
    by_cases h2 : w.length ≤ 8
    · rw [decide_eq_true (show (w.length : Int) < 9 by omega)]
      refine iteF ⟨_, rfl, _, rfl, p, _, rfl, .inr (SqT.of hp1), rfl, flat_strs _, _, rfl, ?_⟩
      rw [inV_strs]
      by_cases h3 : w ∈ keys
      · rw [decide_eq_true h3]
        exact iteT (no (by simp [isName, h3]))
      rw [decide_eq_false h3]
      refine iteF ⟨_, rfl, w, rfl, for_it walk_str (fun i σ H' => H' = H1 ∧ (∃ v, σ = [some (.str w), some (.ref p), v]) ∧ ((w.cps.toList.take i).all fun c => decide (97 ≤ c) && decide (c ≤ 122)) = true) ⟨rfl, ⟨none, rfl⟩, rfl⟩ (fun _ _ _ _ _ => trivial) ?_ ?_⟩
      · rintro i x σ H2 H3 hi2 ⟨rfl, ⟨v, rfl⟩, ha⟩ ⟨rfl, c, hc, rfl⟩
        refine ⟨_, rfl, _, _, rfl, rfl, _, rfl, ?_⟩
        rw [le_sign c _ _ cps_a]
        by_cases q1 : 97 ≤ c
        · rw [decide_eq_true q1]
          refine iteT ⟨_, _, rfl, rfl, _, rfl, ?_⟩
          rw [ge_sign c _ _ cps_z]
          by_cases q2 : c ≤ 122
          · rw [decide_eq_true q2]
            exact iteF ⟨rfl, ⟨_, rfl⟩, by rw [all_take1 (cps_get hc), ha]; simp [q1, q2]⟩
          · rw [decide_eq_false q2]
            refine iteT (no ?_)
            have : lowB w = false := not_all (cps_get hc) (by simp [q2])
            simp [isName, this]
        · rw [decide_eq_false q1]
          refine iteF ⟨_, rfl, iteT (no ?_)⟩
          have : lowB w = false := not_all (cps_get hc) (by simp [q1])
          simp [isName, this]
      · rintro σ H2 ⟨rfl, ⟨v, rfl⟩, ha⟩
        have hd : lowB w = true := by rw [List.take_of_length_le (by simp)] at ha; exact ha
        have := k H2 s1
        rwa [show isName w = true by simp [isName, h1, h2, h3, hd]] at this
    · rw [decide_eq_false (show ¬ (w.length : Int) < 9 by omega)]
      refine iteT (iteT (no (by simp [isName, h2])))
  · rw [decide_eq_false (show ¬ (0 : Int) < (w.length : Int) by omega)]
    refine iteF ⟨_, rfl, ?_⟩
    exact iteT (iteT (no (by simp [isName, h1])))
theorem sc_law_values : FnScope ["_law_stack", "_law_names_here", "_law_word", "_law_room"] ["_law_stack", "_law_names_here", "_law_word", "_law_room"] (defScope s_law_values) := ⟨rfl, rfl, rfl, by decide +kernel, rfl, by decide +kernel, by decide +kernel⟩
theorem ok_law_values {f : Addr} {fd : FuncData} (F : Fun K "_law_values" "_law_values" s_law_values f fd) (T : Txt P K mg CB fB CC CR CX aK aS) (Gis_number : CalX P w K mg base CX0 1 "_law_is_number" spLIsNum) : FnOk P w K mg base CX0 2 f fd ["_law_stack", "_law_names_here", "_law_word", "_law_room"] spLValues := by
  refine F.ok sc_law_values (fun vs H Q E h => ?_) (fun cdv A outer s H vs Q E hr h => ?_)
  · obtain ⟨sl, q, w, r, nm, st, rfl, _⟩ := h
    rfl
  obtain ⟨sl, q, w, r, nm, st, rfl, hS, hq, hz, hw, k1, k2⟩ := h
  refine ⟨_, (pss_cons (ps_if (PW.pt (pw_and (pt_cmpR op_in_seq (pv 2) (pe_tup (pa_cons pe_str (pa_cons pe_str (pa_cons pe_str (pa_cons pe_str (pa_cons pe_str (pa_cons pe_str (pa_cons pe_str pa_nil)))))))) rfl) (pw_and1 (pt_cmpR op_gt (pv 3) pe_int (nomark _)))))
 (pss_cons (ps_expr (pe_bm PySem.F.plainAttrs_list PySem.F.slot_list_extend PySem.F.type_list_extend mt_extend (pv 0) (pa_cons (pe_lst (pa_cons (pe_tup (pa_cons pe_str (pa_cons (pv 1) (pa_cons (pe_op op_sub (pv 3) pe_int) pa_nil)))) (pa_cons (pe_tup (pa_cons pe_str (pa_cons (pv 1) (pa_cons (pe_op op_sub (pv 3) pe_int) pa_nil)))) pa_nil))) pa_nil)))
 (pss_one (ps_ret pe_bl)))
 pss_nil)
 (pss_one (ps_ret (pe_or (pe_cmpR op_in_seq (pv 2) (pv 1) rfl) (pe_one (pe_cx Gis_number hr pass0 (pa_cons (pv 2) (pa_cons pe_int (pa_cons pe_int pa_nil))))))))), ?_⟩
  refine ⟨_, rfl, by show 7 ≤ sizeLine; decide, fun p hp => ?_⟩
  have s1 := same_new hp (.tup [.str "+", .str "-", .str "*", .str "/", .str "mod", .str "<", .str "="])
  have hp1 : (upd H p (.tup [.str "+", .str "-", .str "*", .str "/", .str "mod", .str "<", .str "="])) p = some (.tup (signs.map V.str)) := upd_same
  generalize upd H p (.tup [.str "+", .str "-", .str "*", .str "/", .str "mod", .str "<", .str "="]) = H1 at s1 hp1 ⊢
  have hS1 := hS.same s1
  have hq1 := s1 _ _ hq
  refine ⟨p, _, rfl, .inr (SqT.of hp1), rfl, flat_strs _, _, rfl, ?_⟩
  rw [inV_strs]
  by_cases hA : w ∈ signs ∧ r > 1
  · rw [decide_eq_true hA.1]
    refine iteT ⟨_, rfl, _, _, rfl, rfl, _, rfl, ?_⟩
    rw [decide_eq_true (show (1 : Int) < r by have := hA.2; omega)]
    obtain ⟨as, e1, e2, el⟩ := hS1.len
    refine iteT ⟨_, rfl, .inl ⟨rfl, _, SqL.of e1⟩, _, rfl, _, rfl, _, _, rfl, rfl, by show 3 ≤ sizeLine; decide, fun a ha => ⟨_, rfl, _, rfl, _, _, rfl, rfl, by show 3 ≤ sizeLine; decide, fun b hb => ⟨by show 2 ≤ sizeLine; decide, fun l hl => ?_⟩⟩⟩
    obtain ⟨z1, z2, z3⟩ := psh2 (x := .val nm (r - 1)) (y := .val nm (r - 1)) e1 e2 ha hb hl (fun H' x t => ⟨q, x, t _ _ hq1⟩) (fun H' x t => ⟨q, x, t _ _ hq1⟩)
    refine ⟨sl, l, _, _, rfl, rfl, z3, upd_same, by rw [el]; exact hz, ?_⟩
    exact k1 (sc0 0) _ _ (by unfold step; exact if_pos hA) ((Keep.of_same s1).trans z2) z1
  refine ite_f2 (fun q1 z => ⟨_, rfl, _, _, rfl, rfl, _, rfl, by
    rw [decide_eq_false (show ¬ (1 : Int) < r from fun z1 => hA ⟨of_decide_eq_true q1, z1⟩)]; exact iteF z⟩) (fun z => iteF z) ?_
  refine ⟨_, rfl, _, rfl, q, _, rfl, .inr (SqT.of hq1), rfl, flat_strs _, _, rfl, ?_⟩
  rw [inV_strs]
  by_cases hB : w ∈ nm
  · rw [decide_eq_true hB]
    exact iteT (k1 (sc0 0) _ _ (by unfold step; exact (if_neg hA).trans (if_pos (.inl hB))) (Keep.of_same s1) hS1)
  rw [decide_eq_false hB]
  refine iteF ⟨_, rfl, w, 0, 65535, rfl, hw, ?_⟩
  by_cases hC : isNum w 0 65535 = true
  · rw [hC]
    exact k1 (sc0 0) _ _ (by unfold step; exact (if_neg hA).trans (if_pos (.inr hC))) (Keep.of_same s1) hS1
  · rw [Bool.eq_false_iff.mpr hC]
    exact k2 _ (fun sc => by unfold step; exact (if_neg hA).trans (if_neg fun z => z.elim hB hC)) (Keep.of_same s1)
end
end Nt

set_option Elab.async false
set_option linter.all false
set_option maxRecDepth 100000
set_option maxHeartbeats 2000000
namespace Nt
open PySem L2
theorem kd_thn (k : Kd) : decide (V.str k.str = V.str "then") = decide (k = .thn) := by cases k <;> decide +kernel
theorem kd_start (k : Kd) : decide (V.str k.str = V.str "start") = decide (k = .start) := by cases k <;> decide +kernel
theorem kd_emp (k : Kd) : decide (V.str k.str = V.str "empty") = decide (k = .emp) := by cases k <;> decide +kernel
theorem kd_in (k : Kd) : inV (.str k.str) [.str "then", .str "else"] = decide (k = .thn ∨ k = .els) := by
  rw [show ([V.str "then", V.str "else"] : List V) = [("then" : Str), "else"].map V.str from rfl, inV_strs]
  cases k <;> decide +kernel
theorem str_eq (w s : Str) : decide (V.str w = V.str s) = decide (w = s) := by
  by_cases h : w = s
  · subst h; rw [decide_eq_true rfl, decide_eq_true rfl]
  · rw [decide_eq_false h, decide_eq_false (fun z => h (V.str.inj z))]
/-- the dict of what may be bound -/
def bnd (dr us : Int) : List (Key × V) := [(.inr "set", .int 9), (.inr "draw", .int dr), (.inr "use", .int us)]
theorem bnd_set (dr us : Int) : valV (bnd dr us) (.inr "set") = some (.int 9) := by unfold bnd; rw [valV_pos rfl]
theorem bnd_draw (dr us : Int) : valV (bnd dr us) (.inr "draw") = some (.int dr) := by unfold bnd; rw [valV_neg (kne (by decide +kernel)), valV_pos rfl]
theorem bnd_use (dr us : Int) : valV (bnd dr us) (.inr "use") = some (.int us) := by unfold bnd; rw [valV_neg (kne (by decide +kernel)), valV_neg (kne (by decide +kernel)), valV_pos rfl]
theorem bnd_no {dr us : Int} {w : Str} (h1 : w ≠ "set") (h2 : w ≠ "draw") (h3 : w ≠ "use") : valV (bnd dr us) (.inr w) = none := by
  unfold bnd; rw [valV_neg (kne (fun z => h1 z.symm)), valV_neg (kne (fun z => h2 z.symm)), valV_neg (kne (fun z => h3 z.symm))]; rfl
theorem bnd_some {dr us : Int} {w : Str} (h : (valV (bnd dr us) (.inr w)).isSome = true) : ∃ z : Int, valV (bnd dr us) (.inr w) = some (.int z) ∧ ((w = "set" ∧ z = 9) ∨ (w = "draw" ∧ z = dr) ∨ (w = "use" ∧ z = us)) := by
  by_cases h1 : w = "set"
  · subst h1; exact ⟨9, bnd_set _ _, .inl ⟨rfl, rfl⟩⟩
  by_cases h2 : w = "draw"
  · subst h2; exact ⟨dr, bnd_draw _ _, .inr (.inl ⟨rfl, rfl⟩)⟩
  by_cases h3 : w = "use"
  · subst h3; exact ⟨us, bnd_use _ _, .inr (.inr ⟨rfl, rfl⟩)⟩
  rw [bnd_no h1 h2 h3] at h; cases h
theorem bnd_made (dr us : Int) : mergeK [] (bnd dr us) = bnd dr us := by
  unfold bnd mergeK
  simp only [List.foldl_cons, List.foldl_nil]
  simp [putK, show ¬ (("set" : Str) = "draw") from by decide +kernel, show ¬ (("set" : Str) = "use") from by decide +kernel, show ¬ (("draw" : Str) = "use") from by decide +kernel]
theorem scd_made (n e : Addr) (dr us : Int) : mergeK [] (scd n e dr us) = scd n e dr us := by
  unfold scd mergeK
  simp only [List.foldl_cons, List.foldl_nil]
  simp [putK, show ¬ (("names" : Str) = "extra") from by decide +kernel, show ¬ (("names" : Str) = "draws") from by decide +kernel, show ¬ (("names" : Str) = "uses") from by decide +kernel, show ¬ (("extra" : Str) = "draws") from by decide +kernel,
    show ¬ (("extra" : Str) = "uses") from by decide +kernel, show ¬ (("draws" : Str) = "uses") from by decide +kernel]
theorem scd_lt (n e : Addr) (dr us : Int) : (scd n e dr us).length < sizeLine := by show 4 < sizeLine; decide
section
variable {P : Program} {w : World} {K : PySem.W.Frag} {mg : Str → Option Value} {base : Heap} {CB fB CC CR CX aK aS : Addr}
theorem sc_law_blocks : FnScope ["_law_stack", "_law_scope", "_law_word", "_law_room", "_law_kind", "_law_names_here", "_law_possible", "_law_bound"] ["_law_stack", "_law_scope", "_law_word", "_law_room", "_law_kind"] (defScope s_law_blocks) := ⟨rfl, rfl, rfl, by decide +kernel, rfl, by decide +kernel, by decide +kernel⟩
theorem ok_law_blocks {f : Addr} {fd : FuncData} (F : Fun K "_law_blocks" "_law_blocks" s_law_blocks f fd) (T : Txt P K mg CB fB CC CR CX aK aS) : FnOk P w K mg base CX0 1 f fd ["_law_stack", "_law_scope", "_law_word", "_law_room", "_law_kind"] spLBlocks := by
  refine F.ok sc_law_blocks (fun vs H Q E h => ?_) (fun cdv A outer s H vs Q E hr h => ?_)
  · obtain ⟨sl, d, n, w, r, k, st, sc, rfl, _⟩ := h
    rfl
  obtain ⟨sl, d, n, w, r, k, st, sc, rfl, hS, hC, hsn, hz, hnz, k1, k2⟩ := h
  refine ⟨_, (pss_cons (ps_set (i := 5) sc_law_blocks.nd rfl (Or.inl rfl) (pe_op op_catA (pe_callTy call_tuple_of (by rfl) T.tuple_ (by decide +kernel) (pa_cons (pe_dget (hu_of hr) (pv 1) pe_str (fun _ _ => rfl)) pa_nil)) (pe_dget (hu_of hr) (pv 1) pe_str (fun _ _ => rfl))))
 (pss_cons (ps_set (i := 6) sc_law_blocks.nd rfl (Or.inl rfl) (pe_or (pe_cmpR op_gt (pe_callB call_len_seq (by rfl) T.len PySem.boot_len (pa_cons (pv 5) pa_nil)) pe_int (nomark _)) (pe_one (pe_cmpR op_gt (pv 3) pe_int (nomark _)))))
 (pss_cons (ps_if (PW.pt (pw_and (pt_cmpR op_eq (pv 2) pe_str (nomark _)) (pw_and1 (pt_cmpR op_in_seq (pv 4) (pe_tup (pa_cons pe_str (pa_cons pe_str pa_nil))) rfl))))
 (pss_one (ps_ret pe_bl))
 pss_nil)
 (pss_cons (ps_if (PW.pt (pw_and (pt_cmpR op_eq (pv 2) pe_str (nomark _)) (pw_and (pt_cmpR op_eq (pv 4) pe_str (nomark _)) (pw_and1 (pt_val (pv 6))))))
 (pss_cons (ps_expr (pe_bm PySem.F.plainAttrs_list PySem.F.slot_list_append PySem.F.type_list_append mt_append (pv 0) (pa_cons (pe_tup (pa_cons pe_str (pa_cons (pv 3) (pa_cons pe_str pa_nil)))) pa_nil)))
 (pss_one (ps_ret pe_bl)))
 pss_nil)
 (pss_cons (ps_if (PW.pt (pw_and (pt_cmpR op_eq (pv 2) pe_str (nomark _)) (pw_and1 (pt_cmpR op_eq (pv 4) pe_str (nomark _)))))
 (pss_cons (ps_dput (hu_of hr) (pv 1) pe_str (pe_tup (pa_cons pe_str pa_nil)) rfl)
 (pss_cons (ps_expr (pe_bm PySem.F.plainAttrs_list PySem.F.slot_list_append PySem.F.type_list_append mt_append (pv 0) (pa_cons (pe_tup (pa_cons pe_str (pa_cons pe_int (pa_cons pe_str pa_nil)))) pa_nil)))
 (pss_one (ps_ret pe_bl))))
 pss_nil)
 (pss_cons (ps_if (pt_cmpR op_eq (pv 4) pe_str (nomark _))
 (pss_one (ps_set (i := 4) sc_law_blocks.nd rfl (Or.inl rfl) pe_str))
 pss_nil)
 (pss_cons (ps_expr (pe_bm PySem.F.plainAttrs_list PySem.F.slot_list_append PySem.F.type_list_append mt_append (pv 0) (pa_cons (pe_tup (pa_cons pe_str (pa_cons (pv 3) (pa_cons (pv 4) pa_nil)))) pa_nil)))
 (pss_cons (ps_set (i := 7) sc_law_blocks.nd rfl (Or.inl rfl) (pe_disp (pps_cons pe_str pe_int (pps_cons pe_str (pe_dget (hu_of hr) (pv 1) pe_str (fun _ _ => rfl)) (pps_cons pe_str (pe_dget (hu_of hr) (pv 1) pe_str (fun _ _ => rfl)) pps_nil))) (by rfl) (by rfl) (fun z => by cases z) (by decide)))
 (pss_cons (ps_if (PW.pt (pw_and (pt_cmp (pc_din (hu_of hr) (pv 2) (pv 7))) (pw_and (pt_cmpR op_gt (pe_callB call_len_seq (by rfl) T.len PySem.boot_len (pa_cons (pe_dget (hu_of hr) (pv 1) pe_str (fun _ _ => rfl)) pa_nil)) pe_int (nomark _)) (pw_and1 (pt_cmpR op_gt (pe_dget (hu_of hr) (pv 7) (pv 2) (fun _ _ => rfl)) pe_int (nomark _))))))
 (pss_cons (ps_if (pt_cmpR op_eq (pv 2) pe_str (nomark _))
 (pss_cons (ps_dput (hu_of hr) (pv 1) pe_str (pe_op op_sub (pe_dget (hu_of hr) (pv 1) pe_str (fun _ _ => rfl)) pe_int) rfl)
 (pss_one (ps_expr (pe_bm PySem.F.plainAttrs_list PySem.F.slot_list_append PySem.F.type_list_append mt_append (pv 0) (pa_cons (pe_tup (pa_cons pe_str (pa_cons pe_int (pa_cons pe_int pa_nil)))) pa_nil)))))
 (pss_cons (ps_dput (hu_of hr) (pv 1) pe_str (pe_op op_sub (pe_dget (hu_of hr) (pv 1) pe_str (fun _ _ => rfl)) (pe_callTy call_int1 (by rfl) T.int_ (by decide +kernel) (pa_cons (pe_cmpR op_eq (pv 2) pe_str (nomark _)) pa_nil))) rfl)
 (pss_one (ps_expr (pe_bm PySem.F.plainAttrs_list PySem.F.slot_list_append PySem.F.type_list_append mt_append (pv 0) (pa_cons (pe_tup (pa_cons pe_str (pa_cons (pv 5) (pa_cons pe_int pa_nil)))) pa_nil))))))
 (pss_cons (ps_expr (pe_bm PySem.F.plainAttrs_list PySem.F.slot_list_append PySem.F.type_list_append mt_append (pv 0) (pa_cons (pe_tup (pa_cons pe_str pa_nil)) pa_nil)))
 (pss_one (ps_ret pe_bl))))
 pss_nil)
 (pss_cons (ps_if (PW.pt (pw_and (pt_cmpR op_eq (pv 2) pe_str (nomark _)) (pw_and1 (pt_cmpR op_gt (pe_callB call_len_seq (by rfl) T.len PySem.boot_len (pa_cons (pe_dget (hu_of hr) (pv 1) pe_str (fun _ _ => rfl)) pa_nil)) pe_int (nomark _)))))
 (pss_cons (ps_expr (pe_bm PySem.F.plainAttrs_list PySem.F.slot_list_append PySem.F.type_list_append mt_append (pv 0) (pa_cons (pe_tup (pa_cons pe_str (pa_cons (pv 5) (pa_cons pe_int pa_nil)))) pa_nil)))
 (pss_one (ps_ret pe_bl)))
 pss_nil)
 (pss_cons (ps_if (PW.pt (pw_and (pt_cmpR op_eq (pv 2) pe_str (nomark _)) (pw_and1 (pt_cmpR op_gt (pv 3) pe_int (nomark _)))))
 (pss_cons (ps_expr (pe_bm PySem.F.plainAttrs_list PySem.F.slot_list_extend PySem.F.type_list_extend mt_extend (pv 0) (pa_cons (pe_lst (pa_cons (pe_tup (pa_cons pe_str (pa_cons (pe_op op_sub (pv 3) pe_int) (pa_cons pe_str pa_nil)))) (pa_cons (pe_tup (pa_cons pe_str (pa_cons (pv 5) (pa_cons pe_int pa_nil)))) pa_nil))) pa_nil)))
 (pss_one (ps_ret pe_bl)))
 pss_nil)
 (pss_one (ps_ret pe_bl))))))))))))), ?_⟩
  have hsd := hC.dn hS
  have hdn : d ≠ n := by
    obtain ⟨e, z1, z2⟩ := hC.ex
    exact ne_of z1 hC.hn (by intro z; cases z)
  -- the names
  obtain ⟨e0, hd0, he0⟩ := hC.ex
  refine ⟨_, rfl, d, _, rfl, dg hd0 (scd_names _ _ _ _), n, _, rfl, .inl ⟨SqL.of hC.hn, fun t ht => ?_⟩⟩
  have st0 := same_new ht (.tup (sc.nm.map V.str))
  refine ⟨_, rfl, d, _, rfl, dg (st0 _ _ hd0) (scd_extra _ _ _ _), ?_⟩
  refine rCatA_of (xs := sc.nm.map V.str) (ys := sc.ex.map V.str) upd_same (st0 _ _ he0) (by rw [List.length_map, List.length_map]; exact hnz) (fun q H1 s1 hq => ?_)
  have s01 := st0.trans s1
  rw [← List.map_append] at hq
  have hS1 := hS.same s01
  have hC1 := hC.same s01
  have kp1 : Keep [sl, d] H H1 := Keep.of_same s01
  clear s1 s01 st0 ht hS hC hd0 he0
  generalize hnm : sc.nm ++ sc.ex = nm at hq
  -- possible
  refine ⟨_, rfl, q, _, rfl, .inr (SqT.of hq), _, _, rfl, rfl, _, rfl, ?_⟩
  rw [List.length_map]
  refine' cutB (P := fun b => b = possible r sc) (fun key => ?ka1) ?kb1
  case ka1 =>
    by_cases h0 : nm = []
    · rw [decide_eq_false (show ¬ (0 : Int) < (nm.length : Int) by rw [h0]; decide)]
      refine iteF ⟨_, rfl, _, _, rfl, rfl, ?_⟩
      show gName 6 (V.bl (decide ((0 : Int) < r))) _ _ _
      generalize hb : decide ((0 : Int) < r) = b
      refine key b ?_
      rw [← hb]; unfold possible; rw [hnm, h0]; simp
    · have hl : 0 < nm.length := List.length_pos_iff.mpr h0
      rw [decide_eq_true (show (0 : Int) < (nm.length : Int) by omega)]
      refine iteT (key true ?_)
      unfold possible; rw [hnm]; simp [h0]
  intro b hb
  subst hb
  -- end
  refine ⟨_, rfl, rfl, _, rfl, ?_⟩
  rw [str_eq]
  refine' cutH (P := fun H2 => Same H1 H2 ∧ ¬ (w = "end" ∧ (k = .thn ∨ k = .els))) (fun key => ?ka2) ?kb2
  case ka2 =>
    by_cases hA : w = "end"
    · rw [decide_eq_true hA]
      refine iteT ⟨_, rfl, by show 2 ≤ sizeLine; decide, fun p hp => ⟨p, _, rfl, .inr (SqT.of upd_same), rfl, rfl, _, rfl, ?_⟩⟩
      rw [kd_in]
      by_cases hB : k = .thn ∨ k = .els
      · rw [decide_eq_true hB]
        exact iteT (k1 _ _ _ (by unfold blocks; exact if_pos ⟨hA, hB⟩) (kp1.trans (Keep.of_same (same_new hp _))) (hS1.same (same_new hp _)) (hC1.same (same_new hp _)))
      · rw [decide_eq_false hB]
        exact iteF (key _ ⟨same_new hp _, fun z => hB z.2⟩)
    · rw [decide_eq_false hA]
      exact iteF (key _ ⟨Same.refl _, fun z => hA z.1⟩)
  rintro H2 ⟨s2, nA⟩
  have hS2 := hS1.same s2
  have hC2 := hC1.same s2
  have hq2 := s2 _ _ hq
  have kp2 : Keep [sl, d] H H2 := kp1.trans (Keep.of_same s2)
  clear hS1 hC1 hq kp1 s2
  -- else
  obtain ⟨as, e1, e2, el⟩ := hS2.len
  refine ⟨_, rfl, rfl, _, rfl, ?_⟩
  rw [str_eq]
  by_cases hB : w = "else" ∧ k = .thn ∧ possible r sc = true
  · rw [decide_eq_true hB.1]
    refine iteT ⟨_, rfl, rfl, _, rfl, ?_⟩
    rw [kd_thn, decide_eq_true hB.2.1]
    refine iteT ⟨_, rfl, _, rfl, ?_⟩
    rw [hB.2.2]
    refine iteT ⟨_, rfl, .inl ⟨rfl, _, SqL.of e1⟩, _, rfl, by show 3 ≤ sizeLine; decide, fun a ha => ?_⟩
    obtain ⟨z1, z2⟩ := psh (x := .blk r .emp) e1 e2 ha (fun H' x t => x)
    refine ⟨sl, _, _, rfl, rfl, same_new ha _ _ _ e1, by rw [el]; omega, ?_⟩
    exact k1 _ _ _ (by unfold blocks; exact (if_neg nA).trans (if_pos hB)) (kp2.trans (z2.mono (by simp))) z1 (hC2.kp z2 (by simpa using hsd.symm) (by simpa using hsn.symm) (fun e xs he => by simp; exact ne_of he e1 (by intro z; cases z)))
  refine ite_f2 (fun q1 z => ⟨_, rfl, rfl, _, rfl, by
    rw [kd_thn]
    refine ite_f2 (fun q2 z => ⟨_, rfl, _, rfl, ?_⟩) (fun z => iteF z) z
    rw [show possible r sc = false from Bool.eq_false_iff.mpr fun z1 => hB ⟨of_decide_eq_true q1, of_decide_eq_true q2, z1⟩]; exact iteF z⟩) (fun z => iteF z) ?_
  -- press
  refine ⟨_, rfl, rfl, _, rfl, ?_⟩
  rw [str_eq]
  by_cases hD : w = "press" ∧ k = .start
  · rw [decide_eq_true hD.1]
    refine iteT ⟨_, rfl, rfl, _, rfl, ?_⟩
    rw [kd_start, decide_eq_true hD.2]
    refine iteT ⟨by show 1 ≤ sizeLine; decide, fun p hp => ?_⟩
    have s3 := same_new hp (.tup [.str "press"])
    obtain ⟨e3, hd3, he3⟩ := (hC2.same s3).ex
    refine ⟨_, rfl, d, _, rfl, DPut.k (k := .inr "extra") hd3 (scd_lt _ _ _ _), ?_⟩
    rw [scd_pextra]
    have hpd : p ≠ d := fun z => by
      rw [z] at hp
      obtain ⟨e, y1, _⟩ := hC2.ex
      rw [y1] at hp; cases hp
    have hS4 : StkAt (upd (upd H2 p (.tup [.str "press"])) d (.dK (scd n p sc.dr sc.us))) sl st := (hS2.same s3).keep (Tk.upd hd3 (by intro xs z; cases z)) (upd_ne hsd)
    have hC4 : ScAt (upd (upd H2 p (.tup [.str "press"])) d (.dK (scd n p sc.dr sc.us))) d n { sc with ex := ["press"] } := ⟨⟨p, upd_same, by rw [upd_ne hpd, upd_same]; rfl⟩, by rw [upd_ne hdn.symm]; exact (hC2.same s3).hn⟩
    have kp4 : Keep [sl, d] H (upd (upd H2 p (.tup [.str "press"])) d (.dK (scd n p sc.dr sc.us))) := kp2.trans ((Keep.of_same s3).trans (Keep.upd (by simp)))
    generalize upd (upd H2 p (.tup [.str "press"])) d (.dK (scd n p sc.dr sc.us)) = H4 at hS4 hC4 kp4 ⊢
    obtain ⟨as4, e14, e24, el4⟩ := hS4.len
    refine ⟨_, rfl, .inl ⟨rfl, _, SqL.of e14⟩, by show 3 ≤ sizeLine; decide, fun a ha => ?_⟩
    obtain ⟨z1, z2⟩ := psh (x := .blk 4 .top) e14 e24 ha (fun H' x t => x)
    refine ⟨sl, _, _, rfl, rfl, same_new ha _ _ _ e14, by rw [el4]; omega, ?_⟩
    exact k1 _ _ _ (by unfold blocks; exact (if_neg nA).trans ((if_neg hB).trans (if_pos hD))) (kp4.trans (z2.mono (by simp))) z1 (hC4.kp z2 (by simpa using hsd.symm) (by simpa using hsn.symm) (fun e xs he => by simp; exact ne_of he e14 (by intro z; cases z)))
  refine ite_f2 (fun q1 z => ⟨_, rfl, rfl, _, rfl, by
    rw [kd_start, decide_eq_false (fun z1 => hD ⟨of_decide_eq_true q1, z1⟩)]; exact iteF z⟩) (fun z => iteF z) ?_
  -- empty
  refine ⟨_, rfl, rfl, _, rfl, ?_⟩
  rw [kd_emp]
  refine' cutS (P := fun s => s = k.nx.str) (fun key => ?ka3) ?kb3
  case ka3 =>
    by_cases hE : ¬ k = .emp
    · rw [decide_eq_false hE]
      refine iteF ?_
      generalize hks : k.str = ks
      refine key ks ?_
      rw [← hks]; cases k <;> first | rfl | exact absurd rfl hE
    · have hE := Classical.byContradiction hE
      rw [decide_eq_true hE]
      refine iteT ?_
      refine key ("else" : Str) (by rw [hE]; rfl)
  intro ks hks
  subst hks
  -- the block is pushed
  refine ⟨_, rfl, .inl ⟨rfl, _, SqL.of e1⟩, _, rfl, _, rfl, by show 3 ≤ sizeLine; decide, fun a ha => ?_⟩
  obtain ⟨z1, z2⟩ := psh (x := .blk r k.nx) e1 e2 ha (fun H' x t => x)
  refine ⟨sl, _, _, rfl, rfl, same_new ha _ _ _ e1, by rw [el]; omega, ?_⟩
  have hC3 := hC2.kp z2 (by simpa using hsd.symm) (by simpa using hsn.symm) (fun e xs he => by simp; exact ne_of he e1 (by intro z; cases z))
  have hq3 := z2 _ _ hq2 (by simp; exact ne_of hq2 e1 (by intro z; cases z))
  have kp3 : Keep [sl, d] H _ := kp2.trans (z2.mono (by simp))
  generalize upd (upd H2 a (.tup [V.str "block", .int r, .str k.nx.str])) sl (.lst (as.reverse.map V.ref ++ [.ref a])) = H3 at z1 hC3 hq3 kp3 ⊢
  clear e1 e2 el ha z2 kp2 hq2 hC2 hS2
  have stp : blocks r k st sc w = match stm r sc w with | none => none | some p => some (p.1 ++ .blk r k.nx :: st, p.2) := by unfold blocks; exact (if_neg nA).trans ((if_neg hB).trans (if_neg hD))
  -- the dict
  refine fun p hp => ?_
  have sp1 := same_new hp (.dK [])
  obtain ⟨e3, hd3, he3⟩ := hC3.ex
  refine ⟨_, rfl, d, _, rfl, dg (sp1 _ _ hd3) (scd_draws _ _ _ _), _, rfl, d, _, rfl, dg (sp1 _ _ hd3) (scd_uses _ _ _ _), upd_same, bnd sc.dr sc.us, rfl, by show 3 ≤ 15; decide, ?_⟩
  rw [bnd_made]
  have s4 : Same H3 (upd (upd H3 p (.dK [])) p (.dK (bnd sc.dr sc.us))) := fun b u z => by
    have := ne_of_none z hp
    rw [upd_ne this, upd_ne this]; exact z
  have hp4 : (upd (upd H3 p (.dK [])) p (.dK (bnd sc.dr sc.us))) p = some (.dK (bnd sc.dr sc.us)) := upd_same
  have hS4 := z1.same s4
  have hC4 := hC3.same s4
  have hq4 := s4 _ _ hq3
  have kp4 : Keep [sl, d] H _ := kp3.trans (Keep.of_same s4)
  have hpd : p ≠ d := (ne_of_none hd3 hp).symm
  have hps : p ≠ sl := by
    obtain ⟨_, y1, _⟩ := z1
    exact (ne_of_none y1 hp).symm
  generalize upd (upd H3 p (.dK [])) p (.dK (bnd sc.dr sc.us)) = H4 at hp4 hS4 hC4 hq4 kp4 ⊢
  clear z1 hC3 hq3 kp3 s4 hp sp1 hd3 he3
  refine ⟨_, rfl, _, rfl, p, _, rfl, DGet.k (k := .inr w) hp4, _, rfl, ?_⟩
  have tnd : ∀ {H5 : Hp} {sc' : Sc} {as : List Addr}, ScAt H5 d n sc' → H5 sl = some (.lst (as.reverse.map V.ref)) → ∀ {H6 : Hp}, Keep [sl] H5 H6 → ScAt H6 d n sc' := fun hC hs H6 kp => hC.kp kp (by simpa using hsd.symm) (by simpa using hsn.symm) (fun e xs he => by simp; exact ne_of he hs (by intro z; cases z))
  obtain ⟨e4, hd4, he4⟩ := hC4.ex
  by_cases hX : (w = "set" ∨ (w = "draw" ∧ sc.dr > 0) ∨ (w = "use" ∧ sc.us > 0)) ∧ sc.nm ≠ []
  · obtain ⟨z, hz1, hz2⟩ : ∃ z : Int, valV (bnd sc.dr sc.us) (.inr w) = some (.int z) ∧ 0 < z := by
      rcases hX.1 with rfl | ⟨rfl, h⟩ | ⟨rfl, h⟩
      · exact ⟨9, bnd_set _ _, by decide⟩
      · exact ⟨_, bnd_draw _ _, h⟩
      · exact ⟨_, bnd_use _ _, h⟩
    rw [hz1]
    have hl : 0 < sc.nm.length := List.length_pos_iff.mpr hX.2
    refine iteT ⟨_, rfl, d, _, rfl, dg hd4 (scd_names _ _ _ _), n, _, rfl, .inl (SqL.of hC4.hn), _, _, rfl, rfl, _, rfl, ?_⟩
    rw [List.length_map, decide_eq_true (show (0 : Int) < (sc.nm.length : Int) by omega)]
    refine iteT ⟨_, rfl, _, rfl, p, _, rfl, dg hp4 hz1, _, _, rfl, rfl, _, rfl, ?_⟩
    rw [decide_eq_true hz2]
    refine iteT ⟨_, rfl, rfl, _, rfl, ?_⟩
    rw [str_eq]
    by_cases hw : w = "draw"
    · rw [decide_eq_true hw]
      have hdr : sc.dr > 0 := by
        rcases hX.1 with h | h | h
        · rw [hw] at h; exact absurd h (by decide +kernel)
        · exact h.2
        · rw [hw] at h; exact absurd h.1 (by decide +kernel)
      refine iteT ⟨_, rfl, d, _, rfl, dg hd4 (scd_draws _ _ _ _), _, _, rfl, rfl, _, rfl, d, _, rfl, DPut.k (k := .inr "draws") hd4 (scd_lt _ _ _ _), ?_⟩
      rw [scd_pdraws]
      have hS5 : StkAt (upd H4 d (.dK (scd n e4 (sc.dr - 1) sc.us))) sl (.blk r k.nx :: st) := hS4.keep (Tk.upd hd4 (by intro xs z; cases z)) (upd_ne hsd)
      have hC5 : ScAt (upd H4 d (.dK (scd n e4 (sc.dr - 1) sc.us))) d n { sc with dr := sc.dr - 1 } := ⟨⟨e4, upd_same, Tk.upd hd4 (by intro xs z; cases z) _ _ he4⟩, by rw [upd_ne hdn.symm]; exact hC4.hn⟩
      have kp5 : Keep [sl, d] H (upd H4 d (.dK (scd n e4 (sc.dr - 1) sc.us))) := kp4.trans (Keep.upd (by simp))
      generalize upd H4 d (.dK (scd n e4 (sc.dr - 1) sc.us)) = H5 at hS5 hC5 kp5 ⊢
      obtain ⟨as5, e15, e25, el5⟩ := hS5.len
      refine ⟨_, rfl, .inl ⟨rfl, _, SqL.of e15⟩, by show 3 ≤ sizeLine; decide, fun a ha => ?_⟩
      obtain ⟨z1, z2⟩ := psh (x := .num 1 6) e15 e25 ha (fun H' x t => x)
      refine ⟨sl, _, _, rfl, rfl, same_new ha _ _ _ e15, by rw [el5]; simp only [List.length_cons]; omega, ?_⟩
      have hC6 := tnd hC5 e15 z2
      have kp6 := kp5.trans (z2.mono (L' := [sl, d]) (by simp))
      generalize upd (upd H5 a (.tup [V.str "number", .int 1, .int 6])) sl (.lst (as5.reverse.map V.ref ++ [.ref a])) = H6 at z1 hC6 kp6 ⊢
      obtain ⟨as6, e16, e26, el6⟩ := z1.len
      refine ⟨_, rfl, .inl ⟨rfl, _, SqL.of e16⟩, by show 1 ≤ sizeLine; decide, fun a6 ha6 => ?_⟩
      obtain ⟨y1, y2⟩ := psh (x := .one) e16 e26 ha6 (fun H' x t => x)
      refine ⟨sl, _, _, rfl, rfl, same_new ha6 _ _ _ e16, by rw [el6]; simp only [List.length_cons]; omega, ?_⟩
      refine k1 _ _ _ ?_ (kp6.trans (y2.mono (by simp))) y1 (tnd hC6 e16 y2)
      rw [stp, hw, stm_draw hX.2 hdr]; rfl
    · rw [decide_eq_false hw]
      refine iteF ⟨_, rfl, d, _, rfl, dg hd4 (scd_uses _ _ _ _), _, rfl, rfl, .inr ⟨_, rfl, _, _, rfl, rfl, _, rfl, d, _, rfl, DPut.k (k := .inr "uses") hd4 (scd_lt _ _ _ _), ?_⟩⟩
      rw [scd_puses, str_eq]
      have hS5 : ∀ u, StkAt (upd H4 d (.dK (scd n e4 sc.dr u))) sl (.blk r k.nx :: st) := fun u => hS4.keep (Tk.upd hd4 (by intro xs z; cases z)) (upd_ne hsd)
      have hC5 : ∀ u, ScAt (upd H4 d (.dK (scd n e4 sc.dr u))) d n { sc with us := u } := fun u => ⟨⟨e4, upd_same, Tk.upd hd4 (by intro xs z; cases z) _ _ he4⟩, by rw [upd_ne hdn.symm]; exact hC4.hn⟩
      have kp5 : ∀ u, Keep [sl, d] H (upd H4 d (.dK (scd n e4 sc.dr u))) := fun u => kp4.trans (Keep.upd (by simp))
      have hq5 : ∀ u, (upd H4 d (.dK (scd n e4 sc.dr u))) q = some (.tup (nm.map V.str)) := fun u => Tk.upd hd4 (by intro xs z; cases z) _ _ hq4
      generalize hu : sc.us - (if decide (w = ("use" : Str)) = true then 1 else 0) = u
      have hS5 := hS5 u
      have hC5 := hC5 u
      have kp5 := kp5 u
      have hq5 := hq5 u
      generalize upd H4 d (.dK (scd n e4 sc.dr u)) = H5 at hS5 hC5 kp5 hq5 ⊢
      obtain ⟨as5, e15, e25, el5⟩ := hS5.len
      refine ⟨_, rfl, .inl ⟨rfl, _, SqL.of e15⟩, _, rfl, by show 3 ≤ sizeLine; decide, fun a ha => ?_⟩
      obtain ⟨z1, z2⟩ := psh (x := .val nm 5) e15 e25 ha (fun H' x t => ⟨q, x, t _ _ hq5⟩)
      refine ⟨sl, _, _, rfl, rfl, same_new ha _ _ _ e15, by rw [el5]; simp only [List.length_cons]; omega, ?_⟩
      have hC6 := tnd hC5 e15 z2
      have kp6 := kp5.trans (z2.mono (L' := [sl, d]) (by simp))
      generalize upd (upd H5 a (.tup [V.str "value", .ref q, .int 5])) sl (.lst (as5.reverse.map V.ref ++ [.ref a])) = H6 at z1 hC6 kp6 ⊢
      obtain ⟨as6, e16, e26, el6⟩ := z1.len
      refine ⟨_, rfl, .inl ⟨rfl, _, SqL.of e16⟩, by show 1 ≤ sizeLine; decide, fun a6 ha6 => ?_⟩
      obtain ⟨y1, y2⟩ := psh (x := .one) e16 e26 ha6 (fun H' x t => x)
      refine ⟨sl, _, _, rfl, rfl, same_new ha6 _ _ _ e16, by rw [el6]; simp only [List.length_cons]; omega, ?_⟩
      refine k1 _ _ _ ?_ (kp6.trans (y2.mono (by simp))) y1 (tnd hC6 e16 y2)
      rw [stp]
      rcases hX.1 with h | h | h
      · subst h
        rw [stm_set hX.2, ← hu, ← hnm]
        rw [decide_eq_false (show ¬ ("set" : Str) = "use" by decide +kernel), if_neg (by decide), Int.sub_zero]
        rfl
      · exact absurd h.1 hw
      · obtain ⟨h, hus⟩ := h
        subst h
        rw [stm_use hX.2 hus, ← hu, ← hnm, decide_eq_true rfl, if_pos rfl]
        rfl
  refine ite_f2 (fun q1 z => ⟨_, rfl, d, _, rfl, dg hd4 (scd_names _ _ _ _), n, _, rfl, .inl (SqL.of hC4.hn), _, _, rfl, rfl, _, rfl, ite_f2 (fun q2 z => ?_) (fun z => iteF z) z⟩) (fun z => iteF z) ?_
  · obtain ⟨v, hv1, hv2⟩ := bnd_some q1
    refine ⟨_, rfl, _, rfl, p, _, rfl, dg hp4 hv1, _, _, rfl, rfl, _, rfl, ?_⟩
    rw [decide_eq_false (show ¬ (0 : Int) < v from fun y => hX ⟨by rcases hv2 with ⟨a, b⟩ | ⟨a, b⟩ | ⟨a, b⟩ <;> subst b <;> simp [a, y], fun y2 => by
      have := of_decide_eq_true q2
      rw [List.length_map, y2] at this; exact absurd this (by decide)⟩)]
    exact iteF z
  have nX1 : ¬ (w = "set" ∧ sc.nm ≠ []) := fun z => hX ⟨.inl z.1, z.2⟩
  have nX2 : ¬ (w = "draw" ∧ sc.nm ≠ [] ∧ sc.dr > 0) := fun z => hX ⟨.inr (.inl ⟨z.1, z.2.2⟩), z.2.1⟩
  have nX3 : ¬ (w = "use" ∧ sc.nm ≠ [] ∧ sc.us > 0) := fun z => hX ⟨.inr (.inr ⟨z.1, z.2.2⟩), z.2.1⟩
  -- say
  obtain ⟨as5, e15, e25, el5⟩ := hS4.len
  refine ⟨_, rfl, rfl, _, rfl, ?_⟩
  rw [str_eq]
  by_cases hY : w = "say" ∧ sc.ex ≠ []
  · rw [decide_eq_true hY.1]
    have hl : 0 < sc.ex.length := List.length_pos_iff.mpr hY.2
    refine iteT ⟨_, rfl, d, _, rfl, dg hd4 (scd_extra _ _ _ _), e4, _, rfl, .inr (SqT.of he4), _, _, rfl, rfl, _, rfl, ?_⟩
    rw [List.length_map, decide_eq_true (show (0 : Int) < (sc.ex.length : Int) by omega)]
    refine iteT ⟨_, rfl, .inl ⟨rfl, _, SqL.of e15⟩, _, rfl, by show 3 ≤ sizeLine; decide, fun a ha => ?_⟩
    obtain ⟨z1, z2⟩ := psh (x := .val nm 5) e15 e25 ha (fun H' x t => ⟨q, x, t _ _ hq4⟩)
    refine ⟨sl, _, _, rfl, rfl, same_new ha _ _ _ e15, by rw [el5]; simp only [List.length_cons]; omega, ?_⟩
    refine k1 _ _ _ ?_ (kp4.trans (z2.mono (by simp))) z1 (tnd hC4 e15 z2)
    rw [stp, hY.1, stm_say hY.2, ← hnm]; rfl
  refine ite_f2 (fun q1 z => ⟨_, rfl, d, _, rfl, dg hd4 (scd_extra _ _ _ _), e4, _, rfl, .inr (SqT.of he4), _, _, rfl, rfl, _, rfl, by
    rw [List.length_map, decide_eq_false (show ¬ (0 : Int) < (sc.ex.length : Int) from fun y => hY ⟨of_decide_eq_true q1, List.length_pos_iff.mp (by omega)⟩)]
    exact iteF z⟩) (fun z => iteF z) ?_
  -- if
  refine ⟨_, rfl, rfl, _, rfl, ?_⟩
  rw [str_eq]
  by_cases hZ : w = "if" ∧ r > 0
  · rw [decide_eq_true hZ.1]
    refine iteT ⟨_, rfl, _, _, rfl, rfl, _, rfl, ?_⟩
    rw [decide_eq_true (show (0 : Int) < r from hZ.2)]
    refine iteT ⟨_, rfl, .inl ⟨rfl, _, SqL.of e15⟩, _, rfl, _, _, rfl, rfl, by show 3 ≤ sizeLine; decide, fun a ha => ⟨_, rfl, by show 3 ≤ sizeLine; decide, fun b hb => ⟨by show 2 ≤ sizeLine; decide, fun l hl => ?_⟩⟩⟩
    obtain ⟨z1, z2, z3⟩ := psh2 (x := .blk (r - 1) .thn) (y := .val nm 5) e15 e25 ha hb hl (fun H' x t => x) (fun H' x t => ⟨q, x, t _ _ hq4⟩)
    refine ⟨sl, l, _, _, rfl, rfl, z3, upd_same, by rw [el5]; simp only [List.length_cons, List.length_nil]; omega, ?_⟩
    refine k1 _ _ _ ?_ (kp4.trans (z2.mono (by simp))) z1 (tnd hC4 e15 z2)
    rw [stp, hZ.1, stm_if hZ.2, ← hnm]; rfl
  refine ite_f2 (fun q1 z => ⟨_, rfl, _, _, rfl, rfl, _, rfl, by
    rw [decide_eq_false (show ¬ (0 : Int) < r from fun y => hZ ⟨of_decide_eq_true q1, y⟩)]; exact iteF z⟩) (fun z => iteF z) ?_
  exact k2 _ (by rw [stp, stm_none nX1 nX2 nX3 hY hZ]) kp4
end
end Nt

set_option Elab.async false
set_option linter.all false
set_option maxRecDepth 100000
set_option maxHeartbeats 2000000
namespace Nt
open PySem L2
theorem StkAt.push3 {H H' : Hp} {sl a b c : Addr} {as : List Addr} {st : List It} {x y z : It} (h2 : Paired (ItAt H) as st) (t : Tk H H') (e : H' sl = some (.lst (as.reverse.map V.ref ++ [.ref a, .ref b, .ref c]))) (hx : ItAt H' a x) (hy : ItAt H' b y) (hz : ItAt H' c z) : StkAt H' sl (z :: y :: x :: st) :=
  ⟨c :: b :: a :: as, by rw [e]; simp, .cons hz (.cons hy (.cons hx (paired_keep t h2)))⟩
theorem no_str {x y : Str} (h : ¬ x = y := by decide +kernel) : decide (V.str x = V.str y) = false := decide_eq_false fun z => h (V.str.inj z)
section
variable {P : Program} {w : World} {K : PySem.W.Frag} {mg : Str → Option Value} {base : Heap} {CB fB CC CR CX aK aS : Addr}
theorem sc_law_next : FnScope ["_law_stack", "_law_scope", "_law_word", "_law_top", "_law_names_here"] ["_law_stack", "_law_scope", "_law_word"] (defScope s_law_next) := ⟨rfl, rfl, rfl, by decide +kernel, rfl, by decide +kernel, by decide +kernel⟩
theorem ok_law_next {f : Addr} {fd : FuncData} (F : Fun K "_law_next" "_law_next" s_law_next f fd) (T : Txt P K mg CB fB CC CR CX aK aS) (Gis_number : CalX P w K mg base CX0 1 "_law_is_number" spLIsNum) (Gis_name : CalX P w K mg base CX0 1 "_law_is_name" spLIsName)
    (Gvalues : CalX P w K mg base CX0 2 "_law_values" spLValues) (Gblocks : CalX P w K mg base CX0 1 "_law_blocks" spLBlocks) : FnOk P w K mg base CX0 3 f fd ["_law_stack", "_law_scope", "_law_word"] spLNext := by
  refine F.ok sc_law_next (fun vs H Q E h => ?_) (fun cdv A outer s H vs Q E hr h => ?_)
  · obtain ⟨sl, d, n, w, x, st, sc, rfl, _⟩ := h
    rfl
  obtain ⟨sl, d, n, w, x, st, sc, rfl, hS, hC, hsn, hz, hnz, hw, k1, k2⟩ := h
  refine ⟨_, (pss_cons (ps_set (i := 3) sc_law_next.nd rfl (Or.inl rfl) (pe_bm0 PySem.F.plainAttrs_list PySem.F.slot_list_pop PySem.F.type_list_pop mt_pop (pv 0)))
 (pss_cons (ps_if (pt_cmpR op_eq (pe_ix ix_tup (pv 3) pe_int (fun _ _ => rfl)) pe_str (nomark _))
 (pss_one (ps_ret (pe_cmpR op_eq (pv 2) (pe_ix ix_tup (pv 3) pe_int (fun _ _ => rfl)) (nomark _))))
 pss_nil)
 (pss_cons (ps_if (pt_cmpR op_eq (pe_ix ix_tup (pv 3) pe_int (fun _ _ => rfl)) pe_str (nomark _))
 (pss_one (ps_ret (pe_cmpR op_in_seq (pv 2) (pe_dget (hu_of hr) (pv 1) pe_str (fun _ _ => rfl)) rfl)))
 pss_nil)
 (pss_cons (ps_if (pt_cmpR op_eq (pe_ix ix_tup (pv 3) pe_int (fun _ _ => rfl)) pe_str (nomark _))
 (pss_one (ps_ret (pe_cx Gis_number hr pass0 (pa_cons (pv 2) (pa_cons (pe_ix ix_tup (pv 3) pe_int (fun _ _ => rfl)) (pa_cons (pe_ix ix_tup (pv 3) pe_int (fun _ _ => rfl)) pa_nil))))))
 pss_nil)
 (pss_cons (ps_if (pt_cmpR op_eq (pe_ix ix_tup (pv 3) pe_int (fun _ _ => rfl)) pe_str (nomark _))
 (pss_one (ps_ret (pe_cx Gvalues hr pass0 (pa_cons (pv 0) (pa_cons (pe_ix ix_tup (pv 3) pe_int (fun _ _ => rfl)) (pa_cons (pv 2) (pa_cons (pe_ix ix_tup (pv 3) pe_int (fun _ _ => rfl)) pa_nil)))))))
 pss_nil)
 (pss_cons (ps_if (pt_cmpR op_eq (pe_ix ix_tup (pv 3) pe_int (fun _ _ => rfl)) pe_str (nomark _))
 (pss_one (ps_ret (pe_cx Gblocks hr pass0 (pa_cons (pv 0) (pa_cons (pv 1) (pa_cons (pv 2) (pa_cons (pe_ix ix_tup (pv 3) pe_int (fun _ _ => rfl)) (pa_cons (pe_ix ix_tup (pv 3) pe_int (fun _ _ => rfl)) pa_nil))))))))
 pss_nil)
 (pss_cons (ps_if (pt_cmpR op_eq (pe_ix ix_tup (pv 3) pe_int (fun _ _ => rfl)) pe_str (nomark _))
 (pss_cons (ps_if (PW.pt (pw_and (pt_cmpR op_eq (pv 2) pe_str (nomark _)) (pw_and1 (pt_cmpR op_lt (pe_callB call_len_seq (by rfl) T.len PySem.boot_len (pa_cons (pe_dget (hu_of hr) (pv 1) pe_str (fun _ _ => rfl)) pa_nil)) pe_int (nomark _)))))
 (pss_cons (ps_expr (pe_bm PySem.F.plainAttrs_list PySem.F.slot_list_extend PySem.F.type_list_extend mt_extend (pv 0) (pa_cons (pe_lst (pa_cons (pe_tup (pa_cons pe_str pa_nil)) (pa_cons (pe_tup (pa_cons pe_str (pa_cons pe_int (pa_cons pe_int pa_nil)))) (pa_cons (pe_tup (pa_cons pe_str pa_nil)) pa_nil)))) pa_nil)))
 (pss_one (ps_ret pe_bl)))
 pss_nil)
 (pss_cons (ps_expr (pe_bm PySem.F.plainAttrs_list PySem.F.slot_list_append PySem.F.type_list_append mt_append (pv 0) (pa_cons (pe_tup (pa_cons pe_str (pa_cons pe_int (pa_cons pe_str pa_nil)))) pa_nil)))
 (pss_one (ps_ret (pe_cmpR op_eq (pv 2) pe_str (nomark _))))))
 pss_nil)
 (pss_cons (ps_set (i := 4) sc_law_next.nd rfl (Or.inl rfl) (pe_dget (hu_of hr) (pv 1) pe_str (fun _ _ => rfl)))
 (pss_cons (ps_if (PW.pt (pw_or (pt_cmpR op_in_seq (pv 2) (pv 4) rfl) (pw_or1 (pt_not (pt_val (pe_cx Gis_name hr pass0 (pa_cons (pv 2) pa_nil)))))))
 (pss_one (ps_ret pe_bl))
 pss_nil)
 (pss_cons (ps_expr (pe_bm PySem.F.plainAttrs_list PySem.F.slot_list_append PySem.F.type_list_append mt_append (pv 4) (pa_cons (pv 2) pa_nil)))
 (pss_one (ps_ret pe_bl)))))))))))), ?_⟩
  have hsd := hC.dn hS
  have hdn : d ≠ n := by
    obtain ⟨e, z1, z2⟩ := hC.ex
    exact ne_of z1 hC.hn (by intro z; cases z)
  obtain ⟨as0, e1, e2⟩ := hS
  cases e2 with
  | @cons a _ as _ hx hr2 =>
  have em : (a :: as).reverse.map V.ref = as.reverse.map V.ref ++ [.ref a] := by simp
  rw [em] at e1
  refine ⟨_, rfl, .inl ⟨rfl, _, SqL.of e1⟩, sl, _, .ref a, rfl, rfl, e1, by simp, ?_⟩
  rw [List.dropLast_concat]
  have tk1 : Tk H (upd H sl (.lst (as.reverse.map V.ref))) := Tk.upd e1 (by intro xs z; cases z)
  have kq1 : Keep [sl] H (upd H sl (.lst (as.reverse.map V.ref))) := Keep.upd (by simp)
  have hS1 : StkAt (upd H sl (.lst (as.reverse.map V.ref))) sl st := ⟨as, upd_same, paired_keep tk1 hr2⟩
  have hC1 : ScAt (upd H sl (.lst (as.reverse.map V.ref))) d n sc := hC.kp kq1 (by simpa using hsd.symm) (by simpa using hsn.symm) (fun e xs he => by simp; exact ne_of he e1 (by intro z; cases z))
  have kp1 : Keep [sl, d, n] H (upd H sl (.lst (as.reverse.map V.ref))) := kq1.mono (by simp)
  have hx1 := hx.keep tk1
  generalize upd H sl (.lst (as.reverse.map V.ref)) = H1 at hS1 hC1 kp1 hx1 ⊢
  clear hx hr2 em tk1 kq1 e1 hC
  obtain ⟨e0, hd1, he1⟩ := hC1.ex
  have hn1 := hC1.hn
  cases x with
  | word y =>
    refine ⟨_, rfl, a, _, _, _, rfl, rfl, SqT.of hx1, rfl, rfl, _, rfl, ?_⟩
    rw [decide_eq_true rfl]
    refine iteT ?_
    refine ⟨_, rfl, _, rfl, a, _, _, _, rfl, rfl, SqT.of hx1, rfl, rfl, ?_⟩
    show Q (.bl (decide (V.str w = V.str y))) H1
    rw [str_eq]
    by_cases h : w = y
    · rw [decide_eq_true h]; exact k1 _ _ _ (by unfold step; exact if_pos h) kp1 hS1 hC1
    · rw [decide_eq_false h]; exact k2 _ (by unfold step; exact if_neg h) kp1
  | one =>
    refine ⟨_, rfl, a, _, _, _, rfl, rfl, SqT.of hx1, rfl, rfl, _, rfl, ?_⟩
    rw [no_str]
    refine iteF ?_
    refine ⟨_, rfl, a, _, _, _, rfl, rfl, SqT.of hx1, rfl, rfl, _, rfl, ?_⟩
    rw [decide_eq_true rfl]
    refine iteT ?_
    refine ⟨_, rfl, _, rfl, d, _, rfl, dg hd1 (scd_names _ _ _ _), n, _, rfl, .inl (SqL.of hn1), rfl, flat_strs _, ?_⟩
    rw [inV_strs]
    by_cases h : w ∈ sc.nm
    · rw [decide_eq_true h]; exact k1 _ _ _ (by unfold step; exact if_pos h) kp1 hS1 hC1
    · rw [decide_eq_false h]; exact k2 _ (by unfold step; exact if_neg h) kp1
  | num lo hi =>
    refine ⟨_, rfl, a, _, _, _, rfl, rfl, SqT.of hx1, rfl, rfl, _, rfl, ?_⟩
    rw [no_str]
    refine iteF ?_
    refine ⟨_, rfl, a, _, _, _, rfl, rfl, SqT.of hx1, rfl, rfl, _, rfl, ?_⟩
    rw [no_str]
    refine iteF ?_
    refine ⟨_, rfl, a, _, _, _, rfl, rfl, SqT.of hx1, rfl, rfl, _, rfl, ?_⟩
    rw [decide_eq_true rfl]
    refine iteT ?_
    refine ⟨_, rfl, _, rfl, a, _, _, _, rfl, rfl, SqT.of hx1, rfl, _, rfl, a, _, _, _, rfl, rfl, SqT.of hx1, rfl, w, lo, hi, rfl, hw, ?_⟩
    by_cases h : isNum w lo hi = true
    · rw [h]; exact k1 _ _ _ (by unfold step; exact if_pos h) kp1 hS1 hC1
    · rw [Bool.eq_false_iff.mpr h]; exact k2 _ (by unfold step; exact if_neg h) kp1
  | val nm r =>
    obtain ⟨q, hx1, hq⟩ := hx1
    refine ⟨_, rfl, a, _, _, _, rfl, rfl, SqT.of hx1, rfl, rfl, _, rfl, ?_⟩
    rw [no_str]
    refine iteF ?_
    refine ⟨_, rfl, a, _, _, _, rfl, rfl, SqT.of hx1, rfl, rfl, _, rfl, ?_⟩
    rw [no_str]
    refine iteF ?_
    refine ⟨_, rfl, a, _, _, _, rfl, rfl, SqT.of hx1, rfl, rfl, _, rfl, ?_⟩
    rw [no_str]
    refine iteF ?_
    refine ⟨_, rfl, a, _, _, _, rfl, rfl, SqT.of hx1, rfl, rfl, _, rfl, ?_⟩
    rw [decide_eq_true rfl]
    refine iteT ?_
    refine ⟨_, rfl, _, rfl, a, _, _, _, rfl, rfl, SqT.of hx1, rfl, _, rfl, _, rfl, a, _, _, _, rfl, rfl, SqT.of hx1, rfl, sl, q, w, r, nm, st, rfl, hS1, hq, by omega, hw, fun sc' st' H' e kp hS' => ?_, fun H' e kp => k2 _ (e sc) (kp1.trans (kp.mono (by simp)))⟩
    have e' : step (.val nm r) st sc w = some (st', sc) := by
      simp only [step] at e ⊢
      by_cases q1 : w ∈ signs ∧ r > 1
      · rw [if_pos q1] at e ⊢; cases e; rfl
      · rw [if_neg q1] at e ⊢
        by_cases q2 : w ∈ nm ∨ isNum w 0 65535 = true
        · rw [if_pos q2] at e ⊢; cases e; rfl
        · rw [if_neg q2] at e; cases e
    obtain ⟨_, es, _⟩ := hS1
    exact k1 _ _ _ e' (kp1.trans (kp.mono (by simp))) hS' (hC1.kp kp (by simpa using hsd.symm) (by simpa using hsn.symm) (fun e xs he => by simp; exact ne_of he es (by intro z; cases z)))
  | blk r k =>
    refine ⟨_, rfl, a, _, _, _, rfl, rfl, SqT.of hx1, rfl, rfl, _, rfl, ?_⟩
    rw [no_str]
    refine iteF ?_
    refine ⟨_, rfl, a, _, _, _, rfl, rfl, SqT.of hx1, rfl, rfl, _, rfl, ?_⟩
    rw [no_str]
    refine iteF ?_
    refine ⟨_, rfl, a, _, _, _, rfl, rfl, SqT.of hx1, rfl, rfl, _, rfl, ?_⟩
    rw [no_str]
    refine iteF ?_
    refine ⟨_, rfl, a, _, _, _, rfl, rfl, SqT.of hx1, rfl, rfl, _, rfl, ?_⟩
    rw [no_str]
    refine iteF ?_
    refine ⟨_, rfl, a, _, _, _, rfl, rfl, SqT.of hx1, rfl, rfl, _, rfl, ?_⟩
    rw [decide_eq_true rfl]
    refine iteT ?_
    refine ⟨_, rfl, _, rfl, _, rfl, _, rfl, a, _, _, _, rfl, rfl, SqT.of hx1, rfl, _, rfl, a, _, _, _, rfl, rfl, SqT.of hx1, rfl, sl, d, n, w, r, k, st, sc, rfl, hS1, hC1, hsn, by omega, by omega, fun st' sc' H' e kp hS' hC' => ?_, fun H' e kp => k2 _ (by unfold step; exact e) (kp1.trans (kp.mono (by simp)))⟩
    exact k1 _ _ _ (by unfold step; exact e) (kp1.trans (kp.mono (by simp))) hS' hC'
  | head =>
    refine ⟨_, rfl, a, _, _, _, rfl, rfl, SqT.of hx1, rfl, rfl, _, rfl, ?_⟩
    rw [no_str]
    refine iteF ?_
    refine ⟨_, rfl, a, _, _, _, rfl, rfl, SqT.of hx1, rfl, rfl, _, rfl, ?_⟩
    rw [no_str]
    refine iteF ?_
    refine ⟨_, rfl, a, _, _, _, rfl, rfl, SqT.of hx1, rfl, rfl, _, rfl, ?_⟩
    rw [no_str]
    refine iteF ?_
    refine ⟨_, rfl, a, _, _, _, rfl, rfl, SqT.of hx1, rfl, rfl, _, rfl, ?_⟩
    rw [no_str]
    refine iteF ?_
    refine ⟨_, rfl, a, _, _, _, rfl, rfl, SqT.of hx1, rfl, rfl, _, rfl, ?_⟩
    rw [no_str]
    refine iteF ?_
    refine ⟨_, rfl, a, _, _, _, rfl, rfl, SqT.of hx1, rfl, rfl, _, rfl, ?_⟩
    rw [decide_eq_true rfl]
    refine iteT ?_
    obtain ⟨as, e1, e2, el⟩ := hS1.len
    refine ⟨_, rfl, rfl, _, rfl, ?_⟩
    rw [str_eq]
    by_cases hA : w = "var" ∧ sc.nm.length < 4
    · rw [decide_eq_true hA.1]
      refine iteT ⟨_, rfl, d, _, rfl, dg hd1 (scd_names _ _ _ _), n, _, rfl, .inl (SqL.of hn1), _, _, rfl, rfl, _, rfl, ?_⟩
      rw [List.length_map, decide_eq_true (show (sc.nm.length : Int) < 4 by have := hA.2; omega)]
      refine iteT ⟨_, rfl, .inl ⟨rfl, _, SqL.of e1⟩, by show 1 ≤ sizeLine; decide, fun a ha => ⟨by show 3 ≤ sizeLine; decide, fun b hb => ⟨by show 1 ≤ sizeLine; decide, fun c hc => ⟨by show 3 ≤ sizeLine; decide, fun l hl => ?_⟩⟩⟩⟩
      have s1 := same_new ha (.tup [.str "head"])
      have s2 := same_new hb (.tup [.str "number", .int 1, .int 12])
      have s3 := same_new hc (.tup [.str "new"])
      have s4 := same_new hl (.lst [.ref a, .ref b, .ref c])
      have s14 := s1.trans (s2.trans (s3.trans s4))
      have hsl := s14 _ _ e1
      have ea := s4 _ _ (s3 _ _ (s2 _ _ (show (upd H1 a (.tup [.str "head"])) a = some (.tup [.str "head"]) from upd_same)))
      have eb := s4 _ _ (s3 _ _ (show (upd (upd H1 a (.tup [.str "head"])) b (.tup [.str "number", .int 1, .int 12])) b = some (.tup [.str "number", .int 1, .int 12]) from upd_same))
      have ec := s4 _ _ (show (upd (upd (upd H1 a (.tup [.str "head"])) b (.tup [.str "number", .int 1, .int 12])) c (.tup [.str "new"])) c = some (.tup [.str "new"]) from upd_same)
      refine ⟨sl, l, _, _, rfl, rfl, hsl, upd_same, by rw [el]; simp only [List.length_cons, List.length_nil]; omega, ?_⟩
      have tu := Tk.upd (o := .lst (as.reverse.map V.ref ++ [.ref a, .ref b, .ref c])) hsl (by intro xs z; cases z)
      have kp : Keep [sl] H1 _ := (Keep.of_same s14).trans (Keep.upd (o := .lst (as.reverse.map V.ref ++ [.ref a, .ref b, .ref c])) (p := sl) (by simp))
      refine k1 _ _ _ (by unfold step; exact if_pos hA) (kp1.trans (kp.mono (by simp))) (StkAt.push3 (x := .head) (y := .num 1 12) (z := .new) e2 (Tk.trans (fun b xs z => s14 b _ z) tu) upd_same (tu _ _ ea) (tu _ _ eb) (tu _ _ ec)) ?_
      exact hC1.kp kp (by simpa using hsd.symm) (by simpa using hsn.symm) (fun e xs he => by simp; exact ne_of he e1 (by intro z; cases z))
    refine ite_f2 (fun q1 z => ⟨_, rfl, d, _, rfl, dg hd1 (scd_names _ _ _ _), n, _, rfl, .inl (SqL.of hn1), _, _, rfl, rfl, _, rfl, by
      rw [List.length_map, decide_eq_false (show ¬ (sc.nm.length : Int) < 4 from fun y => hA ⟨of_decide_eq_true q1, by omega⟩)]; exact iteF z⟩) (fun z => iteF z) ?_
    refine ⟨_, rfl, .inl ⟨rfl, _, SqL.of e1⟩, by show 3 ≤ sizeLine; decide, fun a ha => ?_⟩
    obtain ⟨z1, z2⟩ := psh (x := .blk 4 .start) e1 e2 ha (fun H' x t => x)
    refine ⟨sl, _, _, rfl, rfl, same_new ha _ _ _ e1, by rw [el]; omega, ?_⟩
    refine ⟨_, rfl, rfl, ?_⟩
    rw [str_eq]
    by_cases h : w = "start"
    · rw [decide_eq_true h]
      exact k1 _ _ _ (by unfold step; exact (if_neg hA).trans (if_pos h)) (kp1.trans (z2.mono (by simp))) z1 (hC1.kp z2 (by simpa using hsd.symm) (by simpa using hsn.symm) (fun e xs he => by simp; exact ne_of he e1 (by intro z; cases z)))
    · rw [decide_eq_false h]
      exact k2 _ (by unfold step; exact (if_neg hA).trans (if_neg h)) (kp1.trans (z2.mono (by simp)))
  | new =>
    refine ⟨_, rfl, a, _, _, _, rfl, rfl, SqT.of hx1, rfl, rfl, _, rfl, ?_⟩
    rw [no_str]
    refine iteF ?_
    refine ⟨_, rfl, a, _, _, _, rfl, rfl, SqT.of hx1, rfl, rfl, _, rfl, ?_⟩
    rw [no_str]
    refine iteF ?_
    refine ⟨_, rfl, a, _, _, _, rfl, rfl, SqT.of hx1, rfl, rfl, _, rfl, ?_⟩
    rw [no_str]
    refine iteF ?_
    refine ⟨_, rfl, a, _, _, _, rfl, rfl, SqT.of hx1, rfl, rfl, _, rfl, ?_⟩
    rw [no_str]
    refine iteF ?_
    refine ⟨_, rfl, a, _, _, _, rfl, rfl, SqT.of hx1, rfl, rfl, _, rfl, ?_⟩
    rw [no_str]
    refine iteF ?_
    refine ⟨_, rfl, a, _, _, _, rfl, rfl, SqT.of hx1, rfl, rfl, _, rfl, ?_⟩
    rw [no_str]
    refine iteF ?_
    refine ⟨_, rfl, d, _, rfl, dg hd1 (scd_names _ _ _ _), _, rfl, _, rfl, n, _, rfl, .inl (SqL.of hn1), rfl, flat_strs _, _, rfl, ?_⟩
    rw [inV_strs]
    by_cases h : w ∈ sc.nm
    · rw [decide_eq_true h]
      exact iteT (iteT (k2 _ (by unfold step; exact if_pos (.inl h)) kp1))
    rw [decide_eq_false h]
    refine iteF ⟨_, rfl, w, rfl, hw, fun H2 s2 => ⟨_, rfl, ?_⟩⟩
    by_cases h2 : isName w = true
    · rw [h2]
      refine iteF ⟨_, rfl, .inl ⟨rfl, _, SqL.of (s2 _ _ hn1)⟩, _, rfl, n, _, _, rfl, rfl, s2 _ _ hn1, by rw [List.length_map]; omega, ?_⟩
      have tk : Tk H2 (upd H2 n (.lst (sc.nm.map V.str ++ [.str w]))) := Tk.upd (s2 _ _ hn1) (by intro xs z; cases z)
      refine k1 st { sc with nm := sc.nm ++ [w] } _ (by unfold step; exact if_neg fun z => by rcases z with z | z <;> first | exact h z | (rw [h2] at z; cases z)) (kp1.trans ((Keep.of_same s2).trans (Keep.upd (by simp)))) ((hS1.same s2).keep tk (upd_ne hsn)) ⟨⟨e0, by rw [upd_ne hdn]; exact s2 _ _ hd1, tk _ _ (s2 _ _ he1)⟩, by rw [upd_same, List.map_append]; rfl⟩
    · rw [Bool.eq_false_iff.mpr h2]
      exact iteT (k2 _ (by unfold step; exact if_pos (.inr (Bool.eq_false_iff.mpr h2))) (kp1.trans (Keep.of_same s2)))
theorem step_sc {x : It} {st st' : List It} {sc sc' : Sc} {w : Str} (e : step x st sc w = some (st', sc')) : sc'.nm.length ≤ sc.nm.length + 1 ∧ (sc.ex.length ≤ 1 → sc'.ex.length ≤ 1) := by
  have hstm : ∀ {r : Int} {p : List It × Sc}, stm r sc w = some p → p.2.nm = sc.nm ∧ p.2.ex = sc.ex := fun h => by
    unfold stm at h
    repeat' split at h
    all_goals first | (cases h; done) | (cases h; exact ⟨rfl, rfl⟩)
  cases x with
  | blk r k =>
    simp only [step, blocks] at e
    split at e
    · cases e; exact ⟨by omega, id⟩
    · split at e
      · cases e; exact ⟨by omega, id⟩
      · split at e
        · cases e; exact ⟨by simp, fun _ => by simp⟩
        · split at e
          · cases e
          · rename_i p hp
            cases e
            obtain ⟨h1, h2⟩ := hstm hp
            exact ⟨by rw [h1]; omega, fun h => by rw [h2]; exact h⟩
  | new =>
    simp only [step] at e
    split at e
    · cases e
    · cases e; exact ⟨by simp, id⟩
  | _ =>
    simp only [step] at e
    repeat' split at e
    all_goals first | (cases e; done) | (cases e; exact ⟨by omega, id⟩)
theorem sc_law_wrong : FnScope ["_law_words_here", "_law_uses", "_law_scope", "_law_stack", "_law_at"] ["_law_words_here", "_law_uses"] (defScope s_law_wrong) := ⟨rfl, rfl, rfl, by decide +kernel, rfl, by decide +kernel, by decide +kernel⟩
theorem ok_law_wrong {f : Addr} {fd : FuncData} (F : Fun K "_law_wrong" "_law_wrong" s_law_wrong f fd) (T : Txt P K mg CB fB CC CR CX aK aS) (Gnext : CalX P w K mg base CX0 3 "_law_next" spLNext) : FnOk P w K mg base CX0 4 f fd ["_law_words_here", "_law_uses"] (spLWrong K) := by
  refine F.ok sc_law_wrong (fun vs H Q E h => ?_) (fun cdv A outer s H vs Q E hr h => ?_)
  · obtain ⟨wl, ws, us, rfl, _⟩ := h
    rfl
  obtain ⟨wl, ws, us, rfl, hwl, hz, hws, kk⟩ := h
  refine ⟨_, (pss_cons (ps_set (i := 2) sc_law_wrong.nd rfl (Or.inl rfl) (pe_disp (pps_cons pe_str (pe_lst pa_nil) (pps_cons pe_str (pe_tup pa_nil) (pps_cons pe_str pe_int (pps_cons pe_str (pv 1) pps_nil)))) (by rfl) (by rfl) (fun z => by cases z) (by decide)))
 (pss_cons (ps_set (i := 3) sc_law_wrong.nd rfl (Or.inl rfl) (pe_lst (pa_cons (pe_tup (pa_cons pe_str pa_nil)) (pa_cons (pe_tup (pa_cons pe_str (pa_cons pe_int (pa_cons pe_int pa_nil)))) (pa_cons (pe_tup (pa_cons pe_str (pa_cons pe_str pa_nil))) (pa_cons (pe_tup (pa_cons pe_str (pa_cons pe_int (pa_cons pe_int pa_nil)))) (pa_cons (pe_tup (pa_cons pe_str (pa_cons pe_str pa_nil))) pa_nil)))))))
 (pss_cons (ps_for PassesOwn.never rfl (pi_range1 rfl T.range (pa_cons (pe_callB call_len_seq (by rfl) T.len PySem.boot_len (pa_cons (pv 0) pa_nil)) pa_nil)) (pg_name (i := 4) sc_law_wrong.nd rfl (Or.inl rfl))
 (pss_one (ps_if (pt_not (pt_val (pe_cx Gnext hr pass0 (pa_cons (pv 3) (pa_cons (pv 2) (pa_cons (pe_ix ix_list (pv 0) (pv 4) (fun _ _ => rfl)) pa_nil))))))
 (pss_one (ps_ret (pv 4)))
 pss_nil)))
 (pss_cons (ps_if (PW.pt (pw_and (pt_cmpR op_eq (pe_callB call_len_seq (by rfl) T.len PySem.boot_len (pa_cons (pv 3) pa_nil)) pe_int (nomark _)) (pw_and (pt_cmpR op_eq (pe_ix ix_tup (pe_ix ix_list (pv 3) pe_int (fun _ _ => rfl)) pe_int (fun _ _ => rfl)) pe_str (nomark _)) (pw_and1 (pt_cmpR op_eq (pe_ix ix_tup (pe_ix ix_list (pv 3) pe_int (fun _ _ => rfl)) pe_int (fun _ _ => rfl)) pe_str (nomark _))))))
 (pss_one (ps_ret pe_non))
 pss_nil)
 (pss_one (ps_ret (pe_callB call_len_seq (by rfl) T.len PySem.boot_len (pa_cons (pv 0) pa_nil)))))))), ?_⟩
  refine fun d hd => ⟨Nat.zero_le _, fun n hn => ⟨Nat.zero_le _, fun e he => ?_⟩⟩
  have g1 : (upd H d (.dK [])) d = some (.dK []) := upd_same
  have hdn := ne_of_none g1 hn
  have g2 := same_new hn (.lst []) _ _ g1
  have hde := ne_of_none g2 he
  have g3 := same_new he (.tup []) _ _ g2
  have gn : (upd (upd (upd H d (.dK [])) n (.lst [])) e (.tup [])) n = some (.lst []) := same_new he (.tup []) _ _ upd_same
  have ge : (upd (upd (upd H d (.dK [])) n (.lst [])) e (.tup [])) e = some (.tup []) := upd_same
  have s0 : Same H (upd (upd (upd H d (.dK [])) n (.lst [])) e (.tup [])) := (same_new hd _).trans ((same_new hn _).trans (same_new he _))
  refine ⟨_, rfl, g3, scd n e 3 us, rfl, by show 4 ≤ 15; decide, ?_⟩
  rw [scd_made]
  generalize upd (upd (upd H d (.dK [])) n (.lst [])) e (.tup []) = H0 at g3 gn ge s0 ⊢
  have s1 : Same H (upd H0 d (.dK (scd n e 3 us))) := fun b u z => by rw [upd_ne (ne_of_none z hd)]; exact s0 b u z
  have hn0 : H n = none := by rwa [upd_ne hdn.symm] at hn
  have hC1 : ScAt (upd H0 d (.dK (scd n e 3 us))) d n (sc0 us) := ⟨⟨e, upd_same, by rw [upd_ne hde.symm]; exact ge⟩, by rw [upd_ne hdn.symm]; exact gn⟩
  generalize upd H0 d (.dK (scd n e 3 us)) = H1 at s1 hC1 ⊢
  clear g1 g2 g3 gn ge s0 hn he
  -- the stack
  refine ⟨by show 1 ≤ sizeLine; decide, fun a1 h1 => ⟨by show 3 ≤ sizeLine; decide, fun a2 h2 => ⟨by show 2 ≤ sizeLine; decide, fun a3 h3 => ⟨by show 3 ≤ sizeLine; decide, fun a4 h4 => ⟨by show 2 ≤ sizeLine; decide, fun a5 h5 => ⟨by show 5 ≤ sizeLine; decide, fun sl h6 => ?_⟩⟩⟩⟩⟩⟩
  have t1 := same_new h1 (.tup [.str "head"])
  have t2 := same_new h2 (.tup [.str "number", .int 1, .int 4])
  have t3 := same_new h3 (.tup [.str "word", .str "answers"])
  have t4 := same_new h4 (.tup [.str "number", .int 1, .int 4])
  have t5 := same_new h5 (.tup [.str "word", .str "buttons"])
  have t6 := same_new h6 (.lst [.ref a1, .ref a2, .ref a3, .ref a4, .ref a5])
  have q1 := t6 _ _ (t5 _ _ (t4 _ _ (t3 _ _ (t2 _ _ (show (upd H1 a1 (.tup [.str "head"])) a1 = some (.tup [.str "head"]) from upd_same)))))
  have q2 := t6 _ _ (t5 _ _ (t4 _ _ (t3 _ _ (show (upd (upd H1 a1 (.tup [.str "head"])) a2 (.tup [.str "number", .int 1, .int 4])) a2 = some (.tup [.str "number", .int 1, .int 4]) from upd_same))))
  have q3 := t6 _ _ (t5 _ _ (t4 _ _ (show (upd (upd (upd H1 a1 (.tup [.str "head"])) a2 (.tup [.str "number", .int 1, .int 4])) a3 (.tup [.str "word", .str "answers"])) a3 = some (.tup [.str "word", .str "answers"]) from upd_same)))
  have q4 := t6 _ _ (t5 _ _ (show (upd (upd (upd (upd H1 a1 (.tup [.str "head"])) a2 (.tup [.str "number", .int 1, .int 4])) a3 (.tup [.str "word", .str "answers"])) a4 (.tup [.str "number", .int 1, .int 4])) a4 = some (.tup [.str "number", .int 1, .int 4]) from upd_same))
  have q5 := t6 _ _ (show (upd (upd (upd (upd (upd H1 a1 (.tup [.str "head"])) a2 (.tup [.str "number", .int 1, .int 4])) a3 (.tup [.str "word", .str "answers"])) a4 (.tup [.str "number", .int 1, .int 4])) a5 (.tup [.str "word", .str "buttons"])) a5 = some (.tup [.str "word", .str "buttons"]) from upd_same)
  have s16 : Same H1 _ := t1.trans (t2.trans (t3.trans (t4.trans (t5.trans t6))))
  have q6 : (upd (upd (upd (upd (upd (upd H1 a1 (.tup [.str "head"])) a2 (.tup [.str "number", .int 1, .int 4])) a3 (.tup [.str "word", .str "answers"])) a4 (.tup [.str "number", .int 1, .int 4])) a5 (.tup [.str "word", .str "buttons"])) sl (.lst [.ref a1, .ref a2, .ref a3, .ref a4, .ref a5])) sl = some (.lst [.ref a1, .ref a2, .ref a3, .ref a4, .ref a5]) := upd_same
  have hsl1 : H1 sl = none := t1.free (t2.free (t3.free (t4.free (t5.free h6))))
  have hsl : H sl = none := s1.free hsl1
  have hsn : sl ≠ n := (ne_of_none hC1.hn hsl1).symm
  have s2 := s1.trans s16
  have hC2 := hC1.same s16
  generalize upd (upd (upd (upd (upd (upd H1 a1 (.tup [.str "head"])) a2 (.tup [.str "number", .int 1, .int 4])) a3 (.tup [.str "word", .str "answers"])) a4 (.tup [.str "number", .int 1, .int 4])) a5 (.tup [.str "word", .str "buttons"])) sl (.lst [.ref a1, .ref a2, .ref a3, .ref a4, .ref a5]) = H2 at q1 q2 q3 q4 q5 q6 s2 hC2 ⊢
  have hS2 : StkAt H2 sl st0 := ⟨[a5, a4, a3, a2, a1], q6, .cons q5 (.cons q4 (.cons q3 (.cons q2 (.cons q1 .nil))))⟩
  clear q1 q2 q3 q4 q5 q6 t1 t2 t3 t4 t5 t6 h1 h2 h3 h4 h5 h6 s16 hC1 s1 hsl1
  -- the loop
  refine ⟨_, rfl, wl, _, rfl, .inl (SqL.of (s2 _ _ hwl)), _, rfl, by omega, by rw [List.length_map]; omega, ?_⟩
  have hsz : (5000000 : Nat) + 5000000 + 5000000 + 1000000 ≤ sizeLine := by decide
  refine for_it walk_range (fun i σ H' => ∃ (v : Option V) (st : List It) (sc : Sc), σ = [some (.ref wl), some (.int us), some (.ref d), some (.ref sl), v] ∧ StkAt H' sl st ∧ ScAt H' d n sc ∧ Same H H' ∧ Ok st ∧ st.length ≤ 5 + 3 * i ∧ sc.nm.length ≤ i ∧ sc.ex.length ≤ 1 ∧ wrong ws us = M ws i st sc)
    ⟨none, st0, sc0 us, rfl, hS2, hC2, s2, st0_ok, by decide, Nat.le_refl 0, by show 0 ≤ 1; decide, rfl⟩ (fun _ _ _ _ _ => trivial) ?_ ?_
  · rintro i x σ H3 H4 hi ⟨v, st, sc, rfl, hS, hC, s3, ok, hl1, hl2, hl3, hM⟩ ⟨rfl, rfl⟩
    have hi2 : i < ws.length := by rw [List.length_map] at hi; omega
    have ew : ws[i]? = some ws[i] := List.getElem?_eq_getElem hi2
    obtain ⟨x, st, rfl⟩ := ok.ne
    simp only [List.length_cons] at hl1
    have sm : ∀ {H5 : Hp}, Keep [sl, d, n] H4 H5 → Same H H5 := fun {H5} kp b u z => kp b u (s3 b u z) (by simp; exact ⟨ne_of_none z hsl, ne_of_none z hd, ne_of_none z hn0⟩)
    refine ⟨_, rfl, _, rfl, _, rfl, _, rfl, wl, _, _, _, rfl, rfl, SqL.of (s3 _ _ hwl), by rw [Int.zero_add]; exact at_str ew, sl, d, n, ws[i], x, st, sc, rfl, hS, hC, hsn, by omega, by omega, hws _ (List.getElem_mem hi2), fun st' sc' H5 e5 kp hS5 hC5 => ⟨_, rfl, iteF ?_⟩, fun H5 e5 kp => ⟨_, rfl, iteT ⟨_, rfl, ?_⟩⟩⟩
    · obtain ⟨o1, o2⟩ := step_ok ok e5
      obtain ⟨o3, o4⟩ := step_sc e5
      exact ⟨_, st', sc', rfl, hS5, hC5, sm kp, o1, by omega, by omega, o4 hl3, by rw [hM, M_go ew e5]⟩
    · have := kk H5 (sm kp)
      rw [hM, M_no ew e5] at this
      show Q (.int (0 + (i : Int))) H5
      rw [Int.zero_add]; exact this
  · rintro σ H3 ⟨v, st, sc, rfl, hS, hC, s3, ok, hl1, hl2, hl3, hM⟩
    rw [Int.toNat_natCast, List.length_map] at hM
    rw [M_end (List.getElem?_eq_none_iff.mpr (Nat.le_refl _))] at hM
    have fin0 : accepts st = true → Q .non H3 := fun e => by
      have := kk H3 s3
      rwa [hM, if_pos e] at this
    have fin1 : accepts st = false → Q (.int (ws.length : Int)) H3 := fun e => by
      have := kk H3 s3
      rwa [hM, if_neg (by rw [e]; decide)] at this
    obtain ⟨as, e1, e2, el⟩ := hS.len
    refine ⟨_, rfl, sl, _, rfl, .inl (SqL.of e1), rfl, _, rfl, ?_⟩
    rw [el]
    by_cases h1 : st.length = 1
    · cases e2 with
      | nil => exact absurd h1 (by decide)
      | @cons a x as st hx hr2 =>
      cases hr2 with
      | cons _ _ => simp only [List.length_cons] at h1; omega
      | nil =>
      rw [decide_eq_true (show V.int (([x] : List It).length : Int) = V.int 1 from rfl)]
      refine iteT ?_
      cases x with
      | blk r k =>
        refine ⟨_, rfl, sl, _, _, _, rfl, rfl, SqL.of e1, rfl, a, _, _, _, rfl, rfl, SqT.of hx, rfl, rfl, _, rfl, ?_⟩
        rw [decide_eq_true rfl]
        refine iteT ⟨_, rfl, sl, _, _, _, rfl, rfl, SqL.of e1, rfl, a, _, _, _, rfl, rfl, SqT.of hx, rfl, rfl, _, rfl, ?_⟩
        cases k with
        | top =>
          rw [decide_eq_true (show V.str Kd.top.str = V.str "top" from rfl)]
          exact iteT (fin0 rfl)
        | _ =>
          rw [decide_eq_false (fun z => absurd (V.str.inj z) (by decide +kernel))]
          exact iteF ⟨_, rfl, wl, _, rfl, .inl (SqL.of (s3 _ _ hwl)), by rw [List.length_map]; exact fin1 rfl⟩
      | val nm r =>
        obtain ⟨q, hx, hq⟩ := hx
        refine ⟨_, rfl, sl, _, _, _, rfl, rfl, SqL.of e1, rfl, a, _, _, _, rfl, rfl, SqT.of hx, rfl, rfl, _, rfl, ?_⟩
        rw [no_str]
        exact iteF ⟨_, rfl, wl, _, rfl, .inl (SqL.of (s3 _ _ hwl)), by rw [List.length_map]; exact fin1 rfl⟩
      | _ =>
        refine ⟨_, rfl, sl, _, _, _, rfl, rfl, SqL.of e1, rfl, a, _, _, _, rfl, rfl, SqT.of hx, rfl, rfl, _, rfl, ?_⟩
        rw [no_str]
        exact iteF ⟨_, rfl, wl, _, rfl, .inl (SqL.of (s3 _ _ hwl)), by rw [List.length_map]; exact fin1 rfl⟩
    · rw [decide_eq_false (show ¬ V.int (st.length : Int) = V.int 1 from fun z => h1 (by have := V.int.inj z; omega))]
      refine iteF ⟨_, rfl, wl, _, rfl, .inl (SqL.of (s3 _ _ hwl)), ?_⟩
      rw [List.length_map]
      refine fin1 ?_
      cases st with
      | nil => rfl
      | cons x st => cases st with
        | nil => exact absurd rfl h1
        | cons y st => cases x <;> first | rfl | (rename_i r k; cases k <;> rfl)
end
end Nt

set_option Elab.async false
set_option linter.all false
set_option maxRecDepth 100000
set_option maxHeartbeats 2000000
namespace Nt
open PySem L2
theorem cutN {R : L2.St → Hp → Prop} {G : Prop} {P : L2.St → Hp → Prop} (h1 : (∀ σ H2, P σ H2 → R σ H2) → G) (h2 : ∀ σ H2, P σ H2 → R σ H2) : G := h1 h2
def poolL (l : Addr) (i1 i2 i3 i4 i5 : Int) : List V := [.ref l, .int i1, .int i2, .int i3, .int i4, .int i5]
structure PoolAt (H : Hp) (p l : Addr) : Prop where
  ex : ∃ (xs : List Int) (i1 i2 i3 i4 i5 : Int), H p = some (.lst (poolL l i1 i2 i3 i4 i5)) ∧ H l = some (.lst (xs.map V.int)) ∧ 0 ≤ i1 ∧ 0 ≤ i3 ∧ i3 < 2147483647
theorem pool_ne {H : Hp} {p l b : Addr} {o : HO} (h : PoolAt H p l) (hb : H b = some o) (n : ∀ l i1 i2 i3 i4 i5, o ≠ .lst (poolL l i1 i2 i3 i4 i5)) : b ≠ p := by
  obtain ⟨xs, i1, i2, i3, i4, i5, h1, _⟩ := h.ex
  intro z
  rw [z, h1] at hb
  exact n _ _ _ _ _ _ (Option.some.inj hb).symm
theorem pool_strs {H : Hp} {p l b : Addr} {ws : List Str} (h : PoolAt H p l) (hb : H b = some (.lst (ws.map V.str))) : b ≠ p := pool_ne h hb fun l i1 i2 i3 i4 i5 z => by
  cases ws with
  | nil => cases z
  | cons w r => cases z
theorem PoolAt.same {H H' : Hp} {p l : Addr} (h : PoolAt H p l) (s : Same H H') : PoolAt H' p l := by
  obtain ⟨xs, i1, i2, i3, i4, i5, h1, h2, r⟩ := h.ex
  exact ⟨xs, i1, i2, i3, i4, i5, s _ _ h1, s _ _ h2, r⟩
structure PK (p l : Addr) (H H' : Hp) : Prop where
  kp : Keep [p] H H'
  pool : PoolAt H' p l
theorem PK.refl {p l : Addr} {H : Hp} (h : PoolAt H p l) : PK p l H H := ⟨Keep.refl _ _, h⟩
theorem PK.trans {p l : Addr} {H H1 H2 : Hp} (a : PK p l H H1) (b : PK p l H1 H2) : PK p l H H2 := ⟨a.kp.trans b.kp, b.pool⟩
theorem PK.same {p l : Addr} {H H' : Hp} (h : PoolAt H p l) (s : Same H H') : PK p l H H' := ⟨Keep.of_same s, h.same s⟩
theorem PK.sm {p l : Addr} {H H1 H2 : Hp} (a : PK p l H H1) (s : Same H1 H2) : PK p l H H2 := a.trans (.same a.pool s)
theorem PK.tk {p l : Addr} {H H' : Hp} (a : PK p l H H') (h : PoolAt H p l) : Tk H H' := a.kp.tk fun b hb xs z => by
  have : b = p := by simpa using hb
  exact pool_ne h z (by intro _ _ _ _ _ _ y; cases y) this
theorem PK.strs {p l b : Addr} {ws : List Str} {H H' : Hp} (a : PK p l H H') (h : PoolAt H p l) (hb : H b = some (.lst (ws.map V.str))) : H' b = some (.lst (ws.map V.str)) := a.kp _ _ hb (by simpa using pool_strs h hb)
theorem PK.fr {p l b : Addr} {H H' : Hp} (a : PK p l H H') (h : PoolAt H p l) (hb : H' b = none) : H b = none := by
  cases e : H b with
  | none => rfl
  | some o =>
    by_cases z : b = p
    · obtain ⟨xs, i1, i2, i3, i4, i5, h1, _⟩ := a.pool.ex
      rw [z, h1] at hb; cases hb
    · rw [a.kp _ _ e (by simpa using z)] at hb; cases hb
theorem PK.ne {p l b : Addr} {H : Hp} (h : PoolAt H p l) (hb : H b = none) : b ≠ p ∧ b ≠ l := by
  obtain ⟨xs, i1, i2, i3, i4, i5, h1, h2, _⟩ := h.ex
  exact ⟨(ne_of_none h1 hb).symm, (ne_of_none h2 hb).symm⟩
/-- what is new is written -/
theorem PK.own {p l b : Addr} {H H' : Hp} {o : HO} (a : PK p l H H') (h : PoolAt H p l) (hb : H b = none) : PK p l H (L2.upd H' b o) := by
  obtain ⟨n1, n2⟩ := PK.ne h hb
  refine ⟨fun c u e n => ?_, ?_⟩
  · rw [upd_ne (ne_of_none e hb)]; exact a.kp _ _ e n
  · obtain ⟨xs, i1, i2, i3, i4, i5, h1, h2, r⟩ := a.pool.ex
    exact ⟨xs, i1, i2, i3, i4, i5, by rw [upd_ne n1.symm]; exact h1, by rw [upd_ne n2.symm]; exact h2, r⟩
/-- the pool written -/
theorem PK.upd {p l : Addr} {H : Hp} {xs : List Int} {i1 i2 i3 i4 i5 j1 j2 j3 j4 j5 : Int} (h1 : H p = some (.lst (poolL l i1 i2 i3 i4 i5))) (h2 : H l = some (.lst (xs.map V.int))) (a : 0 ≤ j1) (b : 0 ≤ j3) (c : j3 < 2147483647) :
    PK p l H (L2.upd H p (.lst (poolL l j1 j2 j3 j4 j5))) ∧ (L2.upd H p (.lst (poolL l j1 j2 j3 j4 j5))) p = some (.lst (poolL l j1 j2 j3 j4 j5)) ∧ (L2.upd H p (.lst (poolL l j1 j2 j3 j4 j5))) l = some (.lst (xs.map V.int)) := by
  have lp : l ≠ p := ne_of h2 h1 (by
    intro z
    cases xs with
    | nil => cases z
    | cons x r => cases z)
  have e2 : (L2.upd H p (.lst (poolL l j1 j2 j3 j4 j5))) l = some (.lst (xs.map V.int)) := by rw [upd_ne lp]; exact h2
  exact ⟨⟨Keep.upd (by simp), xs, j1, j2, j3, j4, j5, upd_same, e2, a, b, c⟩, upd_same, e2⟩
theorem setL_of {p : Addr} {xs ys : List V} {k : Int} {j : Nat} {v : V} {H : Hp} {Q : Hp → Prop} (h : H p = some (.lst xs)) (hj : ixN xs.length k = some j) (e : xs.set j v = ys) (q : Q (upd H p (.lst ys))) : rSetL (.ref p) (.int k) v H Q :=
  ⟨p, xs, k, j, rfl, rfl, h, hj, by rw [e]; exact q⟩
theorem at_int {xs : List Int} {j : Nat} {x : Int} (h : xs[j]? = some x) : atI (xs.map V.int) (j : Int) = some (.int x) := atI_nat (by rw [List.getElem?_map, h]; rfl)
def spLPool (K : PySem.W.Frag) : Sp := fun vs H Q _ => ∃ (s : Addr) (xs : List Int) (b : Int), vs = [.ref s, .int b] ∧ SqL K H s (xs.map V.int) ∧ xs.length ≤ 1000 ∧ ∀ p l H', H p = none → H l = none → Same H H' → PoolAt H' p l → Q (.ref p) H'
def spLDraw : Sp := fun vs H Q _ => ∃ (p l : Addr) (n : Int), vs = [.ref p, .int n] ∧ PoolAt H p l ∧ 0 < n ∧ n < 1073741824 ∧ ∀ (r : Int) H', 0 ≤ r → r < n → PK p l H H' → Q (.int r) H'
def spLSpend : Sp := fun vs H Q _ => ∃ (p l : Addr), vs = [.ref p] ∧ PoolAt H p l ∧ ∀ (b : Bool) H', PK p l H H' → Q (.bl b) H'
theorem md {a n : Int} (h : 0 < n) : 0 ≤ a.fmod n ∧ a.fmod n < n := ⟨Int.fmod_nonneg_of_pos a h, Int.fmod_lt_of_pos a h⟩
section
variable {P : Program} {w : World} {K : PySem.W.Frag} {mg : Str → Option Value} {base : Heap} {CB fB CC CR CX aK aS : Addr}
theorem sc_law_pool : FnScope ["_law_script", "_law_budget"] ["_law_script", "_law_budget"] (defScope s_law_pool) := ⟨rfl, rfl, rfl, by decide +kernel, rfl, by decide +kernel, by decide +kernel⟩
theorem ok_law_pool {f : Addr} {fd : FuncData} (F : Fun K "_law_pool" "_law_pool" s_law_pool f fd) (T : Txt P K mg CB fB CC CR CX aK aS) : FnOk P w K mg base CX0 1 f fd ["_law_script", "_law_budget"] (spLPool K) := by
  refine F.ok sc_law_pool (fun vs H Q E h => ?_) (fun cdv A outer s H vs Q E hr h => ?_)
  · obtain ⟨w, lo, hi, rfl, _⟩ := h
    rfl
  obtain ⟨s, xs, b, rfl, hs, hl, k⟩ := h
  refine ⟨_, (pss_one (ps_ret (pe_lst (pa_cons (pe_callTy call_list_of (by rfl) T.list_ (by decide +kernel) (pa_cons (pv 0) pa_nil)) (pa_cons pe_int (pa_cons pe_int (pa_cons pe_int (pa_cons pe_int (pa_cons (pv 1) pa_nil))))))))), ?_⟩
  refine ⟨_, rfl, s, _, rfl, .inl hs, fun l hl => ⟨_, rfl, by show 6 ≤ sizeLine; decide, fun p hp => ?_⟩⟩
  exact k p l _ (by rwa [upd_ne (fun z => by rw [z, upd_same] at hp; cases hp)] at hp) hl ((same_new hl _).trans (same_new hp _)) ⟨xs, 0, 0, 1, 0, b, upd_same, same_new hp _ _ _ upd_same, by decide, by decide, by decide⟩
theorem sc_law_draw : FnScope ["_law_pool_here", "_law_size", "_law_cell", "_law_value_here"] ["_law_pool_here", "_law_size"] (defScope s_law_draw) := ⟨rfl, rfl, rfl, by decide +kernel, rfl, by decide +kernel, by decide +kernel⟩
theorem ok_law_draw {f : Addr} {fd : FuncData} (F : Fun K "_law_draw" "_law_draw" s_law_draw f fd) (T : Txt P K mg CB fB CC CR CX aK aS) : FnOk P w K mg base CX0 1 f fd ["_law_pool_here", "_law_size"] spLDraw := by
  refine F.ok sc_law_draw (fun vs H Q E h => ?_) (fun cdv A outer s H vs Q E hr h => ?_)
  · obtain ⟨p, l, n, rfl, _⟩ := h
    rfl
  obtain ⟨p, l, n, rfl, hP, n0, n1, k⟩ := h
  refine ⟨_, (pss_cons (ps_if (PW.pt (pw_and (pt_cmpR op_le (pe_ix ix_list (pv 0) pe_int (fun _ _ => rfl)) pe_int (nomark _)) (pw_and (pt_cmpR op_le (pe_ix ix_list (pv 0) pe_int (fun _ _ => rfl)) pe_int (nomark _)) (pw_and1 (pt_cmpR op_lt (pe_ix ix_list (pv 0) pe_int (fun _ _ => rfl)) (pe_callB call_len_seq (by rfl) T.len PySem.boot_len (pa_cons (pe_ix ix_list (pv 0) pe_int (fun _ _ => rfl)) pa_nil)) (nomark _))))))
 (pss_cons (ps_set (i := 2) sc_law_draw.nd rfl (Or.inl rfl) (pe_ix ix_list (pe_ix ix_list (pv 0) pe_int (fun _ _ => rfl)) (pe_ix ix_list (pv 0) pe_int (fun _ _ => rfl)) (fun _ _ => rfl)))
 (pss_cons (ps_asg (pe_op op_add (pe_ix ix_list (pv 0) pe_int (fun _ _ => rfl)) pe_int) (pg_sub (pv 0) pe_int set_list))
 (pss_cons (ps_asg (pe_op op_modN (pe_callTy call_int1 (by rfl) T.int_ (by decide +kernel) (pa_cons (pe_op op_add (pe_op op_mul (pe_ix ix_list (pv 0) pe_int (fun _ _ => rfl)) pe_int) (pv 2)) pa_nil)) pe_int) (pg_sub (pv 0) pe_int set_list))
 (pss_cons (ps_asg pe_int (pg_sub (pv 0) pe_int set_list))
 (pss_one (ps_if (pt_cmpR op_ge (pv 2) (pe_op op_pow pe_int pe_int) (nomark _))
 (pss_one (ps_asg (pv 2) (pg_sub (pv 0) pe_int set_list)))
 pss_nil))))))
 pss_nil)
 (pss_cons (ps_if (pt_cmpR op_gt (pe_ix ix_list (pv 0) pe_int (fun _ _ => rfl)) pe_int (nomark _))
 (pss_cons (ps_set (i := 3) sc_law_draw.nd rfl (Or.inl rfl) (pe_op op_modN (pe_callTy call_int1 (by rfl) T.int_ (by decide +kernel) (pa_cons (pe_ix ix_list (pv 0) pe_int (fun _ _ => rfl)) pa_nil)) (pv 1)))
 (pss_cons (ps_asg (pe_op op_fdivN (pe_ix ix_list (pv 0) pe_int (fun _ _ => rfl)) (pv 1)) (pg_sub (pv 0) pe_int set_list))
 (pss_cons (ps_asg pe_int (pg_sub (pv 0) pe_int set_list))
 (pss_one (ps_ret (pv 3))))))
 pss_nil)
 (pss_cons (ps_asg (pe_op op_sub (pe_ix ix_list (pv 0) pe_int (fun _ _ => rfl)) pe_int) (pg_sub (pv 0) pe_int set_list))
 (pss_cons (ps_asg (pe_op op_modN (pe_callTy call_int1 (by rfl) T.int_ (by decide +kernel) (pa_cons (pe_op op_add (pe_op op_mul (pe_ix ix_list (pv 0) pe_int (fun _ _ => rfl)) pe_int) pe_int) pa_nil)) pe_int) (pg_sub (pv 0) pe_int set_list))
 (pss_one (ps_ret (pe_op op_modN (pe_op op_modN (pe_callTy call_int1 (by rfl) T.int_ (by decide +kernel) (pa_cons (pe_op op_add (pe_op op_mul (pe_ix ix_list (pv 0) pe_int (fun _ _ => rfl)) pe_int) pe_int) pa_nil)) pe_int) (pv 1)))))))), ?_⟩
  obtain ⟨xs, i1, i2, i3, i4, i5, hp, hl, g1, g3, g3'⟩ := hP.ex
  refine' cutN (P := fun σ H2 => (∃ v, σ = [some (.ref p), some (.int n), v, none]) ∧ PK p l H H2) (fun key => ?ka1) ?kb1
  case ka1 =>
    refine ⟨_, rfl, p, _, _, _, rfl, rfl, SqL.of hp, rfl, _, _, rfl, rfl, _, rfl, ?_⟩
    by_cases hX : ¬ (i2 ≤ 0 ∧ i4 ≤ 0 ∧ i1 < xs.length)
    · refine ite_f2 (fun q1 z => ⟨_, rfl, p, _, _, _, rfl, rfl, SqL.of hp, rfl, _, _, rfl, rfl, _, rfl, ite_f2 (fun q2 z => ⟨_, rfl, p, _, _, _, rfl, rfl, SqL.of hp, rfl, _, rfl, p, _, _, _, rfl, rfl, SqL.of hp, rfl, l, _, rfl, .inl (SqL.of hl), _, _, rfl, rfl, _, rfl, ?_⟩) (fun z => iteF z) z⟩) (fun z => iteF z) (key _ _ ⟨⟨none, rfl⟩, PK.refl hP⟩)
      rw [List.length_map, decide_eq_false (fun y => hX ⟨of_decide_eq_true q1, of_decide_eq_true q2, y⟩)]
      exact iteF z
    have hX := Classical.byContradiction hX
    rw [decide_eq_true hX.1]
    refine iteT ⟨_, rfl, p, _, _, _, rfl, rfl, SqL.of hp, rfl, _, _, rfl, rfl, _, rfl, ?_⟩
    rw [decide_eq_true hX.2.1]
    refine iteT ⟨_, rfl, p, _, _, _, rfl, rfl, SqL.of hp, rfl, _, rfl, p, _, _, _, rfl, rfl, SqL.of hp, rfl, l, _, rfl, .inl (SqL.of hl), _, _, rfl, rfl, _, rfl, ?_⟩
    rw [List.length_map, decide_eq_true hX.2.2]
    obtain ⟨j, rfl⟩ : ∃ j : Nat, i1 = (j : Int) := ⟨i1.toNat, by omega⟩
    have hj : j < xs.length := by have := hX.2.2; omega
    refine iteT ⟨_, rfl, p, _, _, _, rfl, rfl, SqL.of hp, rfl, _, rfl, p, _, _, _, rfl, rfl, SqL.of hp, rfl, l, _, _, _, rfl, rfl, SqL.of hl, at_int (List.getElem?_eq_getElem hj), ?_⟩
    generalize xs[j] = cell
    refine ⟨_, rfl, p, _, _, _, rfl, rfl, SqL.of hp, rfl, _, _, rfl, rfl, _, rfl, setL_of (ys := poolL l ((j : Int) + 1) i2 i3 i4 i5) hp rfl rfl ?_⟩
    obtain ⟨k1, hp1, hl1⟩ := PK.upd (j1 := (j : Int) + 1) (j2 := i2) (j3 := i3) (j4 := i4) (j5 := i5) hp hl (by omega) g3 g3'
    generalize upd H p (.lst (poolL l ((j : Int) + 1) i2 i3 i4 i5)) = H1 at k1 hp1 hl1 ⊢
    refine ⟨_, rfl, p, _, _, _, rfl, rfl, SqL.of hp1, rfl, _, _, rfl, rfl, .inr ⟨by decide, by decide⟩, _, rfl, _, _, rfl, rfl, .inl ⟨_, rfl, _, _, rfl, rfl, (by show (2147483647 : Int) ≠ 0; decide), _, rfl, setL_of (ys := poolL l ((j : Int) + 1) i2 ((i3 * 31 + cell).fmod 2147483647) i4 i5) hp1 rfl rfl ?_⟩⟩
    have m3 := md (a := i3 * 31 + cell) (n := 2147483647) (by decide)
    generalize (i3 * 31 + cell).fmod 2147483647 = i3' at m3 ⊢
    obtain ⟨k2, hp2, hl2⟩ := PK.upd (j1 := (j : Int) + 1) (j2 := i2) (j3 := i3') (j4 := i4) (j5 := i5) hp1 hl1 (by omega) m3.1 m3.2
    have k2 := k1.trans k2
    generalize upd H1 p (.lst (poolL l ((j : Int) + 1) i2 i3' i4 i5)) = H2 at k2 hp2 hl2 ⊢
    refine ⟨_, rfl, setL_of (ys := poolL l ((j : Int) + 1) i2 i3' 7 i5) hp2 rfl rfl ?_⟩
    obtain ⟨k3, hp3, hl3⟩ := PK.upd (j1 := (j : Int) + 1) (j2 := i2) (j3 := i3') (j4 := 7) (j5 := i5) hp2 hl2 (by omega) m3.1 m3.2
    have k3 := k2.trans k3
    generalize upd H2 p (.lst (poolL l ((j : Int) + 1) i2 i3' 7 i5)) = H3 at k3 hp3 hl3 ⊢
    refine ⟨_, rfl, _, _, rfl, rfl, ⟨by decide, by decide, by decide⟩, _, _, rfl, rfl, _, rfl, ?_⟩
    refine ite2 (fun _ => ?_) (fun _ => ?_)
    · refine ⟨_, rfl, _, rfl, setL_of (ys := poolL l ((j : Int) + 1) cell i3' 7 i5) hp3 rfl rfl ?_⟩
      obtain ⟨k4, hp4, hl4⟩ := PK.upd (j1 := (j : Int) + 1) (j2 := cell) (j3 := i3') (j4 := 7) (j5 := i5) hp3 hl3 (by omega) m3.1 m3.2
      exact key _ _ ⟨⟨_, rfl⟩, k3.trans k4⟩
    · exact key _ _ ⟨⟨_, rfl⟩, k3⟩
  rintro σ H2 ⟨⟨v, rfl⟩, kA⟩
  clear hP hp hl g1 g3 g3'
  obtain ⟨xs, i1, i2, i3, i4, i5, hp, hl, g1, g3, g3'⟩ := kA.pool.ex
  refine ⟨_, rfl, p, _, _, _, rfl, rfl, SqL.of hp, rfl, _, _, rfl, rfl, _, rfl, ?_⟩
  refine ite2 (fun q => ?_) (fun _ => ?_)
  · refine ⟨_, rfl, p, _, _, _, rfl, rfl, SqL.of hp, rfl, .inl ⟨_, rfl, _, rfl, _, _, rfl, rfl, by omega, ?_⟩⟩
    have m1 := md (a := i2) n0
    refine ⟨_, rfl, p, _, _, _, rfl, rfl, SqL.of hp, rfl, _, rfl, _, _, rfl, rfl, ⟨by omega, by omega⟩, _, rfl, setL_of (ys := poolL l i1 (i2.fdiv n) i3 i4 i5) hp rfl rfl ?_⟩
    obtain ⟨k1, hp1, hl1⟩ := PK.upd (j1 := i1) (j2 := i2.fdiv n) (j3 := i3) (j4 := i4) (j5 := i5) hp hl g1 g3 g3'
    have k1 := kA.trans k1
    generalize upd H2 p (.lst (poolL l i1 (i2.fdiv n) i3 i4 i5)) = H3 at k1 hp1 hl1 ⊢
    refine ⟨_, rfl, setL_of (ys := poolL l i1 (i2.fdiv n) i3 0 i5) hp1 rfl rfl ?_⟩
    obtain ⟨k2, hp2, hl2⟩ := PK.upd (j1 := i1) (j2 := i2.fdiv n) (j3 := i3) (j4 := 0) (j5 := i5) hp1 hl1 g1 g3 g3'
    exact ⟨_, rfl, k _ _ m1.1 m1.2 (k1.trans k2)⟩
  · refine ⟨_, rfl, p, _, _, _, rfl, rfl, SqL.of hp, rfl, _, _, rfl, rfl, _, rfl, setL_of (ys := poolL l i1 i2 i3 (i4 - 1) i5) hp rfl rfl ?_⟩
    obtain ⟨k1, hp1, hl1⟩ := PK.upd (j1 := i1) (j2 := i2) (j3 := i3) (j4 := i4 - 1) (j5 := i5) hp hl g1 g3 g3'
    have k1 := kA.trans k1
    generalize upd H2 p (.lst (poolL l i1 i2 i3 (i4 - 1) i5)) = H3 at k1 hp1 hl1 ⊢
    refine ⟨_, rfl, p, _, _, _, rfl, rfl, SqL.of hp1, rfl, _, _, rfl, rfl, .inr ⟨by decide, by decide⟩, _, _, rfl, rfl, .inl ⟨_, rfl, _, _, rfl, rfl, (by show (2147483647 : Int) ≠ 0; decide), _, rfl, setL_of (ys := poolL l i1 i2 ((i3 * 48271 + 12345).fmod 2147483647) (i4 - 1) i5) hp1 rfl rfl ?_⟩⟩
    have m3 := md (a := i3 * 48271 + 12345) (n := 2147483647) (by decide)
    generalize (i3 * 48271 + 12345).fmod 2147483647 = i3' at m3 ⊢
    obtain ⟨k2, hp2, hl2⟩ := PK.upd (j1 := i1) (j2 := i2) (j3 := i3') (j4 := i4 - 1) (j5 := i5) hp1 hl1 g1 m3.1 m3.2
    have k2 := k1.trans k2
    generalize upd H3 p (.lst (poolL l i1 i2 i3' (i4 - 1) i5)) = H4 at k2 hp2 hl2 ⊢
    refine ⟨_, rfl, p, _, _, _, rfl, rfl, SqL.of hp2, rfl, _, _, rfl, rfl, .inr ⟨by decide, by decide⟩, _, _, rfl, rfl, .inl ⟨_, rfl, _, _, rfl, rfl, (by show (2147483647 : Int) ≠ 0; decide), _, rfl, _, _, rfl, rfl, by omega, ?_⟩⟩
    exact k _ _ (md n0).1 (md n0).2 k2
theorem sc_law_spend : FnScope ["_law_pool_here"] ["_law_pool_here"] (defScope s_law_spend) := ⟨rfl, rfl, rfl, by decide +kernel, rfl, by decide +kernel, by decide +kernel⟩
theorem ok_law_spend {f : Addr} {fd : FuncData} (F : Fun K "_law_spend" "_law_spend" s_law_spend f fd) (T : Txt P K mg CB fB CC CR CX aK aS) : FnOk P w K mg base CX0 1 f fd ["_law_pool_here"] spLSpend := by
  refine F.ok sc_law_spend (fun vs H Q E h => ?_) (fun cdv A outer s H vs Q E hr h => ?_)
  · obtain ⟨p, l, rfl, _⟩ := h
    rfl
  obtain ⟨p, l, rfl, hP, k⟩ := h
  refine ⟨_, (pss_cons (ps_asg (pe_op op_sub (pe_ix ix_list (pv 0) pe_int (fun _ _ => rfl)) pe_int) (pg_sub (pv 0) pe_int set_list))
 (pss_one (ps_ret (pe_cmpR op_ge (pe_ix ix_list (pv 0) pe_int (fun _ _ => rfl)) pe_int (nomark _))))), ?_⟩
  obtain ⟨xs, i1, i2, i3, i4, i5, hp, hl, g1, g3, g3'⟩ := hP.ex
  refine ⟨_, rfl, p, _, _, _, rfl, rfl, SqL.of hp, rfl, _, _, rfl, rfl, _, rfl, setL_of (ys := poolL l i1 i2 i3 i4 (i5 - 1)) hp rfl rfl ?_⟩
  obtain ⟨k1, hp1, hl1⟩ := PK.upd (j1 := i1) (j2 := i2) (j3 := i3) (j4 := i4) (j5 := i5 - 1) hp hl g1 g3 g3'
  exact ⟨_, rfl, p, _, _, _, rfl, rfl, SqL.of hp1, rfl, _, _, rfl, rfl, k _ _ k1⟩
end
end Nt

set_option Elab.async false
set_option linter.all false
set_option maxRecDepth 100000
set_option maxHeartbeats 2000000
namespace Nt
open PySem L2
def menu1 : List Str := ["start", "press", "var", "set", "draw", "use", "say", "if", "else", "end", "press", "mod", "+", "<", "=", "a", "buttons"]
def menu2 : List Str := ["x", "y", "0", "1", "2", "4", "5", "6", "7", "12", "13", "65535", "65536", "", "?", "01", "00", "+1", "1_0", "-0", "x1", "X"]
def menu3 : List Str := ["abcdefgh", "abcdefghi", "ended", "100000"]
theorem menu_le : ∀ w ∈ (menu1 ++ menu2) ++ menu3, w.length ≤ 9 := by decide +kernel
def spLMenu : Sp := fun vs H Q _ => ∃ (p l : Addr), vs = [.ref p] ∧ PoolAt H p l ∧ ∀ (w : Str) H', w.length ≤ 9 → PK p l H H' → Q (.str w) H'
/-- one of the words at the drawn place -/
theorem pick {ws : List Str} {r : Int} (h0 : 0 ≤ r) (h1 : r < (ws.length : Int)) : ∃ w, w ∈ ws ∧ atI (ws.map V.str) r = some (.str w) := by
  obtain ⟨j, rfl⟩ : ∃ j : Nat, r = (j : Int) := ⟨r.toNat, by omega⟩
  have hj : j < ws.length := by omega
  exact ⟨ws[j], List.getElem_mem hj, at_str (List.getElem?_eq_getElem hj)⟩
def shortW (ws : List Str) : Prop := ∀ w ∈ ws, w.length ≤ 9
theorem shortW.app {a b : List Str} (h1 : shortW a) (h2 : shortW b) : shortW (a ++ b) := fun w h => (List.mem_append.mp h).elim (h1 w) (h2 w)
theorem shortW.cons {w : Str} {b : List Str} (h1 : w.length ≤ 9) (h2 : shortW b) : shortW (w :: b) := fun x h => by
  rcases List.mem_cons.mp h with rfl | h
  · exact h1
  · exact h2 x h
theorem shortW.nil : shortW [] := fun x h => by cases h
theorem numL_len : ∀ (k n : Nat), n < 10 ^ (k + 1) → (TL.numL n).length ≤ k + 1 := by
  intro k
  induction k with
  | zero => intro n h; rw [TL.numL_lt (by simpa using h)]; simp
  | succ k ih =>
    intro n h
    by_cases c : n < 10
    · rw [TL.numL_lt c]; simp
    · rw [TL.numL_step (by omega), List.length_append]
      have := ih (n / 10) (by rw [Nat.pow_succ] at h; omega)
      simp only [List.length_singleton]; omega
theorem numS_len {n : Int} (h0 : 0 ≤ n) (h1 : n ≤ 65536) : (numS n).length ≤ 9 := by
  obtain ⟨j, rfl⟩ : ∃ j : Nat, n = (j : Int) := ⟨n.toNat, by omega⟩
  have e : (numS (j : Int)).cps.toList = TL.numL j := TL.tl_num _
  rw [len_list, e]
  have := numL_len 4 j (by omega)
  omega
theorem dec3 (p nl : Addr) (d : Nat) : [V.ref p, V.ref nl, V.int (((d + 1 : Nat) : Int) - 1)] ++ [] = [V.ref p, V.ref nl, V.int (d : Int)] := by
  rw [show ((d + 1 : Nat) : Int) - 1 = (d : Int) by omega]; rfl
/-- value(pool, names, deep) -/
def spLValue (d : Nat) : Sp := fun vs H Q _ => ∃ (p l nl : Addr) (nm : List Str), vs = [.ref p, .ref nl, .int d] ∧ PoolAt H p l ∧ H nl = some (.lst (nm.map V.str)) ∧ nm.length < 1000 ∧ shortW nm ∧ d ≤ 8 ∧
  ∀ (a : Addr) (ws : List Str) H', PK p l H H' → ExW H' (d + 1) a ws → shortW ws → Q (.ref a) H'
section
variable {P : Program} {w : World} {K : PySem.W.Frag} {mg : Str → Option Value} {base : Heap} {CB fB CC CR CX aK aS : Addr}
theorem sc_law_menu : FnScope ["_law_pool_here", "_law_words_here"] ["_law_pool_here"] (defScope s_law_menu) := ⟨rfl, rfl, rfl, by decide +kernel, rfl, by decide +kernel, by decide +kernel⟩
theorem ok_law_menu {f : Addr} {fd : FuncData} (F : Fun K "_law_menu" "_law_menu" s_law_menu f fd) (T : Txt P K mg CB fB CC CR CX aK aS) (Gdraw : CalX P w K mg base CX0 1 "_law_draw" spLDraw) : FnOk P w K mg base CX0 2 f fd ["_law_pool_here"] spLMenu := by
  refine F.ok sc_law_menu (fun vs H Q E h => ?_) (fun cdv A outer s H vs Q E hr h => ?_)
  · obtain ⟨p, l, rfl, _⟩ := h
    rfl
  obtain ⟨p, l, rfl, hP, k⟩ := h
  refine ⟨_, (pss_cons (ps_set (i := 1) sc_law_menu.nd rfl (Or.inl rfl) (pe_lst (pa_cons pe_str (pa_cons pe_str (pa_cons pe_str (pa_cons pe_str (pa_cons pe_str (pa_cons pe_str (pa_cons pe_str (pa_cons pe_str (pa_cons pe_str (pa_cons pe_str (pa_cons pe_str (pa_cons pe_str (pa_cons pe_str (pa_cons pe_str (pa_cons pe_str (pa_cons pe_str (pa_cons pe_str pa_nil)))))))))))))))))))
 (pss_cons (ps_set (i := 1) sc_law_menu.nd rfl (Or.inl rfl) (pe_op op_cat (pv 1) (pe_lst (pa_cons pe_str (pa_cons pe_str (pa_cons pe_str (pa_cons pe_str (pa_cons pe_str (pa_cons pe_str (pa_cons pe_str (pa_cons pe_str (pa_cons pe_str (pa_cons pe_str (pa_cons pe_str (pa_cons pe_str (pa_cons pe_str (pa_cons pe_str (pa_cons pe_str (pa_cons pe_str (pa_cons pe_str (pa_cons pe_str (pa_cons pe_str (pa_cons pe_str (pa_cons pe_str (pa_cons pe_str pa_nil)))))))))))))))))))))))))
 (pss_cons (ps_set (i := 1) sc_law_menu.nd rfl (Or.inl rfl) (pe_op op_cat (pv 1) (pe_lst (pa_cons pe_str (pa_cons pe_str (pa_cons pe_str (pa_cons pe_str pa_nil)))))))
 (pss_one (ps_ret (pe_ix ix_list (pv 1) (pe_cx Gdraw hr pass0 (pa_cons (pv 0) (pa_cons (pe_callB call_len_seq (by rfl) T.len PySem.boot_len (pa_cons (pv 1) pa_nil)) pa_nil))) (fun _ _ => rfl))))))), ?_⟩
  refine ⟨by show 17 ≤ sizeLine; decide, fun l1 h1 => ⟨_, rfl, by show 22 ≤ sizeLine; decide, fun l2 h2 => ?_⟩⟩
  have g1 := same_new h1 (.lst (menu1.map V.str))
  have e1 : (upd H l1 (.lst (menu1.map V.str))) l1 = some (.lst (menu1.map V.str)) := upd_same
  have g2 := same_new (H := upd H l1 (.lst (menu1.map V.str))) h2 (.lst (menu2.map V.str))
  have e2 : (upd (upd H l1 (.lst (menu1.map V.str))) l2 (.lst (menu2.map V.str))) l2 = some (.lst (menu2.map V.str)) := upd_same
  refine ⟨l1, l2, _, _, rfl, rfl, g2 _ _ e1, e2, by show 39 ≤ sizeLine; decide, fun l3 h3 => ⟨_, rfl, by show 4 ≤ sizeLine; decide, fun l4 h4 => ?_⟩⟩
  rw [← List.map_append] at h4 ⊢
  have g3 := same_new (H := upd (upd H l1 (.lst (menu1.map V.str))) l2 (.lst (menu2.map V.str))) h3 (.lst ((menu1 ++ menu2).map V.str))
  have e3 : (upd (upd (upd H l1 (.lst (menu1.map V.str))) l2 (.lst (menu2.map V.str))) l3 (.lst ((menu1 ++ menu2).map V.str))) l3 = some (.lst ((menu1 ++ menu2).map V.str)) := upd_same
  have g4 := same_new (H := upd (upd (upd H l1 (.lst (menu1.map V.str))) l2 (.lst (menu2.map V.str))) l3 (.lst ((menu1 ++ menu2).map V.str))) h4 (.lst (menu3.map V.str))
  have e4 : (upd (upd (upd (upd H l1 (.lst (menu1.map V.str))) l2 (.lst (menu2.map V.str))) l3 (.lst ((menu1 ++ menu2).map V.str))) l4 (.lst (menu3.map V.str))) l4 = some (.lst (menu3.map V.str)) := upd_same
  refine ⟨l3, l4, _, _, rfl, rfl, g4 _ _ e3, e4, by show 43 ≤ sizeLine; decide, fun l5 h5 => ?_⟩
  rw [← List.map_append]
  have s5 : Same H (upd (upd (upd (upd (upd H l1 (.lst (menu1.map V.str))) l2 (.lst (menu2.map V.str))) l3 (.lst ((menu1 ++ menu2).map V.str))) l4 (.lst (menu3.map V.str))) l5 (.lst ((menu1 ++ menu2 ++ menu3).map V.str))) := g1.trans (g2.trans (g3.trans (g4.trans (same_new h5 _))))
  have e5 : (upd (upd (upd (upd (upd H l1 (.lst (menu1.map V.str))) l2 (.lst (menu2.map V.str))) l3 (.lst ((menu1 ++ menu2).map V.str))) l4 (.lst (menu3.map V.str))) l5 (.lst ((menu1 ++ menu2 ++ menu3).map V.str))) l5 = some (.lst ((menu1 ++ menu2 ++ menu3).map V.str)) := upd_same
  have k5 := PK.same hP s5
  refine ⟨_, rfl, _, rfl, _, rfl, l5, _, rfl, .inl (SqL.of e5), p, l, _, rfl, k5.pool, by rw [List.length_map]; decide +kernel, by rw [List.length_map]; decide +kernel, fun r H6 r0 r1 k6 => ?_⟩
  rw [List.length_map] at r1
  obtain ⟨w, hw, hat⟩ := pick r0 r1
  exact ⟨l5, _, _, _, rfl, rfl, SqL.of (k6.strs k5.pool e5), hat, k _ _ (menu_le w hw) (k5.trans k6)⟩
theorem absFn {f : Addr} {fd : FuncData} {ps : List Str} {k : Nat} : FnOk P w K mg base CX0 k f fd ps (fun _ _ _ _ => False) := ⟨fun vs H Q E h => h.elim, fun A outer s H args us vs Q E _ _ _ _ h => h.elim⟩
theorem sc_law_value : FnScope ["_law_pool_here", "_law_names_here", "_law_deep", "_law_kind", "_law_sign", "_law_left", "_law_name"] ["_law_pool_here", "_law_names_here", "_law_deep"] (defScope s_law_value) := ⟨rfl, rfl, rfl, by decide +kernel, rfl, by decide +kernel, by decide +kernel⟩
theorem value_step {f : Addr} {fd : FuncData} (F : Fun K "_law_value" "_law_value" s_law_value f fd) (T : Txt P K mg CB fB CC CR CX aK aS) (Gdraw : CalX P w K mg base CX0 1 "_law_draw" spLDraw) {d : Nat}
    (Gany : ∃ sp, CalX P w K mg base CX0 (d + 1) "_law_value" sp ∧ ∀ d', d = d' + 1 → sp = spLValue d') : FnOk P w K mg base CX0 (d + 2) f fd ["_law_pool_here", "_law_names_here", "_law_deep"] (spLValue d) := by
  obtain ⟨spV, Gvalue, hsp⟩ := Gany
  refine F.ok sc_law_value (fun vs H Q E h => ?_) (fun cdv A outer s H vs Q E hr h => ?_)
  · obtain ⟨p, l, nl, nm, rfl, _⟩ := h
    rfl
  obtain ⟨p, l, nl, nm, rfl, hP, hn, hnl, hsh, hd, k⟩ := h
  refine ⟨_, (pss_cons (ps_set (i := 3) sc_law_value.nd rfl (Or.inl rfl) (pe_cx Gdraw hr pass0 (pa_cons (pv 0) (pa_cons pe_int pa_nil))))
 (pss_cons (ps_if (PW.pt (pw_and (pt_cmpR op_lt (pv 3) pe_int (nomark _)) (pw_and1 (pt_cmpR op_gt (pv 2) pe_int (nomark _)))))
 (pss_cons (ps_set (i := 4) sc_law_value.nd rfl (Or.inl rfl) (pe_ix ix_tup (pe_tup (pa_cons pe_str (pa_cons pe_str (pa_cons pe_str (pa_cons pe_str (pa_cons pe_str (pa_cons pe_str (pa_cons pe_str pa_nil)))))))) (pe_cx Gdraw hr pass0 (pa_cons (pv 0) (pa_cons pe_int pa_nil))) (fun _ _ => rfl)))
 (pss_cons (ps_set (i := 5) sc_law_value.nd rfl (Or.inl rfl) (pe_cx Gvalue hr pass0 (pa_cons (pv 0) (pa_cons (pv 1) (pa_cons (pe_op op_sub (pv 2) pe_int) pa_nil)))))
 (pss_one (ps_ret (pe_tup (pa_cons (pv 4) (pa_cons (pv 5) (pa_cons (pe_cx Gvalue hr pass0 (pa_cons (pv 0) (pa_cons (pv 1) (pa_cons (pe_op op_sub (pv 2) pe_int) pa_nil)))) pa_nil))))))))
 pss_nil)
 (pss_cons (ps_if (PW.pt (pw_and (pt_cmpR op_lt (pv 3) pe_int (nomark _)) (pw_and1 (pt_cmpR op_gt (pe_callB call_len_seq (by rfl) T.len PySem.boot_len (pa_cons (pv 1) pa_nil)) pe_int (nomark _)))))
 (pss_cons (ps_set (i := 6) sc_law_value.nd rfl (Or.inl rfl) (pe_ix ix_list (pv 1) (pe_cx Gdraw hr pass0 (pa_cons (pv 0) (pa_cons (pe_callB call_len_seq (by rfl) T.len PySem.boot_len (pa_cons (pv 1) pa_nil)) pa_nil))) (fun _ _ => rfl)))
 (pss_cons (ps_if (pt_cmpR op_eq (pv 6) pe_str (nomark _))
 (pss_one (ps_ret (pe_tup (pa_cons (pv 6) pa_nil))))
 pss_nil)
 (pss_one (ps_ret (pe_tup (pa_cons pe_str (pa_cons (pv 6) pa_nil)))))))
 pss_nil)
 (pss_one (ps_ret (pe_tup (pa_cons pe_str (pa_cons (pe_ix ix_tup (pe_tup (pa_cons (pe_cx Gdraw hr pass0 (pa_cons (pv 0) (pa_cons pe_int pa_nil))) (pa_cons (pe_cx Gdraw hr pass0 (pa_cons (pv 0) (pa_cons pe_int pa_nil))) (pa_cons (pe_cx Gdraw hr pass0 (pa_cons (pv 0) (pa_cons pe_int pa_nil))) pa_nil)))) (pe_cx Gdraw hr pass0 (pa_cons (pv 0) (pa_cons pe_int pa_nil))) (fun _ _ => rfl)) pa_nil)))))))), ?_⟩
  refine ⟨_, rfl, p, l, 10, rfl, hP, by decide, by decide, fun kind H1 _ _ k1 => ?_⟩
  have hn1 := k1.strs hP hn
  refine ⟨_, rfl, _, _, rfl, rfl, _, rfl, ?_⟩
  by_cases hX : kind < 5 ∧ 0 < (d : Int)
  · obtain ⟨d', rfl⟩ : ∃ d', d = d' + 1 := ⟨d - 1, by have := hX.2; omega⟩
    have e := hsp d' rfl
    subst e
    rw [decide_eq_true hX.1]
    refine iteT ⟨_, rfl, _, _, rfl, rfl, _, rfl, ?_⟩
    rw [decide_eq_true hX.2]
    refine iteT ⟨by show 7 ≤ sizeLine; decide, fun t ht => ⟨_, rfl, p, l, 7, rfl, k1.pool.same (same_new ht _), by decide, by decide, fun r H2 r0 r1 k2 => ?_⟩⟩
    obtain ⟨sg, hsg, hat⟩ := pick (ws := signs) r0 r1
    have tk2 := k2.tk (k1.pool.same (same_new ht _))
    have k12 : PK p l H1 H2 := (PK.same k1.pool (same_new ht _)).trans k2
    have ht2 : H2 t = some (.tup (signs.map V.str)) := tk2 _ _ upd_same
    refine ⟨t, _, _, _, rfl, rfl, SqT.of ht2, hat, ?_⟩
    have hsg9 : sg.length ≤ 9 := (show ∀ x ∈ signs, x.length ≤ 9 by decide +kernel) _ hsg
    refine ⟨_, rfl, _, rfl, _, rfl, _, _, rfl, rfl, p, l, nl, nm, (dec3 p nl d'), k2.pool, k12.strs k1.pool hn1, hnl, hsh, by omega, fun b w1 H3 k3 e3 sh3 => ?_⟩
    have k13 := k12.trans k3
    refine ⟨_, rfl, _, rfl, _, rfl, _, rfl, _, rfl, _, _, rfl, rfl, p, l, nl, nm, (dec3 p nl d'), k3.pool, k13.strs k1.pool hn1, hnl, hsh, by omega, fun c w2 H4 k4 e4 sh4 => ⟨by show 3 ≤ sizeLine; decide, fun q hq => ?_⟩⟩
    refine k q (sg :: (w1 ++ w2)) _ ((k1.trans (k13.trans k4)).sm (same_new hq _)) (.inr (.inr (.inr ⟨sg, b, c, w1, w2, upd_same, (e3.keep (k4.tk k3.pool)).keep (Tk.new hq), e4.keep (Tk.new hq), rfl⟩))) ((sh3.app sh4).cons hsg9)
  refine ite_f2 (fun q1 z => ⟨_, rfl, _, _, rfl, rfl, _, rfl, by rw [decide_eq_false (fun y => hX ⟨of_decide_eq_true q1, y⟩)]; exact iteF z⟩) (fun z => iteF z) ?_
  refine ⟨_, rfl, _, _, rfl, rfl, _, rfl, ?_⟩
  by_cases hY : kind < 8 ∧ (0 : Int) < (nm.length : Int)
  · rw [decide_eq_true hY.1]
    refine iteT ⟨_, rfl, nl, _, rfl, .inl (SqL.of hn1), _, _, rfl, rfl, _, rfl, ?_⟩
    rw [List.length_map, decide_eq_true hY.2]
    refine iteT ⟨_, rfl, _, rfl, _, rfl, nl, _, rfl, .inl (SqL.of hn1), p, l, _, rfl, k1.pool, by rw [List.length_map]; exact hY.2, by rw [List.length_map]; omega, fun r H2 r0 r1 k2 => ?_⟩
    rw [List.length_map] at r1
    obtain ⟨x, hx, hat⟩ := pick r0 r1
    refine ⟨nl, _, _, _, rfl, rfl, SqL.of (k2.strs k1.pool hn1), hat, ?_⟩
    refine ⟨_, rfl, rfl, _, rfl, ?_⟩
    refine ite2 (fun _ => ?_) (fun _ => ?_)
    · refine ⟨_, rfl, by show 1 ≤ sizeLine; decide, fun q hq => ?_⟩
      exact k q [x] _ ((k1.trans k2).sm (same_new hq _)) (.inr (.inr (.inl ⟨x, upd_same, rfl⟩))) (shortW.nil.cons (hsh x hx))
    · refine ⟨_, rfl, by show 2 ≤ sizeLine; decide, fun q hq => ?_⟩
      exact k q [x] _ ((k1.trans k2).sm (same_new hq _)) (.inr (.inl ⟨x, upd_same, rfl⟩)) (shortW.nil.cons (hsh x hx))
  refine ite_f2 (fun q1 z => ⟨_, rfl, nl, _, rfl, .inl (SqL.of hn1), _, _, rfl, rfl, _, rfl, by rw [List.length_map, decide_eq_false (fun y => hY ⟨of_decide_eq_true q1, y⟩)]; exact iteF z⟩) (fun z => iteF z) ?_
  refine ⟨_, rfl, p, l, 4, rfl, k1.pool, by decide, by decide, fun x1 H2 a1 b1 k2 => ⟨_, rfl, p, l, 9, rfl, k2.pool, by decide, by decide, fun x2 H3 a2 b2 k3 => ⟨_, rfl, p, l, 65536, rfl, k3.pool, by decide, by decide, fun x3 H4 a3 b3 k4 => ⟨by show 3 ≤ sizeLine; decide, fun t ht => ⟨_, rfl, p, l, 3, rfl, k4.pool.same (same_new ht _), by decide, by decide, fun r H5 r0 r1 k5 => ?_⟩⟩⟩⟩⟩
  obtain ⟨x, hx0, hx1, hat⟩ : ∃ x : Int, 0 ≤ x ∧ x ≤ 65535 ∧ atI [V.int x1, V.int x2, V.int x3] r = some (.int x) := by
    have : r = 0 ∨ r = 1 ∨ r = 2 := by omega
    rcases this with rfl | rfl | rfl
    · exact ⟨x1, by omega, by omega, rfl⟩
    · exact ⟨x2, by omega, by omega, rfl⟩
    · exact ⟨x3, by omega, by omega, rfl⟩
  have ht5 : H5 t = some (.tup [.int x1, .int x2, .int x3]) := k5.tk (k4.pool.same (same_new ht _)) _ _ upd_same
  refine ⟨t, _, _, _, rfl, rfl, SqT.of ht5, hat, by show 2 ≤ sizeLine; decide, fun q hq => ?_⟩
  exact k q [numS x] _ (((k1.trans (k2.trans (k3.trans (k4.sm (same_new ht _))))).trans k5).sm (same_new hq _)) (.inl ⟨x, upd_same, hx0, hx1, rfl⟩) (shortW.nil.cons (numS_len hx0 (by omega)))
theorem value_all {f : Addr} {fd : FuncData} (F : Fun K "_law_value" "_law_value" s_law_value f fd) (T : Txt P K mg CB fB CC CR CX aK aS) (Gdraw : CalX P w K mg base CX0 1 "_law_draw" spLDraw) (m : mg "_law_value" = some (.ref f)) (bi : Binds K fd ["_law_pool_here", "_law_names_here", "_law_deep"] []) : ∀ d, CalX P w K mg base CX0 (d + 2) "_law_value" (spLValue d)
  | 0 => ⟨f, fd, _, value_step F T Gdraw ⟨_, ⟨f, fd, ["_law_pool_here", "_law_names_here", "_law_deep"], absFn, m, F.kp, bi⟩, fun d' h => by cases h⟩, m, F.kp, bi⟩
  | d + 1 => ⟨f, fd, _, value_step F T Gdraw ⟨_, value_all F T Gdraw m bi d, fun d' h => by cases h; rfl⟩, m, F.kp, bi⟩
theorem sc_law_value_words : FnScope ["_law_due"] ["_law_due"] (defScope s_law_value_words) := ⟨rfl, rfl, rfl, by decide +kernel, rfl, by decide +kernel, by decide +kernel⟩
theorem vw_step {f : Addr} {fd : FuncData} (F : Fun K "_law_value_words" "_law_value_words" s_law_value_words f fd) (T : Txt P K mg CB fB CC CR CX aK aS) {d : Nat} (Gvalue_words : CalX P w K mg base CX0 (d + 1) "_law_value_words" (spEW d)) :
    FnOk P w K mg base CX0 (d + 2) f fd ["_law_due"] (spEW (d + 1)) := by
  refine F.ok sc_law_value_words (fun vs H Q E h => ?_) (fun cdv A outer s H vs Q E hr h => ?_)
  · obtain ⟨a, ws, rfl, _⟩ := h
    rfl
  obtain ⟨a, ws, rfl, hd, hw, k⟩ := h
  refine ⟨_, (pss_cons (ps_if (pt_cmpR op_lt (pe_callB call_len_seq (by rfl) T.len PySem.boot_len (pa_cons (pv 0) pa_nil)) pe_int (nomark _))
 (pss_one (ps_ret (pe_lst (pa_cons (pe_callTy call_str_any (by rfl) T.str_ (by decide +kernel) (pa_cons (pe_ix ix_tup (pv 0) pe_neg1 (fun _ _ => rfl)) pa_nil)) pa_nil))))
 pss_nil)
 (pss_one (ps_ret (pe_op op_cat (pe_op op_cat (pe_lst (pa_cons (pe_ix ix_tup (pv 0) pe_int (fun _ _ => rfl)) pa_nil)) (pe_cx Gvalue_words hr pass0 (pa_cons (pe_ix ix_tup (pv 0) pe_int (fun _ _ => rfl)) pa_nil))) (pe_cx Gvalue_words hr pass0 (pa_cons (pe_ix ix_tup (pv 0) pe_int (fun _ _ => rfl)) pa_nil)))))), ?_⟩
  have hlen := hw.len
  have h10 := pow10 hd
  rcases hw with ⟨n, h, h0, h1, rfl⟩ | ⟨x, h, rfl⟩ | ⟨x, h, rfl⟩ | ⟨o, b, c, w1, w2, h, e1, e2, rfl⟩
  · refine ⟨_, rfl, a, _, rfl, .inr (SqT.of h), _, _, rfl, rfl, _, rfl, ?_⟩
    refine iteT ⟨_, rfl, _, rfl, a, _, _, _, rfl, rfl, SqT.of h, rfl, .inl ⟨n, rfl, lg h0 h1, by show 1 ≤ sizeLine; decide, fun l hl => ?_⟩⟩
    exact k l _ (same_new hl _) hl upd_same
  · refine ⟨_, rfl, a, _, rfl, .inr (SqT.of h), _, _, rfl, rfl, _, rfl, ?_⟩
    refine iteT ⟨_, rfl, _, rfl, a, _, _, _, rfl, rfl, SqT.of h, rfl, .inr ⟨x, rfl, by show 1 ≤ sizeLine; decide, fun l hl => ?_⟩⟩
    exact k l _ (same_new hl _) hl upd_same
  · refine ⟨_, rfl, a, _, rfl, .inr (SqT.of h), _, _, rfl, rfl, _, rfl, ?_⟩
    refine iteT ⟨_, rfl, _, rfl, a, _, _, _, rfl, rfl, SqT.of h, rfl, .inr ⟨x, rfl, by show 1 ≤ sizeLine; decide, fun l hl => ?_⟩⟩
    exact k l _ (same_new hl _) hl upd_same
  · refine ⟨_, rfl, a, _, rfl, .inr (SqT.of h), _, _, rfl, rfl, _, rfl, ?_⟩
    refine iteF ⟨_, rfl, a, _, _, _, rfl, rfl, SqT.of h, rfl, by show 1 ≤ sizeLine; decide, fun l0 hl0 => ?_⟩
    have g0 := same_new hl0 (.lst [.str o])
    have q0 : (upd H l0 (.lst [.str o])) l0 = some (.lst [.str o]) := upd_same
    generalize upd H l0 (.lst [.str o]) = H0 at g0 q0 ⊢
    refine ⟨_, rfl, a, _, _, _, rfl, rfl, SqT.of (g0 _ _ h), rfl, b, w1, rfl, by omega, e1.keep (Same.tk g0), fun l1 H1 s1 n1 hl1 => ?_⟩
    refine ⟨l0, l1, _, _, rfl, rfl, s1 _ _ q0, hl1, ?_, fun l2 hl2 => ?_⟩
    · refine small ?_
      simp only [List.length_cons, List.length_append, List.length_map, List.length_nil] at hlen ⊢
      omega
    have g2 := g0.trans (s1.trans (same_new hl2 (.lst ([.str o] ++ w1.map V.str))))
    have q2 : (upd H1 l2 (.lst ([.str o] ++ w1.map V.str))) l2 = some (.lst ([.str o] ++ w1.map V.str)) := upd_same
    generalize upd H1 l2 (.lst ([.str o] ++ w1.map V.str)) = H2 at g2 q2 ⊢
    refine ⟨_, rfl, a, _, _, _, rfl, rfl, SqT.of (g2 _ _ h), rfl, c, w2, rfl, by omega, e2.keep (Same.tk g2), fun l3 H3 s3 n3 hl3 => ?_⟩
    refine ⟨l2, l3, _, _, rfl, rfl, s3 _ _ q2, hl3, ?_, fun l hl => ?_⟩
    · refine small ?_
      simp only [List.length_cons, List.length_append, List.length_map, List.length_nil] at hlen ⊢
      omega
    · refine k l _ (g2.trans (s3.trans (same_new hl _))) (g2.free (s3.free hl)) ?_
      rw [upd_same]; simp
theorem vw_all {f : Addr} {fd : FuncData} (F : Fun K "_law_value_words" "_law_value_words" s_law_value_words f fd) (T : Txt P K mg CB fB CC CR CX aK aS) (m : mg "_law_value_words" = some (.ref f)) (bi : Binds K fd ["_law_due"] []) : ∀ d, CalX P w K mg base CX0 (d + 1) "_law_value_words" (spEW d)
  | 0 => by
    have no : ∀ vs H Q E, ¬ spEW 0 vs H Q E := fun vs H Q E h => by
      obtain ⟨a, ws, _, _, h1, _⟩ := h
      exact h1
    exact ⟨f, fd, ["_law_due"], ⟨fun vs H Q E h => absurd h (no vs H Q E), fun A outer s H args us vs Q E _ _ _ _ h => absurd h (no vs H Q E)⟩, m, F.kp, bi⟩
  | d + 1 => ⟨f, fd, _, vw_step F T (vw_all F T m bi d), m, F.kp, bi⟩
end
end Nt

set_option Elab.async false
set_option linter.all false
set_option maxRecDepth 100000
set_option maxHeartbeats 2000000
namespace Nt
open PySem L2
def namesA : List Str := ["x", "y", "z", "ended", "i", "uses", "starts", "says", "presses", "abcdefgh"]
def namesB : List Str := ["aa", "bb", "cc", "dd", "ee", "ff"]
theorem alpha_len : (("abcdefghijklmnopqrstuvwxyz" : Str)).cps.toList.length = 26 := by decide +kernel
theorem strs_iter {ws : List Str} {i : Nat} {x : V} (h : (ws.map V.str)[i]? = some x) : ∃ w, w ∈ ws ∧ x = .str w := by
  obtain ⟨w, h1, h2⟩ := strs_of h
  exact ⟨w, List.mem_of_getElem? h1, h2⟩
/-- names(pool, count) -/
def spLNames : Sp := fun vs H Q _ => ∃ (p l : Addr) (c : Nat), vs = [.ref p, .int c] ∧ PoolAt H p l ∧ c ≤ 4 ∧
  ∀ (nl : Addr) (nm : List Str) H', H nl = none → PK p l H H' → H' nl = some (.lst (nm.map V.str)) → nm.length = c → shortW nm → Q (.ref nl) H'
section
variable {P : Program} {w : World} {K : PySem.W.Frag} {mg : Str → Option Value} {base : Heap} {CB fB CC CR CX aK aS : Addr}
theorem sc_law_names : FnScope ["_law_pool_here", "_law_count", "_law_names_here", "_law_k", "_law_name", "_law_turn", "_law_other"] ["_law_pool_here", "_law_count"] (defScope s_law_names) := ⟨rfl, rfl, rfl, by decide +kernel, rfl, by decide +kernel, by decide +kernel⟩
theorem ok_law_names {f : Addr} {fd : FuncData} (F : Fun K "_law_names" "_law_names" s_law_names f fd) (T : Txt P K mg CB fB CC CR CX aK aS) (Gdraw : CalX P w K mg base CX0 1 "_law_draw" spLDraw) : FnOk P w K mg base CX0 2 f fd ["_law_pool_here", "_law_count"] spLNames := by
  refine F.ok sc_law_names (fun vs H Q E h => ?_) (fun cdv A outer s H vs Q E hr h => ?_)
  · obtain ⟨p, l, c, rfl, _⟩ := h
    rfl
  obtain ⟨p, l, c, rfl, hP, hc, k⟩ := h
  refine ⟨_, (pss_cons (ps_set (i := 2) sc_law_names.nd rfl (Or.inl rfl) (pe_lst pa_nil))
 (pss_cons (ps_for PassesOwn.never rfl (pi_range1 rfl T.range (pa_cons (pv 1) pa_nil)) (pg_name (i := 3) sc_law_names.nd rfl (Or.inl rfl))
 (pss_cons (ps_set (i := 4) sc_law_names.nd rfl (Or.inl rfl) (pe_ix ix_tup (pe_tup (pa_cons pe_str (pa_cons pe_str (pa_cons pe_str (pa_cons pe_str (pa_cons pe_str (pa_cons pe_str (pa_cons pe_str (pa_cons pe_str (pa_cons pe_str (pa_cons pe_str pa_nil))))))))))) (pe_cx Gdraw hr pass0 (pa_cons (pv 0) (pa_cons pe_int pa_nil))) (fun _ _ => rfl)))
 (pss_cons (ps_if (pt_cmpR op_eq (pe_cx Gdraw hr pass0 (pa_cons (pv 0) (pa_cons pe_int pa_nil))) pe_int (nomark _))
 (pss_cons (ps_set (i := 4) sc_law_names.nd rfl (Or.inl rfl) pe_str)
 (pss_one (ps_for PassesOwn.never rfl (pi_range1 rfl T.range (pa_cons (pe_op op_add pe_int (pe_cx Gdraw hr pass0 (pa_cons (pv 0) (pa_cons pe_int pa_nil)))) pa_nil)) (pg_name (i := 5) sc_law_names.nd rfl (Or.inl rfl))
 (pss_one (ps_set (i := 4) sc_law_names.nd rfl (Or.inl rfl) (pe_op op_add_str (pv 4) (pe_ix ix_str pe_str (pe_cx Gdraw hr pass0 (pa_cons (pv 0) (pa_cons pe_int pa_nil))) (fun _ _ => rfl))))))))
 pss_nil)
 (pss_cons (ps_if (pt_cmpR op_in_seq (pv 4) (pe_tup (pa_cons pe_str (pa_cons pe_str (pa_cons pe_str (pa_cons pe_str (pa_cons pe_str (pa_cons pe_str (pa_cons pe_str (pa_cons pe_str (pa_cons pe_str (pa_cons pe_str (pa_cons pe_str (pa_cons pe_str (pa_cons pe_str pa_nil)))))))))))))) rfl)
 (pss_one (ps_set (i := 4) sc_law_names.nd rfl (Or.inl rfl) pe_str))
 pss_nil)
 (pss_cons (ps_for PassesOwn.never rfl (pi_tup (pe_tup (pa_cons pe_str (pa_cons pe_str (pa_cons pe_str (pa_cons pe_str (pa_cons pe_str (pa_cons pe_str pa_nil)))))))) (pg_name (i := 6) sc_law_names.nd rfl (Or.inl rfl))
 (pss_one (ps_if (pt_cmpR op_in_seq (pv 4) (pv 2) rfl)
 (pss_one (ps_set (i := 4) sc_law_names.nd rfl (Or.inl rfl) (pv 6)))
 pss_nil)))
 (pss_one (ps_expr (pe_bm PySem.F.plainAttrs_list PySem.F.slot_list_append PySem.F.type_list_append mt_append (pv 2) (pa_cons (pv 4) pa_nil)))))))))
 (pss_one (ps_ret (pv 2))))), ?_⟩
  refine ⟨Nat.zero_le _, fun nl hnl => ⟨_, rfl, _, rfl, by omega, by omega, ?_⟩⟩
  have pn : ∀ {H1 : Hp}, PK p l H H1 → ∀ o, PK p l H (upd H1 nl o) := fun a o => a.own hP hnl
  refine for_it walk_range (fun i σ H' => ∃ (v3 v4 v5 v6 : Option V) (nm : List Str), σ = [some (.ref p), some (.int c), some (.ref nl), v3, v4, v5, v6] ∧ PK p l H H' ∧ H' nl = some (.lst (nm.map V.str)) ∧ nm.length = i ∧ shortW nm) ⟨none, none, none, none, [], rfl, pn (PK.refl hP) _, upd_same, rfl, shortW.nil⟩ (fun _ _ _ _ _ => trivial) ?_ ?_
  rotate_left
  · rintro σ H1 ⟨v3, v4, v5, v6, nm, rfl, k1, e1, hl1, sh1⟩
    exact ⟨_, rfl, k nl nm H1 hnl k1 e1 (by rw [hl1, Int.toNat_natCast]) sh1⟩
  rintro i x σ H1 H1' hi ⟨v3, v4, v5, v6, nm, rfl, k1, e1, hl1, sh1⟩ ⟨rfl, rfl⟩
  rw [Int.toNat_natCast] at hi
  -- the first name
  refine ⟨by show 10 ≤ sizeLine; decide, fun t ht => ⟨_, rfl, p, l, 10, rfl, k1.pool.same (same_new ht _), by decide, by decide, fun r H2 r0 r1 k2 => ?_⟩⟩
  have p2 := k1.pool.same (same_new ht (.tup (namesA.map V.str)))
  have ht2 : H2 t = some (.tup (namesA.map V.str)) := k2.tk p2 _ _ upd_same
  have e2 : H2 nl = some (.lst (nm.map V.str)) := k2.strs p2 (same_new ht _ _ _ e1)
  have k12 : PK p l H H2 := (k1.sm (same_new ht _)).trans k2
  obtain ⟨w0, hw0, hat⟩ := pick (ws := namesA) r0 r1
  refine ⟨t, _, _, _, rfl, rfl, SqT.of ht2, hat, ?_⟩
  have hw9 : w0.length ≤ 8 := (show ∀ x ∈ namesA, x.length ≤ 8 by decide +kernel) _ hw0
  clear hat hw0 r0 r1 ht2 ht p2 k2
  -- a drawn name
  refine' cutN (P := fun σ H3 => (∃ (v5 : Option V) (w : Str), w.length ≤ 8 ∧ σ = [some (.ref p), some (.int c), some (.ref nl), some (.int (0 + (i : Int))), some (.str w), v5, v6]) ∧ PK p l H H3 ∧ H3 nl = some (.lst (nm.map V.str))) (fun key => ?ka1) ?kb1
  case ka1 =>
    refine ⟨_, rfl, p, l, 3, rfl, k12.pool, by decide, by decide, fun r H3 r0 r1 k3 => ⟨rfl, _, rfl, ?_⟩⟩
    have e3 := k3.strs k12.pool e2
    have k13 := k12.trans k3
    refine ite2 (fun _ => ?_) (fun _ => key _ _ ⟨⟨_, _, hw9, rfl⟩, k13, e3⟩)
    refine ⟨_, rfl, p, l, 8, rfl, k13.pool, by decide, by decide, fun r H4 r0 r1 k4 => ⟨_, _, rfl, rfl, _, rfl, by omega, by omega, ?_⟩⟩
    have e4 := k4.strs k13.pool e3
    have k14 := k13.trans k4
    refine for_it walk_range (fun i2 σ H' => ∃ (v5 : Option V) (w : Str), σ = [some (.ref p), some (.int c), some (.ref nl), some (.int (0 + (i : Int))), some (.str w), v5, v6] ∧ w.length = i2 ∧ PK p l H H' ∧ H' nl = some (.lst (nm.map V.str))) ⟨_, _, rfl, by decide +kernel, k14, e4⟩ (fun _ _ _ _ _ => trivial) ?_ ?_
    · rintro i2 x σ H5 H5' hi2 ⟨v5, w, rfl, hw, k5, e5⟩ ⟨rfl, rfl⟩
      refine ⟨_, rfl, _, rfl, p, l, 26, rfl, k5.pool, by decide, by decide, fun r2 H6 r20 r21 k6 => ?_⟩
      obtain ⟨j, rfl⟩ : ∃ j : Nat, r2 = (j : Int) := ⟨r2.toNat, by omega⟩
      have hj : j < (("abcdefghijklmnopqrstuvwxyz" : Str)).cps.toList.length := by rw [alpha_len]; omega
      refine ⟨_, _, _, rfl, rfl, by show 26 ≤ sizeLine; decide, atI_nat (List.getElem?_eq_getElem hj), _, _, rfl, rfl, ?_, ?_⟩
      · show w.length + 1 ≤ sizeLine
        rw [sizeLine_eq]; omega
      · refine ⟨_, _, rfl, ?_, k5.trans k6, k6.strs k5.pool e5⟩
        rw [PySem.Str.length_append, hw]; rfl
    · rintro σ H5 ⟨v5, w, rfl, hw, k5, e5⟩
      exact key _ _ ⟨⟨_, _, by omega, rfl⟩, k5, e5⟩
  rintro σ H3 ⟨⟨v5, w, hw, rfl⟩, k3, e3⟩
  clear k12 e2 hw9
  -- a keyword
  refine' cutN (P := fun σ H3 => (∃ (v5 : Option V) (w : Str), w.length ≤ 8 ∧ σ = [some (.ref p), some (.int c), some (.ref nl), some (.int (0 + (i : Int))), some (.str w), v5, v6]) ∧ PK p l H H3 ∧ H3 nl = some (.lst (nm.map V.str))) (fun key => ?ka2) ?kb2
  case ka2 =>
    refine ⟨_, rfl, by show 13 ≤ sizeLine; decide, fun t ht => ⟨t, _, rfl, .inr (SqT.of upd_same), rfl, flat_strs keys, _, rfl, ?_⟩⟩
    have k4 := k3.sm (same_new ht (.tup (keys.map V.str)))
    have e4 := same_new ht (.tup (keys.map V.str)) _ _ e3
    refine ite2 (fun _ => ?_) (fun _ => key _ _ ⟨⟨_, _, hw, rfl⟩, k4, e4⟩)
    exact key _ _ ⟨⟨_, ("q" : Str), by decide +kernel, rfl⟩, k4, e4⟩
  rintro σ H4 ⟨⟨v5, w, hw, rfl⟩, k4, e4⟩
  clear k3 e3
  -- no name twice
  refine ⟨by show 6 ≤ sizeLine; decide, fun t ht => ⟨t, rfl, ⟨_, SqT.of upd_same⟩, ?_⟩⟩
  have k5 := k4.sm (same_new ht (.tup (namesB.map V.str)))
  have e5 := same_new ht (.tup (namesB.map V.str)) _ _ e4
  have q5 : (upd H4 t (.tup (namesB.map V.str))) t = some (.tup (namesB.map V.str)) := upd_same
  refine for_it (walk_tup (xs := namesB.map V.str)) (fun i3 σ H' => ∃ (v6 : Option V) (w : Str), w.length ≤ 8 ∧ σ = [some (.ref p), some (.int c), some (.ref nl), some (.int (0 + (i : Int))), some (.str w), v5, v6] ∧ PK p l H H' ∧ H' nl = some (.lst (nm.map V.str)) ∧ H' t = some (.tup (namesB.map V.str))) ⟨v6, w, hw, rfl, k5, e5, q5⟩ (fun _ _ _ _ h => by obtain ⟨_, _, _, _, _, _, h⟩ := h; exact SqT.of h) ?_ ?_
  · rintro i3 x σ H5 H5' hi3 ⟨v6, w, hw, rfl, k5, e5, q5⟩ ⟨rfl, hx⟩
    obtain ⟨y, hy, rfl⟩ := strs_iter hx
    refine ⟨_, rfl, _, rfl, nl, _, rfl, .inl (SqL.of e5), rfl, flat_strs _, _, rfl, ?_⟩
    refine ite2 (fun _ => ?_) (fun _ => ⟨_, w, hw, rfl, k5, e5, q5⟩)
    exact ⟨_, rfl, _, y, (show ∀ x ∈ namesB, x.length ≤ 8 by decide +kernel) _ hy, rfl, k5, e5, q5⟩
  · rintro σ H5 ⟨v6, w, hw, rfl, k5, e5, q5⟩
    refine ⟨_, rfl, .inl ⟨rfl, _, SqL.of e5⟩, _, rfl, nl, _, _, rfl, rfl, e5, by rw [List.length_map, sizeLine_eq]; omega, ?_⟩
    exact ⟨_, _, _, _, nm ++ [w], rfl, pn k5 _, by rw [upd_same, List.map_append]; rfl, by rw [List.length_append, hl1]; rfl, sh1.app (shortW.nil.cons (by omega))⟩
end
end Nt

set_option Elab.async false
set_option linter.all false
set_option maxRecDepth 100000
set_option maxHeartbeats 2000000
namespace Nt
open PySem L2
def lsd (n e : Addr) (dr us : Int) : List (Key × V) := [(.inr "names", .ref n), (.inr "extra", .ref e), (.inr "draws", .int dr), (.inr "uses", .int us), (.inr "results", .int 6)]
theorem lsd_names (n e : Addr) (dr us : Int) : valV (lsd n e dr us) (.inr "names") = some (.ref n) := by unfold lsd; rw [valV_pos rfl]
theorem lsd_extra (n e : Addr) (dr us : Int) : valV (lsd n e dr us) (.inr "extra") = some (.ref e) := by unfold lsd; rw [valV_neg (kne (by decide +kernel)), valV_pos rfl]
theorem lsd_draws (n e : Addr) (dr us : Int) : valV (lsd n e dr us) (.inr "draws") = some (.int dr) := by unfold lsd; rw [valV_neg (kne (by decide +kernel)), valV_neg (kne (by decide +kernel)), valV_pos rfl]
theorem lsd_uses (n e : Addr) (dr us : Int) : valV (lsd n e dr us) (.inr "uses") = some (.int us) := by unfold lsd; rw [valV_neg (kne (by decide +kernel)), valV_neg (kne (by decide +kernel)), valV_neg (kne (by decide +kernel)), valV_pos rfl]
theorem lsd_results (n e : Addr) (dr us : Int) : valV (lsd n e dr us) (.inr "results") = some (.int 6) := by unfold lsd; rw [valV_neg (kne (by decide +kernel)), valV_neg (kne (by decide +kernel)), valV_neg (kne (by decide +kernel)), valV_neg (kne (by decide +kernel)), valV_pos rfl]
theorem lsd_pextra (n e : Addr) (dr us : Int) (q : Addr) : putK (lsd n e dr us) (.inr "extra") (.ref q) = lsd n q dr us := by
  rw [put_any (lsd_extra n e dr us)]; unfold lsd
  simp only [List.map_cons, List.map_nil, if_neg (kne (a := "names") (b := "extra") (by decide +kernel)), if_neg (kne (a := "draws") (b := "extra") (by decide +kernel)), if_neg (kne (a := "uses") (b := "extra") (by decide +kernel)), if_neg (kne (a := "results") (b := "extra") (by decide +kernel)), if_true]
theorem lsd_pdraws (n e : Addr) (dr us z : Int) : putK (lsd n e dr us) (.inr "draws") (.int z) = lsd n e z us := by
  rw [put_any (lsd_draws n e dr us)]; unfold lsd
  simp only [List.map_cons, List.map_nil, if_neg (kne (a := "names") (b := "draws") (by decide +kernel)), if_neg (kne (a := "extra") (b := "draws") (by decide +kernel)), if_neg (kne (a := "uses") (b := "draws") (by decide +kernel)), if_neg (kne (a := "results") (b := "draws") (by decide +kernel)), if_true]
theorem lsd_puses (n e : Addr) (dr us z : Int) : putK (lsd n e dr us) (.inr "uses") (.int z) = lsd n e dr z := by
  rw [put_any (lsd_uses n e dr us)]; unfold lsd
  simp only [List.map_cons, List.map_nil, if_neg (kne (a := "names") (b := "uses") (by decide +kernel)), if_neg (kne (a := "extra") (b := "uses") (by decide +kernel)), if_neg (kne (a := "draws") (b := "uses") (by decide +kernel)), if_neg (kne (a := "results") (b := "uses") (by decide +kernel)), if_true]
theorem lsd_made (n e : Addr) (dr us : Int) : mergeK [] (lsd n e dr us) = lsd n e dr us := by
  unfold lsd mergeK
  simp only [List.foldl_cons, List.foldl_nil]
  simp [putK, show ¬ (("names" : Str) = "extra") from by decide +kernel, show ¬ (("names" : Str) = "draws") from by decide +kernel, show ¬ (("names" : Str) = "uses") from by decide +kernel, show ¬ (("extra" : Str) = "draws") from by decide +kernel,
    show ¬ (("extra" : Str) = "uses") from by decide +kernel, show ¬ (("draws" : Str) = "uses") from by decide +kernel, show ¬ (("names" : Str) = "results") from by decide +kernel, show ¬ (("extra" : Str) = "results") from by decide +kernel,
    show ¬ (("draws" : Str) = "results") from by decide +kernel, show ¬ (("uses" : Str) = "results") from by decide +kernel]
theorem lsd_lt (n e : Addr) (dr us : Int) : (lsd n e dr us).length < sizeLine := by show 5 < sizeLine; decide
/-- the pool and the scope of the law's own box -/
structure LS (p l d n e : Addr) (nm ex : List Str) (H : Hp) : Prop where
  pool : PoolAt H p l
  dic : ∃ dr us, H d = some (.dK (lsd n e dr us))
  hn : H n = some (.lst (nm.map V.str))
  he : H e = some (.lst (ex.map V.str))
structure PD (p l d n e : Addr) (nm ex : List Str) (H H' : Hp) : Prop where
  kp : Keep [p, d] H H'
  ls : LS p l d n e nm ex H'
section
variable {p l d n e b : Addr} {nm ex : List Str} {H H' H1 H2 : Hp}
theorem LS.dp (h : LS p l d n e nm ex H) : d ≠ p := by
  obtain ⟨dr, us, h1⟩ := h.dic
  exact pool_ne h.pool h1 (by intro _ _ _ _ _ _ z; cases z)
theorem LS.nd (h : LS p l d n e nm ex H) : n ≠ d ∧ e ≠ d := by
  obtain ⟨dr, us, h1⟩ := h.dic
  exact ⟨ne_of h.hn h1 (by intro z; cases z), ne_of h.he h1 (by intro z; cases z)⟩
theorem LS.ld (h : LS p l d n e nm ex H) : l ≠ d := by
  obtain ⟨dr, us, h1⟩ := h.dic
  obtain ⟨xs, _, _, _, _, _, _, h2, _⟩ := h.pool.ex
  exact ne_of h2 h1 (by intro z; cases z)
theorem LS.pk (h : LS p l d n e nm ex H) (k : PK p l H H') : LS p l d n e nm ex H' := by
  obtain ⟨dr, us, h1⟩ := h.dic
  exact ⟨k.pool, ⟨dr, us, k.kp _ _ h1 (by simpa using h.dp)⟩, k.strs h.pool h.hn, k.strs h.pool h.he⟩
theorem PD.refl (h : LS p l d n e nm ex H) : PD p l d n e nm ex H H := ⟨Keep.refl _ _, h⟩
theorem PD.pk (h : LS p l d n e nm ex H) (k : PK p l H H') : PD p l d n e nm ex H H' := ⟨k.kp.mono (by simp), h.pk k⟩
theorem PD.trans (a : PD p l d n e nm ex H H1) (b : PD p l d n e nm ex H1 H2) : PD p l d n e nm ex H H2 := ⟨a.kp.trans b.kp, b.ls⟩
theorem PD.sm (a : PD p l d n e nm ex H H1) (s : Same H1 H2) : PD p l d n e nm ex H H2 := a.trans (.pk a.ls (.same a.ls.pool s))
theorem PD.tk (a : PD p l d n e nm ex H H') (h : LS p l d n e nm ex H) : Tk H H' := a.kp.tk fun b hb xs z => by
  have hb' : b = p ∨ b = d := by simpa using hb
  rcases hb' with rfl | rfl
  · exact absurd rfl (pool_ne h.pool z (by intro _ _ _ _ _ _ y; cases y))
  · obtain ⟨dr, us, h1⟩ := h.dic
    rw [h1] at z; cases z
theorem PD.put (h : LS p l d n e nm ex H) (dr us : Int) : PD p l d n e nm ex H (L2.upd H d (.dK (lsd n e dr us))) := by
  refine ⟨Keep.upd (by simp), ?_, ⟨dr, us, upd_same⟩, by rw [upd_ne h.nd.1]; exact h.hn, by rw [upd_ne h.nd.2]; exact h.he⟩
  obtain ⟨xs, i1, i2, i3, i4, i5, h1, h2, r⟩ := h.pool.ex
  exact ⟨xs, i1, i2, i3, i4, i5, by rw [upd_ne h.dp.symm]; exact h1, by rw [upd_ne h.ld]; exact h2, r⟩
theorem PD.own {o : HO} (a : PD p l d n e nm ex H H') (h : LS p l d n e nm ex H) (hb : H b = none) : PD p l d n e nm ex H (L2.upd H' b o) := by
  obtain ⟨n1, n2⟩ := PK.ne h.pool hb
  obtain ⟨dr0, us0, h0⟩ := h.dic
  have nd := (ne_of_none h0 hb)
  have nn := (ne_of_none h.hn hb)
  have ne := (ne_of_none h.he hb)
  obtain ⟨dr, us, h3⟩ := a.ls.dic
  refine ⟨fun c u e n => ?_, ?_, ⟨dr, us, by rw [upd_ne nd]; exact h3⟩, by rw [upd_ne nn]; exact a.ls.hn, by rw [upd_ne ne]; exact a.ls.he⟩
  · rw [upd_ne (ne_of_none e hb)]; exact a.kp _ _ e n
  · obtain ⟨xs, i1, i2, i3, i4, i5, h1, h2, r⟩ := a.ls.pool.ex
    exact ⟨xs, i1, i2, i3, i4, i5, by rw [upd_ne n1.symm]; exact h1, by rw [upd_ne n2.symm]; exact h2, r⟩
theorem PD.lst (a : PD p l d n e nm ex H H') (h : LS p l d n e nm ex H) {xs : List V} (hb : H b = some (.lst xs)) (np : b ≠ p) : H' b = some (.lst xs) := a.kp _ _ hb (by
  obtain ⟨dr, us, h1⟩ := h.dic
  simp; exact ⟨np, ne_of hb h1 (by intro z; cases z)⟩)
end
def Sz : Nat → Nat
  | 0 => 40
  | r + 1 => 40 + 5 * Sz r
theorem Sz_ge : ∀ r, 40 ≤ Sz r
  | 0 => Nat.le_refl _
  | r + 1 => by unfold Sz; omega
def spLV : Sp := fun vs H Q E => spLValue 2 vs H Q E ∨ spLValue 4 vs H Q E
def spLStmt (r : Nat) : Sp := fun vs H Q _ => ∃ (p l d n e : Addr) (nm ex : List Str), vs = [.ref p, .ref d, .int r] ∧ LS p l d n e nm ex H ∧ shortW nm ∧ shortW ex ∧ nm.length ≤ 10 ∧ ex.length ≤ 10 ∧
  ∀ v H', PD p l d n e nm ex H H' → (v = .non ∨ ∃ a ws, v = .ref a ∧ StW H' r a ws ∧ shortW ws ∧ ws.length ≤ Sz r) → Q v H'
def spLBlock (r : Nat) : Sp := fun vs H Q _ => ∃ (p l d n e : Addr) (nm ex : List Str) (u : Nat), vs = [.ref p, .ref d, .int r, .int u] ∧ LS p l d n e nm ex H ∧ shortW nm ∧ shortW ex ∧ nm.length ≤ 10 ∧ ex.length ≤ 10 ∧ u ≤ 6 ∧
  ∀ a rs H', PD p l d n e nm ex H H' → BlL (StW H' r) H' a rs → shortW (wsOf rs) → (wsOf rs).length ≤ u * Sz r → Q (.ref a) H'
theorem FnOk.or2 {P : Program} {w : World} {K : PySem.W.Frag} {mg : Str → Option Value} {base : Heap} {CX : CXT} {k : Nat} {f : Addr} {fd : FuncData} {ps : List Str} {s1 s2 : Sp} (a : FnOk P w K mg base CX k f fd ps s1) (b : FnOk P w K mg base CX k f fd ps s2) :
    FnOk P w K mg base CX k f fd ps (fun vs H Q E => s1 vs H Q E ∨ s2 vs H Q E) :=
  ⟨fun vs H Q E h => h.elim (a.len vs H Q E) (b.len vs H Q E), fun A outer s H args us vs Q E hr he hb hv h => h.elim (a.run A outer s H args us vs Q E hr he hb hv) (b.run A outer s H args us vs Q E hr he hb hv)⟩
theorem dec4 (p d : Addr) (r : Nat) (u : Int) : [V.ref p, V.ref d, V.int (((r + 1 : Nat) : Int) - 1), V.int u] ++ [] = [V.ref p, V.ref d, V.int (r : Int), V.int u] := by
  rw [show ((r + 1 : Nat) : Int) - 1 = (r : Int) by omega]; rfl
section
variable {P : Program} {w : World} {K : PySem.W.Frag} {mg : Str → Option Value} {base : Heap} {CB fB CC CR CX aK aS : Addr}
theorem value_two {f : Addr} {fd : FuncData} (F : Fun K "_law_value" "_law_value" s_law_value f fd) (T : Txt P K mg CB fB CC CR CX aK aS) (Gdraw : CalX P w K mg base CX0 1 "_law_draw" spLDraw) (m : mg "_law_value" = some (.ref f)) (bi : Binds K fd ["_law_pool_here", "_law_names_here", "_law_deep"] []) : CalX P w K mg base CX0 6 "_law_value" spLV :=
  ⟨f, fd, _, FnOk.or2 ((value_step F T Gdraw ⟨_, value_all F T Gdraw m bi 1, fun d' h => by cases h; rfl⟩).mono (by decide)) (value_step F T Gdraw ⟨_, value_all F T Gdraw m bi 3, fun d' h => by cases h; rfl⟩), m, F.kp, bi⟩
theorem sc_law_statement : FnScope ["_law_pool_here", "_law_scope", "_law_room", "_law_kind", "_law_names_here", "_law_every", "_law_test", "_law_then"] ["_law_pool_here", "_law_scope", "_law_room"] (defScope s_law_statement) := ⟨rfl, rfl, rfl, by decide +kernel, rfl, by decide +kernel, by decide +kernel⟩
theorem lstmt_step {f : Addr} {fd : FuncData} (F : Fun K "_law_statement" "_law_statement" s_law_statement f fd) (T : Txt P K mg CB fB CC CR CX aK aS) (Gdraw : CalX P w K mg base CX0 1 "_law_draw" spLDraw) (Gvalue : CalX P w K mg base CX0 6 "_law_value" spLV) {r k : Nat} (hk6 : 6 ≤ k)
    (Gany : ∃ sp, CalX P w K mg base CX0 k "_law_block" sp ∧ ∀ r', r = r' + 1 → sp = spLBlock r') : FnOk P w K mg base CX0 (k + 1) f fd ["_law_pool_here", "_law_scope", "_law_room"] (spLStmt r) := by
  obtain ⟨spB, Gblock, hsp⟩ := Gany
  refine F.ok sc_law_statement (fun vs H Q E h => ?_) (fun cdv A outer s H vs Q E hr h => ?_)
  · obtain ⟨p, l, d, n, e, nm, ex, rfl, _⟩ := h
    rfl
  obtain ⟨p, l, d, n, e, nm, ex, rfl, hL, hsn, hse, hnl, hel, kk⟩ := h
  refine ⟨_, (pss_cons (ps_set (i := 3) sc_law_statement.nd rfl (Or.inl rfl) (pe_cx Gdraw hr pass0 (pa_cons (pv 0) (pa_cons pe_int pa_nil))))
 (pss_cons (ps_set (i := 4) sc_law_statement.nd rfl (Or.inl rfl) (pe_dget (hu_of hr) (pv 1) pe_str (fun _ _ => rfl)))
 (pss_cons (ps_set (i := 5) sc_law_statement.nd rfl (Or.inl rfl) (pe_op op_cat (pv 4) (pe_dget (hu_of hr) (pv 1) pe_str (fun _ _ => rfl))))
 (pss_cons (ps_if (PW.pt (pw_and (pt_cmpR op_lt (pv 3) pe_int (nomark _)) (pw_and (pt_cmpR op_gt (pe_callB call_len_seq (by rfl) T.len PySem.boot_len (pa_cons (pv 4) pa_nil)) pe_int (nomark _)) (pw_and1 (pt_cmpR op_gt (pe_dget (hu_of hr) (pv 1) pe_str (fun _ _ => rfl)) pe_int (nomark _))))))
 (pss_cons (ps_dput (hu_of hr) (pv 1) pe_str (pe_op op_sub (pe_dget (hu_of hr) (pv 1) pe_str (fun _ _ => rfl)) pe_int) rfl)
 (pss_one (ps_ret (pe_tup (pa_cons pe_str (pa_cons (pe_ix ix_list (pv 4) (pe_cx Gdraw hr pass0 (pa_cons (pv 0) (pa_cons (pe_callB call_len_seq (by rfl) T.len PySem.boot_len (pa_cons (pv 4) pa_nil)) pa_nil))) (fun _ _ => rfl)) (pa_cons (pe_op op_add pe_int (pe_cx Gdraw hr pass0 (pa_cons (pv 0) (pa_cons (pe_dget (hu_of hr) (pv 1) pe_str (fun _ _ => rfl)) pa_nil)))) pa_nil)))))))
 pss_nil)
 (pss_cons (ps_if (PW.pt (pw_and (pt_cmpR op_lt (pv 3) pe_int (nomark _)) (pw_and (pt_cmpR op_gt (pe_callB call_len_seq (by rfl) T.len PySem.boot_len (pa_cons (pv 4) pa_nil)) pe_int (nomark _)) (pw_and1 (pt_cmpR op_gt (pe_dget (hu_of hr) (pv 1) pe_str (fun _ _ => rfl)) pe_int (nomark _))))))
 (pss_cons (ps_dput (hu_of hr) (pv 1) pe_str (pe_op op_sub (pe_dget (hu_of hr) (pv 1) pe_str (fun _ _ => rfl)) pe_int) rfl)
 (pss_one (ps_ret (pe_tup (pa_cons pe_str (pa_cons (pe_ix ix_list (pv 4) (pe_cx Gdraw hr pass0 (pa_cons (pv 0) (pa_cons (pe_callB call_len_seq (by rfl) T.len PySem.boot_len (pa_cons (pv 4) pa_nil)) pa_nil))) (fun _ _ => rfl)) (pa_cons (pe_cx Gvalue hr pass0 (pa_cons (pv 0) (pa_cons (pv 5) (pa_cons pe_int pa_nil)))) pa_nil)))))))
 pss_nil)
 (pss_cons (ps_if (PW.pt (pw_and (pt_cmpR op_lt (pv 3) pe_int (nomark _)) (pw_and1 (pt_cmpR op_gt (pe_callB call_len_seq (by rfl) T.len PySem.boot_len (pa_cons (pe_dget (hu_of hr) (pv 1) pe_str (fun _ _ => rfl)) pa_nil)) pe_int (nomark _)))))
 (pss_one (ps_ret (pe_tup (pa_cons pe_str (pa_cons (pe_cx Gvalue hr pass0 (pa_cons (pv 0) (pa_cons (pv 5) (pa_cons pe_int pa_nil)))) pa_nil)))))
 pss_nil)
 (pss_cons (ps_if (PW.pt (pw_and (pt_cmpR op_lt (pv 3) pe_int (nomark _)) (pw_and1 (pt_cmpR op_gt (pv 2) pe_int (nomark _)))))
 (pss_cons (ps_set (i := 6) sc_law_statement.nd rfl (Or.inl rfl) (pe_cx Gvalue hr pass0 (pa_cons (pv 0) (pa_cons (pv 5) (pa_cons pe_int pa_nil)))))
 (pss_cons (ps_set (i := 7) sc_law_statement.nd rfl (Or.inl rfl) (pe_cx Gblock hr pass0 (pa_cons (pv 0) (pa_cons (pv 1) (pa_cons (pe_op op_sub (pv 2) pe_int) (pa_cons pe_int pa_nil))))))
 (pss_one (ps_ret (pe_tup (pa_cons pe_str (pa_cons (pv 6) (pa_cons (pv 7) (pa_cons (pe_cx Gblock hr pass0 (pa_cons (pv 0) (pa_cons (pv 1) (pa_cons (pe_op op_sub (pv 2) pe_int) (pa_cons pe_int pa_nil))))) pa_nil)))))))))
 pss_nil)
 (pss_cons (ps_if (pt_cmpR op_gt (pe_callB call_len_seq (by rfl) T.len PySem.boot_len (pa_cons (pv 4) pa_nil)) pe_int (nomark _))
 (pss_one (ps_ret (pe_tup (pa_cons pe_str (pa_cons (pe_ix ix_list (pv 4) (pe_cx Gdraw hr pass0 (pa_cons (pv 0) (pa_cons (pe_callB call_len_seq (by rfl) T.len PySem.boot_len (pa_cons (pv 4) pa_nil)) pa_nil))) (fun _ _ => rfl)) (pa_cons (pe_cx Gvalue hr pass0 (pa_cons (pv 0) (pa_cons (pv 5) (pa_cons pe_int pa_nil)))) pa_nil))))))
 pss_nil)
 (pss_cons (ps_if (pt_cmpR op_gt (pv 2) pe_int (nomark _))
 (pss_one (ps_ret (pe_tup (pa_cons pe_str (pa_cons (pe_tup (pa_cons pe_str (pa_cons (pe_cx Gdraw hr pass0 (pa_cons (pv 0) (pa_cons pe_int pa_nil))) pa_nil))) (pa_cons (pe_tup pa_nil) (pa_cons (pe_tup pa_nil) pa_nil)))))))
 pss_nil)
 (pss_one (ps_ret pe_non))))))))))), ?_⟩
  refine ⟨_, rfl, p, l, 12, rfl, hL.pool, by decide, by decide, fun kind H1 _ _ k1 => ?_⟩
  have d1 := PD.pk hL k1
  obtain ⟨dr0, us0, hd1⟩ := d1.ls.dic
  refine ⟨_, rfl, d, _, rfl, dg hd1 (lsd_names _ _ _ _), _, rfl, _, rfl, d, _, rfl, dg hd1 (lsd_extra _ _ _ _), n, e, _, _, rfl, rfl, d1.ls.hn, d1.ls.he, by rw [List.length_map, List.length_map, sizeLine_eq]; omega, fun ev hev => ?_⟩
  rw [← List.map_append]
  have s2 := same_new hev (.lst ((nm ++ ex).map V.str))
  have d2 := d1.sm s2
  have e2 : (upd H1 ev (.lst ((nm ++ ex).map V.str))) ev = some (.lst ((nm ++ ex).map V.str)) := upd_same
  generalize upd H1 ev (.lst ((nm ++ ex).map V.str)) = H2 at d2 e2 ⊢
  clear d1 hd1 s2 k1 hev dr0 us0
  obtain ⟨dr, us, hd2⟩ := d2.ls.dic
  have hsv := hsn.app hse
  have hvl : (nm ++ ex).length < 1000 := by rw [List.length_append]; omega
  have pl : ∀ {H' : Hp} {a : Addr} {ws : List Str}, PlW H' a ws → StW H' r a ws := fun h => by
    cases r with
    | zero => exact h
    | succ r => exact .inl h
  have sz := Sz_ge r
  have dv : ∀ {H' : Hp} {a : Addr} {ws : List Str} {m : Nat}, ExW H' m a ws → m ≤ 5 → ExW H' 5 a ws ∧ ws.length ≤ 31 := fun h hm => by
    have := h.mono hm
    exact ⟨this, by have := this.len; omega⟩
  -- draw
  refine ⟨_, rfl, _, _, rfl, rfl, _, rfl, ?_⟩
  by_cases hX : kind < 2 ∧ (0 : Int) < (nm.length : Int) ∧ 0 < dr
  · rw [decide_eq_true hX.1]
    refine iteT ⟨_, rfl, n, _, rfl, .inl (SqL.of d2.ls.hn), _, _, rfl, rfl, _, rfl, ?_⟩
    rw [List.length_map, decide_eq_true hX.2.1]
    refine iteT ⟨_, rfl, d, _, rfl, dg hd2 (lsd_draws _ _ _ _), _, _, rfl, rfl, _, rfl, ?_⟩
    rw [decide_eq_true hX.2.2]
    refine iteT ⟨_, rfl, d, _, rfl, dg hd2 (lsd_draws _ _ _ _), _, _, rfl, rfl, _, rfl, d, _, rfl, DPut.k (k := .inr "draws") hd2 (lsd_lt _ _ _ _), ?_⟩
    rw [lsd_pdraws]
    have d3 := d2.trans (PD.put d2.ls (dr - 1) us)
    generalize upd H2 d (.dK (lsd n e (dr - 1) us)) = H3 at d3 ⊢
    refine ⟨_, rfl, _, rfl, _, rfl, n, _, rfl, .inl (SqL.of d3.ls.hn), p, l, _, rfl, d3.ls.pool, by rw [List.length_map]; exact hX.2.1, by rw [List.length_map]; omega, fun r1 H4 r10 r11 k4 => ?_⟩
    rw [List.length_map] at r11
    obtain ⟨x, hx, hat⟩ := pick r10 r11
    have d4 := d3.trans (PD.pk d3.ls k4)
    obtain ⟨dr4, us4, hd4⟩ := d4.ls.dic
    refine ⟨n, _, _, _, rfl, rfl, SqL.of d4.ls.hn, hat, _, rfl, _, rfl, d, _, rfl, dg hd4 (lsd_results _ _ _ _), p, l, 6, rfl, d4.ls.pool, by decide, by decide, fun r2 H5 r20 r21 k5 => ⟨_, _, rfl, rfl, by show 3 ≤ sizeLine; decide, fun q hq => ?_⟩⟩
    refine kk _ _ ((d4.trans (PD.pk d4.ls k5)).sm (same_new hq _)) (.inr ⟨q, [("draw" : Str), x, numS (1 + r2)], rfl, pl (.inr (.inr ⟨x, 1 + r2, upd_same, by omega, by omega, rfl⟩)), ?_, by simp; omega⟩)
    exact ((shortW.nil.cons (numS_len (by omega) (by omega))).cons (hsn x hx)).cons (by decide +kernel)
  refine ite_f2 (fun q1 z => ⟨_, rfl, n, _, rfl, .inl (SqL.of d2.ls.hn), _, _, rfl, rfl, _, rfl, by
    rw [List.length_map]
    refine ite_f2 (fun q2 z => ⟨_, rfl, d, _, rfl, dg hd2 (lsd_draws _ _ _ _), _, _, rfl, rfl, _, rfl, ?_⟩) (fun z => iteF z) z
    rw [decide_eq_false (fun y => hX ⟨of_decide_eq_true q1, of_decide_eq_true q2, y⟩)]; exact iteF z⟩) (fun z => iteF z) ?_
  -- use
  refine ⟨_, rfl, _, _, rfl, rfl, _, rfl, ?_⟩
  by_cases hY : kind < 5 ∧ (0 : Int) < (nm.length : Int) ∧ 0 < us
  · rw [decide_eq_true hY.1]
    refine iteT ⟨_, rfl, n, _, rfl, .inl (SqL.of d2.ls.hn), _, _, rfl, rfl, _, rfl, ?_⟩
    rw [List.length_map, decide_eq_true hY.2.1]
    refine iteT ⟨_, rfl, d, _, rfl, dg hd2 (lsd_uses _ _ _ _), _, _, rfl, rfl, _, rfl, ?_⟩
    rw [decide_eq_true hY.2.2]
    refine iteT ⟨_, rfl, d, _, rfl, dg hd2 (lsd_uses _ _ _ _), _, _, rfl, rfl, _, rfl, d, _, rfl, DPut.k (k := .inr "uses") hd2 (lsd_lt _ _ _ _), ?_⟩
    rw [lsd_puses]
    have d3' := PD.put d2.ls dr (us - 1)
    have e3 : (upd H2 d (.dK (lsd n e dr (us - 1)))) ev = some (.lst ((nm ++ ex).map V.str)) := d3'.lst d2.ls e2 (pool_strs d2.ls.pool e2)
    have d3 := d2.trans d3'
    generalize upd H2 d (.dK (lsd n e dr (us - 1))) = H3 at d3 e3 ⊢
    refine ⟨_, rfl, _, rfl, _, rfl, n, _, rfl, .inl (SqL.of d3.ls.hn), p, l, _, rfl, d3.ls.pool, by rw [List.length_map]; exact hY.2.1, by rw [List.length_map]; omega, fun r1 H4 r10 r11 k4 => ?_⟩
    rw [List.length_map] at r11
    obtain ⟨x, hx, hat⟩ := pick r10 r11
    have d4 := d3.trans (PD.pk d3.ls k4)
    refine ⟨n, _, _, _, rfl, rfl, SqL.of d4.ls.hn, hat, _, rfl, _, rfl, .inl ⟨p, l, ev, nm ++ ex, rfl, d4.ls.pool, k4.strs d3.ls.pool e3, hvl, hsv, by decide, fun a ws H5 k5 x5 s5 => ⟨by show 3 ≤ sizeLine; decide, fun q hq => ?_⟩⟩⟩
    obtain ⟨x5', l5⟩ := dv x5 (by decide)
    refine kk _ _ ((d4.trans (PD.pk d4.ls k5)).sm (same_new hq _)) (.inr ⟨q, ("use" : Str) :: x :: ws, rfl, pl (.inl ⟨"use", x, a, ws, .inr rfl, upd_same, x5'.keep (Tk.new hq), rfl⟩), ?_, by simp only [List.length_cons]; omega⟩)
    exact (s5.cons (hsn x hx)).cons (by decide +kernel)
  refine ite_f2 (fun q1 z => ⟨_, rfl, n, _, rfl, .inl (SqL.of d2.ls.hn), _, _, rfl, rfl, _, rfl, by
    rw [List.length_map]
    refine ite_f2 (fun q2 z => ⟨_, rfl, d, _, rfl, dg hd2 (lsd_uses _ _ _ _), _, _, rfl, rfl, _, rfl, ?_⟩) (fun z => iteF z) z
    rw [decide_eq_false (fun y => hY ⟨of_decide_eq_true q1, of_decide_eq_true q2, y⟩)]; exact iteF z⟩) (fun z => iteF z) ?_
  -- say
  refine ⟨_, rfl, _, _, rfl, rfl, _, rfl, ?_⟩
  by_cases hZ : kind < 7 ∧ (0 : Int) < (ex.length : Int)
  · rw [decide_eq_true hZ.1]
    refine iteT ⟨_, rfl, d, _, rfl, dg hd2 (lsd_extra _ _ _ _), e, _, rfl, .inl (SqL.of d2.ls.he), _, _, rfl, rfl, _, rfl, ?_⟩
    rw [List.length_map, decide_eq_true hZ.2]
    refine iteT ⟨_, rfl, _, rfl, .inl ⟨p, l, ev, nm ++ ex, rfl, d2.ls.pool, e2, hvl, hsv, by decide, fun a ws H5 k5 x5 s5 => ⟨by show 2 ≤ sizeLine; decide, fun q hq => ?_⟩⟩⟩
    obtain ⟨x5', l5⟩ := dv x5 (by decide)
    refine kk _ _ ((d2.trans (PD.pk d2.ls k5)).sm (same_new hq _)) (.inr ⟨q, ("say" : Str) :: ws, rfl, pl (.inr (.inl ⟨a, ws, upd_same, x5'.keep (Tk.new hq), rfl⟩)), s5.cons (by decide +kernel), by simp only [List.length_cons]; omega⟩)
  refine ite_f2 (fun q1 z => ⟨_, rfl, d, _, rfl, dg hd2 (lsd_extra _ _ _ _), e, _, rfl, .inl (SqL.of d2.ls.he), _, _, rfl, rfl, _, rfl, by
    rw [List.length_map, decide_eq_false (fun y => hZ ⟨of_decide_eq_true q1, y⟩)]; exact iteF z⟩) (fun z => iteF z) ?_
  -- if
  refine ⟨_, rfl, _, _, rfl, rfl, _, rfl, ?_⟩
  by_cases hW : kind < 9 ∧ (0 : Int) < (r : Int)
  · rw [decide_eq_true hW.1]
    obtain ⟨r', rfl⟩ : ∃ r', r = r' + 1 := ⟨r - 1, by have := hW.2; omega⟩
    have es := hsp r' rfl
    subst es
    refine iteT ⟨_, rfl, _, _, rfl, rfl, _, rfl, ?_⟩
    rw [decide_eq_true hW.2]
    refine iteT ⟨_, rfl, _, rfl, .inl ⟨p, l, ev, nm ++ ex, rfl, d2.ls.pool, e2, hvl, hsv, by decide, fun a ws H3 k3 x3 s3 => ?_⟩⟩
    have d3 := d2.trans (PD.pk d2.ls k3)
    obtain ⟨x3', l3⟩ := dv x3 (by decide)
    refine ⟨_, rfl, _, rfl, _, rfl, _, _, rfl, rfl, p, l, d, n, e, nm, ex, 3, dec4 p d r' 3, d3.ls, hsn, hse, hnl, hel, by decide, fun t rt H4 d4 b4 s4 l4 => ?_⟩
    refine ⟨_, rfl, _, rfl, _, rfl, _, rfl, _, rfl, _, _, rfl, rfl, p, l, d, n, e, nm, ex, 2, dec4 p d r' 2, d4.ls, hsn, hse, hnl, hel, by decide, fun o ro H5 d5 b5 s5 l5 => ⟨by show 4 ≤ sizeLine; decide, fun q hq => ?_⟩⟩
    have t45 := (d5.tk d4.ls).trans (Tk.new (o := .tup [.str "if", .ref a, .ref t, .ref o]) hq)
    refine kk _ _ ((d3.trans (d4.trans d5)).sm (same_new hq _)) (.inr ⟨q, ("if" : Str) :: (ws ++ wsOf rt ++ elseW ro ++ [("end" : Str)]), rfl, .inr ⟨a, t, o, ws, rt, ro, upd_same, (x3'.keep (d4.tk d3.ls)).keep t45, b4.keep t45, b5.keep (Tk.new hq), rfl⟩, ?_, ?_⟩)
    · refine shortW.cons (by decide +kernel) (((s3.app s4).app ?_).app (shortW.nil.cons (by decide +kernel)))
      unfold elseW
      by_cases z : ro = []
      · rw [if_pos z]; exact shortW.nil
      · rw [if_neg z]; exact s5.cons (by decide +kernel)
    · have le : (elseW ro).length ≤ 1 + (wsOf ro).length := by
        unfold elseW
        by_cases z : ro = []
        · rw [if_pos z]; simp
        · rw [if_neg z]; simp only [List.length_cons]; omega
      simp only [List.length_cons, List.length_append, List.length_nil, Sz]
      have l7 : ws.length ≤ 7 := by have := x3.len; omega
      omega
  refine ite_f2 (fun q1 z => ⟨_, rfl, _, _, rfl, rfl, _, rfl, by
    rw [decide_eq_false (fun y => hW ⟨of_decide_eq_true q1, y⟩)]; exact iteF z⟩) (fun z => iteF z) ?_
  -- set
  refine ⟨_, rfl, n, _, rfl, .inl (SqL.of d2.ls.hn), _, _, rfl, rfl, _, rfl, ?_⟩
  rw [List.length_map]
  by_cases hV : (0 : Int) < (nm.length : Int)
  · rw [decide_eq_true hV]
    refine iteT ⟨_, rfl, _, rfl, _, rfl, n, _, rfl, .inl (SqL.of d2.ls.hn), p, l, _, rfl, d2.ls.pool, by rw [List.length_map]; exact hV, by rw [List.length_map]; omega, fun r1 H4 r10 r11 k4 => ?_⟩
    rw [List.length_map] at r11
    obtain ⟨x, hx, hat⟩ := pick r10 r11
    have d4 := d2.trans (PD.pk d2.ls k4)
    refine ⟨n, _, _, _, rfl, rfl, SqL.of d4.ls.hn, hat, _, rfl, _, rfl, .inr ⟨p, l, ev, nm ++ ex, rfl, d4.ls.pool, k4.strs d2.ls.pool e2, hvl, hsv, by decide, fun a ws H5 k5 x5 s5 => ⟨by show 3 ≤ sizeLine; decide, fun q hq => ?_⟩⟩⟩
    obtain ⟨x5', l5⟩ := dv x5 (by decide)
    refine kk _ _ ((d4.trans (PD.pk d4.ls k5)).sm (same_new hq _)) (.inr ⟨q, ("set" : Str) :: x :: ws, rfl, pl (.inl ⟨"set", x, a, ws, .inl rfl, upd_same, x5'.keep (Tk.new hq), rfl⟩), ?_, by simp only [List.length_cons]; omega⟩)
    exact (s5.cons (hsn x hx)).cons (by decide +kernel)
  rw [decide_eq_false hV]
  refine iteF ⟨_, rfl, _, _, rfl, rfl, _, rfl, ?_⟩
  by_cases hU : (0 : Int) < (r : Int)
  · rw [decide_eq_true hU]
    obtain ⟨r', rfl⟩ : ∃ r', r = r' + 1 := ⟨r - 1, by omega⟩
    refine iteT ⟨_, rfl, p, l, 2, rfl, d2.ls.pool, by decide, by decide, fun x H3 x0 x1 k3 => ⟨by show 2 ≤ sizeLine; decide, fun a ha => ⟨Nat.zero_le _, fun t ht => ⟨Nat.zero_le _, fun o ho => ⟨by show 4 ≤ sizeLine; decide, fun q hq => ?_⟩⟩⟩⟩⟩
    have s1 := same_new ha (.tup [.str "number", .int x])
    have s2 := same_new ht (.tup [])
    have s3 := same_new ho (.tup [])
    have s4 := same_new hq (.tup [.str "if", .ref a, .ref t, .ref o])
    refine kk _ _ ((d2.trans (PD.pk d2.ls k3)).sm (s1.trans (s2.trans (s3.trans s4)))) (.inr ⟨q, ("if" : Str) :: ([numS x] ++ wsOf [] ++ elseW [] ++ [("end" : Str)]), rfl, .inr ⟨a, t, o, [numS x], [], [], upd_same, ?_, ⟨s4 _ _ (s3 _ _ upd_same), by simp⟩, ⟨s4 _ _ upd_same, by simp⟩, rfl⟩, ?_, ?_⟩)
    · exact .inl ⟨x, s4 _ _ (s3 _ _ (s2 _ _ upd_same)), x0, by omega, rfl⟩
    · exact shortW.cons (by decide +kernel) (shortW.cons (numS_len x0 (by omega)) (shortW.cons (by decide +kernel) shortW.nil))
    · show 3 ≤ Sz (r' + 1); omega
  rw [decide_eq_false hU]
  exact iteF (kk _ _ d2 (.inl rfl))
end
end Nt

set_option Elab.async false
set_option linter.all false
set_option maxRecDepth 100000
set_option maxHeartbeats 2000000
namespace Nt
open PySem L2
abbrev Row := Addr × List Str
def vOf : Option Row → V
  | none => .non
  | some q => .ref q.1
theorem rows_take {os : List (Option Row)} {i : Nat} {o : Option Row} (h : os[i]? = some o) : ((os.take (i + 1)).filterMap id) = (os.take i).filterMap id ++ o.toList := by
  rw [List.take_succ, h, List.filterMap_append]
  cases o <;> rfl
theorem wsOf_bound {rs : List Row} {m : Nat} (h : ∀ p ∈ rs, p.2.length ≤ m) : (wsOf rs).length ≤ rs.length * m := by
  induction rs with
  | nil => simp [wsOf]
  | cons p r ih =>
    have h1 := h p (by simp)
    have h2 := ih fun q hq => h q (by simp [hq])
    have : wsOf (p :: r) = p.2 ++ wsOf r := by simp [wsOf]
    rw [this, List.length_append, List.length_cons, Nat.succ_mul]; omega
theorem wsOf_short {rs : List Row} (h : ∀ p ∈ rs, shortW p.2) : shortW (wsOf rs) := by
  intro w hw
  unfold wsOf at hw
  obtain ⟨l, hl, hw⟩ := List.mem_flatten.mp hw
  obtain ⟨p, hp, rfl⟩ := List.mem_map.mp hl
  exact h p hp w hw
def RowOk (r : Nat) (H : Hp) (q : Row) : Prop := StW H r q.1 q.2 ∧ shortW q.2 ∧ q.2.length ≤ Sz r
theorem RowOk.keep {r : Nat} {H H' : Hp} {q : Row} (h : RowOk r H q) (t : Tk H H') : RowOk r H' q := ⟨h.1.keep t, h.2⟩
section
variable {P : Program} {w : World} {K : PySem.W.Frag} {mg : Str → Option Value} {base : Heap} {CB fB CC CR CX aK aS : Addr}
theorem sc_law_block : FnScope ["_law_pool_here", "_law_scope", "_law_room", "_law_upper", "_law_block_here", "_law_k", "_law_due"] ["_law_pool_here", "_law_scope", "_law_room", "_law_upper"] (defScope s_law_block) := ⟨rfl, rfl, rfl, by decide +kernel, rfl, by decide +kernel, by decide +kernel⟩
theorem lblock_step {f : Addr} {fd : FuncData} (F : Fun K "_law_block" "_law_block" s_law_block f fd) (T : Txt P K mg CB fB CC CR CX aK aS) (Gdraw : CalX P w K mg base CX0 1 "_law_draw" spLDraw) (Gspend : CalX P w K mg base CX0 1 "_law_spend" spLSpend) {r k : Nat} (hk1 : 1 ≤ k)
    (Gstatement : CalX P w K mg base CX0 k "_law_statement" (spLStmt r)) : FnOk P w K mg base CX0 (k + 1) f fd ["_law_pool_here", "_law_scope", "_law_room", "_law_upper"] (spLBlock r) := by
  refine F.ok sc_law_block (fun vs H Q E h => ?_) (fun cdv A outer s H vs Q E hr h => ?_)
  · obtain ⟨p, l, d, n, e, nm, ex, u, rfl, _⟩ := h
    rfl
  obtain ⟨p, l, d, n, e, nm, ex, u, rfl, hL, hsn, hse, hnl, hel, hu, kk⟩ := h
  refine ⟨_, (pss_cons (ps_set (i := 4) sc_law_block.nd rfl (Or.inl rfl) (pe_lst pa_nil))
 (pss_cons (ps_for PassesOwn.never rfl (pi_range1 rfl T.range (pa_cons (pe_cx Gdraw hr pass0 (pa_cons (pv 0) (pa_cons (pe_op op_add (pv 3) pe_int) pa_nil))) pa_nil)) (pg_name (i := 5) sc_law_block.nd rfl (Or.inl rfl))
 (pss_one (ps_if (pt_val (pe_cx Gspend hr pass0 (pa_cons (pv 0) pa_nil)))
 (pss_one (ps_expr (pe_bm PySem.F.plainAttrs_list PySem.F.slot_list_append PySem.F.type_list_append mt_append (pv 4) (pa_cons (pe_cx Gstatement hr pass0 (pa_cons (pv 0) (pa_cons (pv 1) (pa_cons (pv 2) pa_nil)))) pa_nil))))
 pss_nil)))
 (pss_one (ps_ret (pe_callTy call_tuple_of (by rfl) T.tuple_ (by decide +kernel) (pa_cons (pe_lc (own := [("_law_due", 6)]) (g := gName 6) rfl sc_law_block.nd (pi_list (pv 4)) (blkOk_by (own := [("_law_due", 6)]) (N := ["_law_pool_here", "_law_scope", "_law_room", "_law_upper", "_law_block_here", "_law_k", "_law_due"]) (sc := defScope s_law_block) (by decide +kernel)) (fun _ _ _ _ _ => pg_name (i := 6) sc_law_block.nd rfl (Or.inl rfl)) (fun _ _ _ _ _ => pts_one (pt_cmpR op_notN (pv 6) pe_non (nomark _))) (fun _ _ _ _ _ => (pv 6))) pa_nil)))))), ?_⟩
  refine ⟨Nat.zero_le _, fun bl hbl => ?_⟩
  have own : ∀ {H1 : Hp}, PD p l d n e nm ex H H1 → ∀ o, PD p l d n e nm ex H (upd H1 bl o) := fun a o => a.own hL hbl
  have d1 := own (PD.refl hL) (.lst [])
  have e1 : (upd H bl (.lst [])) bl = some (.lst (([] : List (Option Row)).map vOf)) := upd_same
  have bp : bl ≠ p := (PK.ne hL.pool hbl).1
  generalize upd H bl (.lst []) = H1 at d1 e1 ⊢
  refine ⟨_, rfl, _, rfl, _, _, rfl, rfl, p, l, _, rfl, d1.ls.pool, by omega, by omega, fun cnt H2 c0 c1 k2 => ⟨_, rfl, by omega, by omega, ?_⟩⟩
  have d2 := PD.pk d1.ls k2
  have e2 := d2.lst d1.ls e1 bp
  have d2 := d1.trans d2
  refine for_it walk_range (fun i σ H' => ∃ (v5 v6 : Option V) (os : List (Option Row)), σ = [some (.ref p), some (.ref d), some (.int r), some (.int u), some (.ref bl), v5, v6] ∧ PD p l d n e nm ex H H' ∧ H' bl = some (.lst (os.map vOf)) ∧ os.length ≤ i ∧ ∀ q, some q ∈ os → RowOk r H' q)
    ⟨none, none, [], rfl, d2, e2, Nat.le_refl _, by simp⟩ (fun _ _ _ _ _ => trivial) ?_ ?_
  · rintro i x σ H3 H3' hi ⟨v5, v6, os, rfl, d3, e3, hl3, ok3⟩ ⟨rfl, rfl⟩
    refine ⟨_, rfl, p, l, rfl, d3.ls.pool, fun b H4 k4 => ⟨_, rfl, ?_⟩⟩
    have d4' := PD.pk d3.ls k4
    have e4 := d4'.lst d3.ls e3 bp
    have ok4 : ∀ q, some q ∈ os → RowOk r H4 q := fun q hq => (ok3 q hq).keep (d4'.tk d3.ls)
    have d4 := d3.trans d4'
    refine ite2 (fun _ => ?_) (fun _ => ⟨_, _, os, rfl, d4, e4, by omega, ok4⟩)
    refine ⟨_, rfl, .inl ⟨rfl, _, SqL.of e4⟩, _, rfl, _, rfl, _, rfl, p, l, d, n, e, nm, ex, rfl, d4.ls, hsn, hse, hnl, hel, fun v H5 d5' hv => ?_⟩
    have e5 := d5'.lst d4.ls e4 bp
    have ok5 : ∀ q, some q ∈ os → RowOk r H5 q := fun q hq => (ok4 q hq).keep (d5'.tk d4.ls)
    have d5 := d4.trans d5'
    refine ⟨bl, _, _, rfl, rfl, e5, by rw [List.length_map, sizeLine_eq]; omega, ?_⟩
    have tk6 : ∀ o, Tk H5 (upd H5 bl o) := fun o => Tk.upd e5 (by intro xs z; cases z)
    rcases hv with rfl | ⟨a, ws, rfl, h1, h2, h3⟩
    · exact ⟨_, _, os ++ [none], rfl, own d5 _, by rw [upd_same, List.map_append]; rfl, by rw [List.length_append]; simp; omega, fun q hq => (ok5 q (by simpa using hq)).keep (tk6 _)⟩
    · refine ⟨_, _, os ++ [some (a, ws)], rfl, own d5 _, by rw [upd_same, List.map_append]; rfl, by rw [List.length_append]; simp; omega, fun q hq => ?_⟩
      have hq' : some q ∈ os ∨ q = (a, ws) := by simpa using hq
      rcases hq' with hq' | rfl
      · exact (ok5 q hq').keep (tk6 _)
      · exact RowOk.keep ⟨h1, h2, h3⟩ (tk6 _)
  · rintro σ H3 ⟨v5, v6, os, rfl, d3, e3, hl3, ok3⟩
    refine ⟨_, rfl, bl, rfl, ⟨_, SqL.of e3⟩, fun D hD => lc_it (walk_list (xs := os.map vOf)) (fun i H' => Same H3 H' ∧ H' D = some (.lst (((os.take i).filterMap id).map fun q => V.ref q.1))) ⟨same_new hD _, upd_same⟩ (fun i H' _ h => SqL.of (h.1 _ _ e3)) ?_ ?_⟩
    · rintro i x H4 H4' hi ⟨s4, hL4⟩ ⟨rfl, hx⟩
      refine ⟨rfl, ?_⟩
      rw [List.getElem?_map] at hx
      cases ho : os[i]? with
      | none => rw [ho] at hx; cases hx
      | some o =>
      rw [ho] at hx
      obtain rfl := Option.some.inj hx
      have hi2 : i < os.length := by rw [List.length_map] at hi; exact hi
      cases o with
      | none =>
        refine ⟨_, rfl, rfl, _, rfl, iteF ⟨s4, ?_⟩⟩
        rw [rows_take ho, hL4]; simp
      | some q =>
        refine ⟨_, rfl, rfl, _, rfl, iteT ⟨_, rfl, _, hL4, ?_, fun b o z => ?_, ?_⟩⟩
        · rw [List.length_map, sizeLine_eq]
          have h1 := List.length_filterMap_le id (os.take i)
          rw [List.length_take] at h1; omega
        · rw [upd_ne (ne_of_none z hD)]; exact s4 _ _ z
        · rw [rows_take ho, upd_same]; simp; rfl
    · rintro H4 ⟨s4, hL4⟩
      rw [List.length_map, List.take_length] at hL4
      refine ⟨D, _, rfl, .inl ⟨SqL.of hL4, fun t ht => ?_⟩⟩
      have s5 := s4.trans (same_new ht (.tup ((os.filterMap id).map fun q => V.ref q.1)))
      have mem : ∀ q, q ∈ os.filterMap id → some q ∈ os := fun q hq => by
        obtain ⟨o, h1, h2⟩ := List.mem_filterMap.mp hq
        have : o = some q := h2
        rw [← this]; exact h1
      refine kk t (os.filterMap id) _ (d3.sm s5) ⟨upd_same, fun q hq => (ok3 q (mem q hq)).1.keep (Same.tk s5)⟩ (wsOf_short fun q hq => (ok3 q (mem q hq)).2.1) ?_
      refine Nat.le_trans (wsOf_bound fun q hq => (ok3 q (mem q hq)).2.2) (Nat.mul_le_mul_right _ ?_)
      have h1 := List.length_filterMap_le id os
      omega
theorem lblock_all {fs fb : Addr} {fds fdb : FuncData} (FS : Fun K "_law_statement" "_law_statement" s_law_statement fs fds) (FB : Fun K "_law_block" "_law_block" s_law_block fb fdb) (T : Txt P K mg CB fB CC CR CX aK aS)
    (ms : mg "_law_statement" = some (.ref fs)) (mb : mg "_law_block" = some (.ref fb)) (bs : Binds K fds ["_law_pool_here", "_law_scope", "_law_room"] []) (bb : Binds K fdb ["_law_pool_here", "_law_scope", "_law_room", "_law_upper"] [])
    (Gdraw : CalX P w K mg base CX0 1 "_law_draw" spLDraw) (Gspend : CalX P w K mg base CX0 1 "_law_spend" spLSpend) (Gvalue : CalX P w K mg base CX0 6 "_law_value" spLV) : ∀ r, CalX P w K mg base CX0 (8 + 2 * r) "_law_block" (spLBlock r)
  | 0 => ⟨fb, fdb, _, lblock_step FB T Gdraw Gspend (k := 7) (by decide) ⟨fs, fds, _, lstmt_step FS T Gdraw Gvalue (k := 6) (by decide) ⟨_, ⟨fb, fdb, ["_law_pool_here", "_law_scope", "_law_room", "_law_upper"], absFn, mb, FB.kp, bb⟩, fun r' h => by cases h⟩, ms, FS.kp, bs⟩, mb, FB.kp, bb⟩
  | r + 1 => ⟨fb, fdb, _, lblock_step (r := r + 1) FB T Gdraw Gspend (k := 8 + 2 * r + 1) (by omega) ⟨fs, fds, _, lstmt_step FS T Gdraw Gvalue (k := 8 + 2 * r) (by omega) ⟨_, lblock_all FS FB T ms mb bs bb Gdraw Gspend Gvalue r, fun r' h => by cases h; rfl⟩, ms, FS.kp, bs⟩, mb, FB.kp, bb⟩
end
end Nt

set_option Elab.async false
set_option linter.all false
set_option maxRecDepth 100000
set_option maxHeartbeats 2000000
namespace Nt
open PySem L2
/-- the law's own box -/
def LBox (H : Hp) (q : Addr) (ws : List Str) : Prop := ∃ (v s t : Addr) (b a : Int) (vars : List (Addr × Str × Int)) (rs rt : List (Addr × List Str)), H q = some (.tup [.int b, .int a, .ref v, .ref s, .ref t]) ∧ 1 ≤ b ∧ b ≤ 4 ∧ 1 ≤ a ∧ a ≤ 4 ∧ VarL H v vars ∧
  BlL (StW H 4) H s rs ∧ BlL (StW H 4) H t rt ∧ ws = [("buttons" : Str), numS b, ("answers" : Str), numS a] ++ (varW vars ++ ("start" : Str) :: (wsOf rs ++ ("press" : Str) :: wsOf rt))
def spLBox : Sp := fun vs H Q _ => ∃ (p l : Addr) (u : Int), vs = [.ref p, .int 12, .int 4, .int u, .int 6] ∧ PoolAt H p l ∧ ∀ (q : Addr) (ws : List Str) H', PK p l H H' → LBox H' q ws → shortW ws → ws.length ≤ 300000 → Q (.ref q) H'
def spLWords : Sp := fun vs H Q _ => ∃ (q : Addr) (ws : List Str), vs = [.ref q] ∧ LBox H q ws ∧ ws.length ≤ 300000 ∧ ∀ (l : Addr) (H' : Hp), Same H H' → H l = none → H' l = some (.lst (ws.map V.str)) → Q (.ref l) H'
theorem rCat_of {H : Hp} {a b : Addr} {xs ys : List Str} {Q : VK} (hx : H a = some (.lst (xs.map V.str))) (hy : H b = some (.lst (ys.map V.str))) (hz : xs.length + ys.length ≤ sizeLine) (h : ∀ q H2, Same H H2 → H q = none → H2 q = some (.lst ((xs ++ ys).map V.str)) → Q (.ref q) H2) : rCat (.ref a) (.ref b) H Q :=
  ⟨a, b, _, _, rfl, rfl, hx, hy, by rw [List.length_map, List.length_map]; exact hz, fun p hp => h p _ (same_new hp _) hp (by rw [upd_same, List.map_append])⟩
theorem varW_take {vars : List (Addr × Str × Int)} {i : Nat} {p : Addr × Str × Int} (h : vars[i]? = some p) : varW (vars.take (i + 1)) = varW (vars.take i) ++ [("var" : Str), p.2.1, numS p.2.2] := by rw [List.take_succ, h]; simp [varW]
theorem varW_le (vars : List (Addr × Str × Int)) (i : Nat) : (varW (vars.take i)).length ≤ (varW vars).length := by
  have e2 : varW vars = varW (vars.take i) ++ varW (vars.drop i) := by
    unfold varW
    rw [← List.flatMap_append, List.take_append_drop]
  rw [e2, List.length_append]; omega
theorem varW_len : ∀ (vars : List (Addr × Str × Int)), (varW vars).length = 3 * vars.length
  | [] => rfl
  | p :: r => by
    have : varW (p :: r) = [("var" : Str), p.2.1, numS p.2.2] ++ varW r := by simp [varW]
    rw [this, List.length_append, varW_len r]; simp; omega
theorem varW_short {vars : List (Addr × Str × Int)} (h : ∀ p ∈ vars, p.2.1.length ≤ 9 ∧ 1 ≤ p.2.2 ∧ p.2.2 ≤ 12) : shortW (varW vars) := by
  intro w hw
  unfold varW at hw
  obtain ⟨p, hp, hw⟩ := List.mem_flatMap.mp hw
  obtain ⟨h1, h2, h3⟩ := h p hp
  exact (((shortW.nil.cons (numS_len (by omega) (by omega))).cons h1).cons (by decide +kernel)) w hw
theorem vars_of {vars : List (Addr × Str × Int)} {i : Nat} {y : V} (hi : (vars.map fun p => V.ref p.1)[i]? = some y) : ∃ p, vars[i]? = some p ∧ y = .ref p.1 := by
  rw [List.getElem?_map] at hi
  cases e : vars[i]? with
  | none => rw [e] at hi; cases hi
  | some p => rw [e] at hi; exact ⟨p, rfl, (Option.some.inj hi).symm⟩
section
variable {P : Program} {w : World} {K : PySem.W.Frag} {mg : Str → Option Value} {base : Heap} {CB fB CC CR CX aK aS : Addr}
theorem sc_law_box : FnScope ["_law_pool_here", "_law_sizes", "_law_draws", "_law_uses", "_law_results", "_law_names_here", "_law_variables", "_law_scope", "_law_start", "_law_name"] ["_law_pool_here", "_law_sizes", "_law_draws", "_law_uses", "_law_results"] (defScope s_law_box) := ⟨rfl, rfl, rfl, by decide +kernel, rfl, by decide +kernel, by decide +kernel⟩
theorem ok_law_box {f : Addr} {fd : FuncData} (F : Fun K "_law_box" "_law_box" s_law_box f fd) (T : Txt P K mg CB fB CC CR CX aK aS) (Gdraw : CalX P w K mg base CX0 1 "_law_draw" spLDraw) (Gnames : CalX P w K mg base CX0 2 "_law_names" spLNames) (Gblock : CalX P w K mg base CX0 16 "_law_block" (spLBlock 4)) :
    FnOk P w K mg base CX0 17 f fd ["_law_pool_here", "_law_sizes", "_law_draws", "_law_uses", "_law_results"] spLBox := by
  refine F.ok sc_law_box (fun vs H Q E h => ?_) (fun cdv A outer s H vs Q E hr h => ?_)
  · obtain ⟨p, l, u, rfl, _⟩ := h
    rfl
  obtain ⟨p, l, u, rfl, hP, kk⟩ := h
  refine ⟨_, (pss_cons (ps_set (i := 5) sc_law_box.nd rfl (Or.inl rfl) (pe_cx Gnames hr pass0 (pa_cons (pv 0) (pa_cons (pe_cx Gdraw hr pass0 (pa_cons (pv 0) (pa_cons pe_int pa_nil))) pa_nil))))
 (pss_cons (ps_if (pt_cmpR op_lt (pv 1) pe_int (nomark _))
 (pss_one (ps_set (i := 5) sc_law_box.nd rfl (Or.inl rfl) (pe_slice sl_list (pv 5) po_none (po_some pe_int))))
 pss_nil)
 (pss_cons (ps_setLc (i := 6) (own := [("_law_name", 9)]) (g := gName 9) rfl sc_law_box.nd rfl rfl (sw_true rfl rfl rfl (by decide +kernel)) (pi_list (pv 5)) (blkOk_by (own := [("_law_name", 9)]) (N := ["_law_pool_here", "_law_sizes", "_law_draws", "_law_uses", "_law_results", "_law_names_here", "_law_variables", "_law_scope", "_law_start", "_law_name"]) (sc := defScope s_law_box) (by decide +kernel)) (fun _ _ _ _ _ => pg_name (i := 9) sc_law_box.nd rfl (Or.inl rfl)) (fun _ _ _ _ _ => pts_nil) (fun _ _ _ _ _ => (pe_tup (pa_cons (pv 9) (pa_cons (pe_op op_add pe_int (pe_cx Gdraw hr pass0 (pa_cons (pv 0) (pa_cons (pv 1) pa_nil)))) pa_nil)))))
 (pss_cons (ps_set (i := 7) sc_law_box.nd rfl (Or.inl rfl) (pe_disp (pps_cons pe_str (pv 5) (pps_cons pe_str (pe_lst pa_nil) (pps_cons pe_str (pv 2) (pps_cons pe_str (pv 3) (pps_cons pe_str (pv 4) pps_nil))))) (by rfl) (by rfl) (fun z => by cases z) (by decide)))
 (pss_cons (ps_set (i := 8) sc_law_box.nd rfl (Or.inl rfl) (pe_cx Gblock hr pass0 (pa_cons (pv 0) (pa_cons (pv 7) (pa_cons pe_int (pa_cons pe_int pa_nil))))))
 (pss_cons (ps_dput (hu_of hr) (pv 7) pe_str (pe_lst (pa_cons pe_str pa_nil)) rfl)
 (pss_one (ps_ret (pe_tup (pa_cons (pe_op op_add pe_int (pe_cx Gdraw hr pass0 (pa_cons (pv 0) (pa_cons pe_int pa_nil)))) (pa_cons (pe_op op_add pe_int (pe_cx Gdraw hr pass0 (pa_cons (pv 0) (pa_cons pe_int pa_nil)))) (pa_cons (pe_callTy call_tuple_of (by rfl) T.tuple_ (by decide +kernel) (pa_cons (pv 6) pa_nil)) (pa_cons (pv 8) (pa_cons (pe_cx Gblock hr pass0 (pa_cons (pv 0) (pa_cons (pv 7) (pa_cons pe_int (pa_cons pe_int pa_nil))))) pa_nil)))))))))))))), ?_⟩
  refine ⟨_, rfl, _, rfl, p, l, 5, rfl, hP, by decide, by decide, fun c H1 c0 c1 k1 => ?_⟩
  obtain ⟨c, rfl⟩ : ∃ j : Nat, c = (j : Int) := ⟨c.toNat, by omega⟩
  refine ⟨p, l, c, rfl, k1.pool, by omega, fun nl nm H2 nl0 k2 e2 hlen sh => ?_⟩
  have k2 := k1.trans k2
  refine ⟨_, rfl, _, _, rfl, rfl, _, rfl, ?_⟩
  rw [decide_eq_false (show ¬ (12 : Int) < 12 by decide)]
  refine iteF ⟨_, rfl, nl, rfl, ⟨_, SqL.of e2⟩, fun D hD => ?_⟩
  have hD0 : D ≠ p := (PK.ne k2.pool hD).1
  have nlD : nl ≠ D := ne_of_none e2 hD
  refine lc_it (walk_list (xs := nm.map V.str)) (fun i H' => PK p l H2 H' ∧ ∃ vars : List (Addr × Str × Int), H' D = some (.lst (vars.map fun q => V.ref q.1)) ∧ vars.length = i ∧ ∀ q ∈ vars, H' q.1 = some (.tup [.str q.2.1, .int q.2.2]) ∧ 1 ≤ q.2.2 ∧ q.2.2 ≤ 12 ∧ q.2.1.length ≤ 9)
    ⟨PK.own (PK.refl k2.pool) k2.pool hD, [], upd_same, rfl, by simp⟩ (fun i H' _ h => SqL.of (h.1.strs k2.pool e2)) ?_ ?_
  · rintro i x H3 H3' hi ⟨k3, vars, hv, hvl, hvs⟩ ⟨rfl, hx⟩
    obtain ⟨y, hy, rfl⟩ := strs_iter hx
    refine ⟨rfl, _, rfl, _, rfl, _, rfl, p, l, 12, rfl, k3.pool, by decide, by decide, fun r H4 r0 r1 k4 => ⟨_, _, rfl, rfl, by show 2 ≤ sizeLine; decide, fun a ha => ?_⟩⟩
    have hv4 : H4 D = some (.lst (vars.map fun q => V.ref q.1)) := k4.kp _ _ hv (by simpa using hD0)
    have s5 := same_new ha (.tup [.str y, .int (1 + r)])
    refine ⟨_, s5 _ _ hv4, ?_, PK.own ((k3.trans k4).sm s5) k2.pool hD, vars ++ [(a, y, 1 + r)], by rw [upd_same]; simp, by rw [List.length_append, hvl]; rfl, fun q hq => ?_⟩
    · rw [List.length_map, hvl, sizeLine_eq]; rw [List.length_map] at hi; omega
    · have tk : Tk H4 (upd (upd H4 a (.tup [.str y, .int (1 + r)])) D (.lst (vars.map (fun q => V.ref q.1) ++ [.ref a]))) := (Same.tk s5).trans (Tk.upd (s5 _ _ hv4) (by intro xs z; cases z))
      have hq' : q ∈ vars ∨ q = (a, y, 1 + r) := by simpa using hq
      rcases hq' with hq' | rfl
      · obtain ⟨h1, h2⟩ := hvs q hq'
        exact ⟨tk _ _ (k4.tk k3.pool _ _ h1), h2⟩
      · exact ⟨by rw [upd_ne (ne_of_none hv4 ha).symm, upd_same], by show 1 ≤ 1 + r; omega, by show 1 + r ≤ 12; omega, sh y hy⟩
  rintro H3 ⟨k3, vars, hv, hvl, hvs⟩
  rw [List.length_map] at hvl
  have e3 := k3.strs k2.pool e2
  have k3 := k2.trans k3
  clear e2 hD k2
  -- the scope
  refine fun d hd => ⟨_, rfl, Nat.zero_le _, fun e he => ⟨_, rfl, _, rfl, _, rfl, ?_⟩⟩
  have g1 : (upd H3 d (.dK [])) d = some (.dK []) := upd_same
  have hde := ne_of_none g1 he
  refine ⟨same_new he _ _ _ g1, lsd nl e 4 u, rfl, by show 5 ≤ 15; decide, ?_⟩
  rw [lsd_made]
  have s4 : Same H3 (upd (upd (upd H3 d (.dK [])) e (.lst [])) d (.dK (lsd nl e 4 u))) := fun b o z => by
    have hb := ne_of_none z hd
    rw [upd_ne hb, upd_ne (ne_of_none (same_new hd _ _ _ z) he), upd_ne hb]; exact z
  have q1 : (upd (upd (upd H3 d (.dK [])) e (.lst [])) d (.dK (lsd nl e 4 u))) d = some (.dK (lsd nl e 4 u)) := upd_same
  have q2 : (upd (upd (upd H3 d (.dK [])) e (.lst [])) d (.dK (lsd nl e 4 u))) e = some (.lst (([] : List Str).map V.str)) := by rw [upd_ne hde.symm]; exact upd_same
  generalize upd (upd (upd H3 d (.dK [])) e (.lst [])) d (.dK (lsd nl e 4 u)) = H4 at s4 q1 q2 ⊢
  have hv4 := s4 _ _ hv
  have hvs4 : ∀ q ∈ vars, H4 q.1 = some (.tup [.str q.2.1, .int q.2.2]) := fun q hq => s4 _ _ (hvs q hq).1
  have L4 : LS p l d nl e nm [] H4 := ⟨k3.pool.same s4, ⟨4, u, q1⟩, s4 _ _ e3, q2⟩
  have kd : ∀ {H5 : Hp}, Keep [p, d] H4 H5 → PoolAt H5 p l → PK p l H H5 := fun {H5} kp hp => ⟨fun b o z nb => kp b o (s4 _ _ (k3.kp b o z nb)) (by
    have := ne_of_none (k3.kp b o z nb) hd
    simp; exact ⟨by simpa using nb, this⟩), hp⟩
  have Dd : D ≠ d := ne_of_none hv hd
  clear he hd g1 q1 q2 s4 hv e3
  refine ⟨_, rfl, _, rfl, p, l, d, nl, e, nm, [], 3, rfl, L4, sh, shortW.nil, by omega, by decide, by decide, fun sa rs H5 d5 b5 s5 l5 => ?_⟩
  have hv5 := d5.lst L4 hv4 hD0
  have tk5 := d5.tk L4
  -- press
  refine ⟨by show 1 ≤ sizeLine; decide, fun e2 he2 => ?_⟩
  have s6 := same_new he2 (.lst [.str "press"])
  have d6 := d5.sm s6
  obtain ⟨dr, us, hd6⟩ := d6.ls.dic
  refine ⟨_, rfl, d, _, rfl, DPut.k (k := .inr "extra") hd6 (lsd_lt _ _ _ _), ?_⟩
  rw [lsd_pextra]
  have hed : e2 ≠ d := by
    obtain ⟨_, _, z⟩ := d5.ls.dic
    exact (ne_of_none z he2).symm
  have L7 : LS p l d nl e2 nm ["press"] (upd (upd H5 e2 (.lst [.str "press"])) d (.dK (lsd nl e2 dr us))) := by
    have d7 := PD.put d6.ls dr us
    refine ⟨?_, ⟨dr, us, upd_same⟩, by rw [upd_ne d6.ls.nd.1]; exact d6.ls.hn, by rw [upd_ne hed]; exact upd_same⟩
    obtain ⟨xs, i1, i2, i3, i4, i5, h1, h2, r⟩ := d6.ls.pool.ex
    exact ⟨xs, i1, i2, i3, i4, i5, by rw [upd_ne d6.ls.dp.symm]; exact h1, by rw [upd_ne d6.ls.ld]; exact h2, r⟩
  have kp7 : Keep [p, d] H4 (upd (upd H5 e2 (.lst [.str "press"])) d (.dK (lsd nl e2 dr us))) := d6.kp.trans (Keep.upd (by simp))
  have tk7 : Tk H5 (upd (upd H5 e2 (.lst [.str "press"])) d (.dK (lsd nl e2 dr us))) := (Same.tk s6).trans (Tk.upd hd6 (by intro xs z; cases z))
  have hv7 : (upd (upd H5 e2 (.lst [.str "press"])) d (.dK (lsd nl e2 dr us))) D = some (.lst (vars.map fun q => V.ref q.1)) := by rw [upd_ne Dd]; exact s6 _ _ hv5
  generalize upd (upd H5 e2 (.lst [.str "press"])) d (.dK (lsd nl e2 dr us)) = H7 at L7 kp7 tk7 hv7 ⊢
  clear hd6 he2 s6 d6 d5
  refine ⟨_, rfl, p, l, 4, rfl, L7.pool, by decide, by decide, fun x H8 x0 x1 k8 => ⟨_, _, rfl, rfl, _, rfl, p, l, 4, rfl, k8.pool, by decide, by decide, fun y H9 y0 y1 k9 => ⟨_, _, rfl, rfl, _, rfl, D, _, rfl, .inl ⟨SqL.of (k9.kp _ _ (k8.kp _ _ hv7 (by simpa using hD0)) (by simpa using hD0)), fun vt hvt => ?_⟩⟩⟩⟩
  have k89 := k8.trans k9
  have s10 := same_new hvt (.tup (vars.map fun q => V.ref q.1))
  have d10 := (PD.pk L7 k89).sm s10
  refine ⟨_, rfl, _, rfl, _, rfl, p, l, d, nl, e2, nm, ["press"], 6, rfl, d10.ls, sh, shortW.nil.cons (by decide +kernel), by omega, by decide, by decide, fun ba rt H11 d11 b11 s11 l11 => ⟨by show 5 ≤ sizeLine; decide, fun q hq => ?_⟩⟩
  have tkA : Tk H5 H11 := tk7.trans ((d10.tk L7).trans (d11.tk d10.ls))
  have s12 := same_new hq (.tup [.int (1 + x), .int (1 + y), .ref vt, .ref sa, .ref ba])
  have vt11 : H11 vt = some (.tup (vars.map fun q => V.ref q.1)) := d11.tk d10.ls _ _ upd_same
  refine kk q _ _ ((kd (kp7.trans (d10.kp.trans d11.kp)) d11.ls.pool).sm s12) ⟨vt, sa, ba, 1 + x, 1 + y, vars, rs, rt, upd_same, by omega, by omega, by omega, by omega, ⟨s12 _ _ vt11, fun q hq => ⟨s12 _ _ (tkA _ _ (tk5 _ _ (hvs4 q hq))), (hvs q hq).2.1, (hvs q hq).2.2.1⟩⟩, (b5.keep tkA).keep (Same.tk s12), b11.keep (Same.tk s12), rfl⟩ ?_ ?_
  · refine shortW.app ?_ ((varW_short fun q hq => ⟨(hvs q hq).2.2.2, (hvs q hq).2.1, (hvs q hq).2.2.1⟩).app (shortW.cons (by decide +kernel) (s5.app (s11.cons (by decide +kernel)))))
    exact (((shortW.nil.cons (numS_len (by omega) (by omega))).cons (by decide +kernel)).cons (numS_len (by omega) (by omega))).cons (by decide +kernel)
  · simp only [List.length_append, List.length_cons, List.length_nil, varW_len]
    have : Sz 4 = 31240 := by decide
    rw [this] at l5 l11
    omega
theorem sc_law_block_words : FnScope ["_law_block_here", "_law_words_here", "_law_due"] ["_law_block_here"] (defScope s_law_block_words) := ⟨rfl, rfl, rfl, by decide +kernel, rfl, by decide +kernel, by decide +kernel⟩
theorem lbw_step {f : Addr} {fd : FuncData} (F : Fun K "_law_block_words" "_law_block_words" s_law_block_words f fd) (T : Txt P K mg CB fB CC CR CX aK aS) {d : Nat} (Gvalue_words : CalX P w K mg base CX0 6 "_law_value_words" (spEW 5))
    (Gany : ∃ sp, CalX P w K mg base CX0 (d + 6) "_law_block_words" sp ∧ ∀ d', d = d' + 1 → sp = spBW d') : FnOk P w K mg base CX0 (d + 7) f fd ["_law_block_here"] (spBW d) := by
  obtain ⟨spB, Gblock_words, hsp⟩ := Gany
  refine F.ok sc_law_block_words (fun vs H Q E h => ?_) (fun cdv A outer s H vs Q E hr h => ?_)
  · obtain ⟨a, rs, rfl, _⟩ := h
    rfl
  obtain ⟨a, rs, rfl, hb, hz, k⟩ := h
  refine ⟨_, (pss_cons (ps_set (i := 1) sc_law_block_words.nd rfl (Or.inl rfl) (pe_lst pa_nil))
 (pss_cons (ps_for PassesOwn.never rfl (pi_tup (pv 0)) (pg_name (i := 2) sc_law_block_words.nd rfl (Or.inl rfl))
 (pss_one (ps_if (pt_cmpR op_eq (pe_ix ix_tup (pv 2) pe_int (fun _ _ => rfl)) pe_str (nomark _))
 (pss_cons (ps_set (i := 1) sc_law_block_words.nd rfl (Or.inl rfl) (pe_op op_cat (pe_op op_cat (pe_op op_cat (pv 1) (pe_lst (pa_cons pe_str pa_nil))) (pe_cx Gvalue_words hr pass0 (pa_cons (pe_ix ix_tup (pv 2) pe_int (fun _ _ => rfl)) pa_nil))) (pe_cx Gblock_words hr pass0 (pa_cons (pe_ix ix_tup (pv 2) pe_int (fun _ _ => rfl)) pa_nil))))
 (pss_cons (ps_if (pt_cmpR op_gt (pe_callB call_len_seq (by rfl) T.len PySem.boot_len (pa_cons (pe_ix ix_tup (pv 2) pe_int (fun _ _ => rfl)) pa_nil)) pe_int (nomark _))
 (pss_one (ps_set (i := 1) sc_law_block_words.nd rfl (Or.inl rfl) (pe_op op_cat (pe_op op_cat (pv 1) (pe_lst (pa_cons pe_str pa_nil))) (pe_cx Gblock_words hr pass0 (pa_cons (pe_ix ix_tup (pv 2) pe_int (fun _ _ => rfl)) pa_nil)))))
 pss_nil)
 (pss_one (ps_expr (pe_bm PySem.F.plainAttrs_list PySem.F.slot_list_append PySem.F.type_list_append mt_append (pv 1) (pa_cons pe_str pa_nil))))))
 (pss_one (ps_if (pt_cmpR op_eq (pe_ix ix_tup (pv 2) pe_int (fun _ _ => rfl)) pe_str (nomark _))
 (pss_one (ps_set (i := 1) sc_law_block_words.nd rfl (Or.inl rfl) (pe_op op_cat (pv 1) (pe_lst (pa_cons pe_str (pa_cons (pe_ix ix_tup (pv 2) pe_int (fun _ _ => rfl)) (pa_cons (pe_callTy call_str_int (by rfl) T.str_ (by decide +kernel) (pa_cons (pe_ix ix_tup (pv 2) pe_int (fun _ _ => rfl)) pa_nil)) pa_nil)))))))
 (pss_one (ps_set (i := 1) sc_law_block_words.nd rfl (Or.inl rfl) (pe_op op_cat (pe_op op_cat (pv 1) (pe_callTy call_list_of (by rfl) T.list_ (by decide +kernel) (pa_cons (pe_slice sl_tup (pv 2) po_none (po_some pe_neg1)) pa_nil))) (pe_cx Gvalue_words hr pass0 (pa_cons (pe_ix ix_tup (pv 2) pe_neg1 (fun _ _ => rfl)) pa_nil))))))))))
 (pss_one (ps_ret (pv 1))))), ?_⟩
  refine ⟨Nat.zero_le _, fun w0 hw0 => ?_⟩
  refine ⟨_, rfl, a, rfl, ⟨_, SqT.of (same_new hw0 _ _ _ hb.1)⟩, for_tup (xs := rs.map fun p => V.ref p.1) (fun i σ H' => ∃ wl v, σ = [some (.ref a), some (.ref wl), v] ∧ Same H H' ∧ H wl = none ∧ H' wl = some (.lst ((wsOf (rs.take i)).map V.str))) ⟨w0, none, rfl, same_new hw0 _, hw0, upd_same⟩
    (fun i σ H' _ ⟨_, _, _, s1, _⟩ => SqT.of (s1 _ _ hb.1)) ?_ ?_⟩
  · rintro i x σ H' hi ⟨wl, v, rfl, s1, hwl, hw⟩
    obtain ⟨p, hp, rfl⟩ := rs_of hi
    have st := (hb.2 p (List.mem_of_getElem? hp)).keep (Same.tk s1)
    have tot := wsOf_le hp
    have fin : ∀ (v : V) (wl : Addr) (H2 : Hp), Same H H2 → H wl = none → H2 wl = some (.lst ((wsOf (rs.take i) ++ p.2).map V.str)) → ∃ wl' v', [some (V.ref a), some (V.ref wl), some v] = [some (.ref a), some (.ref wl'), v'] ∧ Same H H2 ∧ H wl' = none ∧ H2 wl' = some (.lst ((wsOf (rs.take (i + 1))).map V.str)) := fun v wl H2 s2 z h2 => ⟨wl, some v, rfl, s2, z, by rw [wsOf_take hp]; exact h2⟩
    obtain ⟨pa, pw⟩ := p
    have st2 : PlW H' pa pw ∨ ∃ d', d = d' + 1 ∧ ∃ (b t o : Addr) (we : List Str) (rt ro : List (Addr × List Str)), H' pa = some (.tup [.str "if", .ref b, .ref t, .ref o]) ∧ ExW H' 5 b we ∧ BlL (StW H' d') H' t rt ∧ BlL (StW H' d') H' o ro ∧
      pw = ("if" : Str) :: (we ++ wsOf rt ++ elseW ro ++ [("end" : Str)]) := by
      cases d with
      | zero => exact .inl st
      | succ d' =>
        rcases st with st | st
        · exact .inl st
        · exact .inr ⟨d', rfl, st⟩
    generalize wsOf (rs.take i) = w1 at hw tot fin
    have hz' : w1.length + pw.length ≤ sizeLine := Nat.le_trans tot hz
    rcases st2 with (⟨kw, x, b, we, hk, h, ex, rfl⟩ | ⟨b, we, h, ex, rfl⟩ | ⟨x, n, h, n1, n6, rfl⟩) | ⟨d', rfl, b, t, o, we, rt, ro, h, ex, bt, bo, rfl⟩
    · -- set, use
      simp only [List.length_cons] at hz'
      refine ⟨_, rfl, pa, _, _, _, rfl, rfl, SqT.of h, rfl, rfl, _, rfl, ?_⟩
      have k1 : decide (V.str kw = V.str ("if" : Str)) = false := decide_eq_false fun z => by rcases hk with rfl | rfl <;> exact absurd (V.str.inj z) (by decide +kernel)
      have k2 : decide (V.str kw = V.str ("draw" : Str)) = false := decide_eq_false fun z => by rcases hk with rfl | rfl <;> exact absurd (V.str.inj z) (by decide +kernel)
      rw [k1]
      refine iteF ⟨_, rfl, pa, _, _, _, rfl, rfl, SqT.of h, rfl, rfl, _, rfl, ?_⟩
      rw [k2]
      refine iteF ⟨_, rfl, _, rfl, _, rfl, _, rfl, pa, _, rfl, SqT.of h, by show ¬ (HT.sIx 3 0 none = 0 ∧ HT.sIx 3 3 (some (-1)) = 3); decide, fun q hq => ?_⟩
      have hq2 : (upd H' q (.tup (cutV [V.str kw, V.str x, V.ref b] none (some (-1))))) q = some (.tup ([kw, x].map V.str)) := upd_same
      have s2 := same_new hq (.tup (cutV [V.str kw, V.str x, V.ref b] none (some (-1))))
      generalize upd H' q (.tup (cutV [V.str kw, V.str x, V.ref b] none (some (-1)))) = H2 at hq2 s2 ⊢
      refine ⟨q, _, rfl, .inr (SqT.of hq2), fun l2 hl2 => ?_⟩
      have s3 := s2.trans (same_new hl2 (.lst ([kw, x].map V.str)))
      refine rCat_of (xs := w1) (ys := [kw, x]) (s3 _ _ hw) upd_same (by simp only [List.length_cons, List.length_nil]; omega) (fun l3 H3 s4 n3 h3 => ?_)
      have s4 := s3.trans s4
      refine ⟨_, rfl, _, rfl, pa, _, _, _, rfl, rfl, SqT.of (s4 _ _ h), rfl, b, we, rfl, by decide, ex.keep (Same.tk s4), fun l4 H4 s5 n4 h4 => ?_⟩
      refine rCat_of (xs := w1 ++ [kw, x]) (ys := we) (s5 _ _ h3) h4 (by simp only [List.length_append, List.length_cons, List.length_nil]; omega) (fun l5 H5 s6 n5 h5 => ?_)
      exact fin _ l5 _ (s1.trans (s4.trans (s5.trans s6))) (s1.free (s4.free (s5.free n5))) (by rw [h5]; simp)
    · -- say
      simp only [List.length_cons] at hz'
      refine ⟨_, rfl, pa, _, _, _, rfl, rfl, SqT.of h, rfl, rfl, _, rfl, ?_⟩
      have k1 : decide (V.str "say" = V.str ("if" : Str)) = false := decide_eq_false fun z => absurd (V.str.inj z) (by decide +kernel)
      have k2 : decide (V.str "say" = V.str ("draw" : Str)) = false := decide_eq_false fun z => absurd (V.str.inj z) (by decide +kernel)
      rw [k1]
      refine iteF ⟨_, rfl, pa, _, _, _, rfl, rfl, SqT.of h, rfl, rfl, _, rfl, ?_⟩
      rw [k2]
      refine iteF ⟨_, rfl, _, rfl, _, rfl, _, rfl, pa, _, rfl, SqT.of h, by show ¬ (HT.sIx 2 0 none = 0 ∧ HT.sIx 2 2 (some (-1)) = 2); decide, fun q hq => ?_⟩
      have hq2 : (upd H' q (.tup (cutV [V.str "say", V.ref b] none (some (-1))))) q = some (.tup ([("say" : Str)].map V.str)) := upd_same
      have s2 := same_new hq (.tup (cutV [V.str "say", V.ref b] none (some (-1))))
      generalize upd H' q (.tup (cutV [V.str "say", V.ref b] none (some (-1)))) = H2 at hq2 s2 ⊢
      refine ⟨q, _, rfl, .inr (SqT.of hq2), fun l2 hl2 => ?_⟩
      have s3 := s2.trans (same_new hl2 (.lst ([("say" : Str)].map V.str)))
      refine rCat_of (xs := w1) (ys := [("say" : Str)]) (s3 _ _ hw) upd_same (by simp only [List.length_cons, List.length_nil]; omega) (fun l3 H3 s4 n3 h3 => ?_)
      have s4 := s3.trans s4
      refine ⟨_, rfl, _, rfl, pa, _, _, _, rfl, rfl, SqT.of (s4 _ _ h), rfl, b, we, rfl, by decide, ex.keep (Same.tk s4), fun l4 H4 s5 n4 h4 => ?_⟩
      refine rCat_of (xs := w1 ++ [("say" : Str)]) (ys := we) (s5 _ _ h3) h4 (by simp only [List.length_append, List.length_cons, List.length_nil]; omega) (fun l5 H5 s6 n5 h5 => ?_)
      exact fin _ l5 _ (s1.trans (s4.trans (s5.trans s6))) (s1.free (s4.free (s5.free n5))) (by rw [h5]; simp)
    · -- draw
      simp only [List.length_cons, List.length_nil] at hz'
      refine ⟨_, rfl, pa, _, _, _, rfl, rfl, SqT.of h, rfl, rfl, _, rfl, ?_⟩
      have k1 : decide (V.str "draw" = V.str ("if" : Str)) = false := decide_eq_false fun z => absurd (V.str.inj z) (by decide +kernel)
      rw [k1]
      refine iteF ⟨_, rfl, pa, _, _, _, rfl, rfl, SqT.of h, rfl, rfl, _, rfl, ?_⟩
      rw [decide_eq_true rfl]
      refine iteT ⟨_, rfl, _, rfl, pa, _, _, _, rfl, rfl, SqT.of h, rfl, _, rfl, pa, _, _, _, rfl, rfl, SqT.of h, rfl, n, rfl, lg (by omega) (by omega), by show 3 ≤ sizeLine; decide, fun l2 hl2 => ?_⟩
      have s2 := same_new hl2 (.lst ([("draw" : Str), x, numS n].map V.str))
      refine rCat_of (xs := w1) (ys := [("draw" : Str), x, numS n]) (s2 _ _ hw) upd_same (by simp only [List.length_cons, List.length_nil]; omega) (fun l3 H3 s4 n3 h3 => ?_)
      exact fin _ l3 _ (s1.trans (s2.trans s4)) (s1.free (s2.free n3)) h3
    · -- if
      have e := hsp d' rfl
      subst e
      simp only [List.length_cons, List.length_append, List.length_nil] at hz'
      refine ⟨_, rfl, pa, _, _, _, rfl, rfl, SqT.of h, rfl, rfl, _, rfl, ?_⟩
      rw [decide_eq_true rfl]
      refine iteT ⟨_, rfl, by show 1 ≤ sizeLine; decide, fun l1 h1 => ?_⟩
      have s2 := same_new h1 (.lst ([("if" : Str)].map V.str))
      refine rCat_of (xs := w1) (ys := [("if" : Str)]) (s2 _ _ hw) upd_same (by simp only [List.length_cons, List.length_nil]; omega) (fun l2 H2 s3 n2 h2 => ?_)
      have s3 := s2.trans s3
      refine ⟨_, rfl, pa, _, _, _, rfl, rfl, SqT.of (s3 _ _ h), rfl, b, we, rfl, by decide, ex.keep (Same.tk s3), fun l3 H3 s4 n3 h3 => ?_⟩
      refine rCat_of (xs := w1 ++ [("if" : Str)]) (ys := we) (s4 _ _ h2) h3 (by simp only [List.length_append, List.length_cons, List.length_nil]; omega) (fun l4 H4 s5 n4 h4 => ?_)
      have s5 := s3.trans (s4.trans s5)
      refine ⟨_, rfl, pa, _, _, _, rfl, rfl, SqT.of (s5 _ _ h), rfl, t, rt, rfl, bt.keep (Same.tk s5), by omega, fun l5 H5 s6 n5 h5 => ?_⟩
      refine rCat_of (xs := w1 ++ [("if" : Str)] ++ we) (ys := wsOf rt) (s6 _ _ h4) h5 (by simp only [List.length_append, List.length_cons, List.length_nil]; omega) (fun l6 H6 s7 n6 h6 => ?_)
      have n6 : H' l6 = none := s5.free (s6.free n6)
      have s7 := s5.trans (s6.trans s7)
      have bo7 := bo.keep (Same.tk s7)
      have fin2 : ∀ (l8 : Addr) (H8 : Hp), H' l8 = none → Same H' H8 → H8 l8 = some (.lst ((w1 ++ [("if" : Str)] ++ we ++ wsOf rt ++ elseW ro).map V.str)) → Same H (upd H8 l8 (.lst ((w1 ++ [("if" : Str)] ++ we ++ wsOf rt ++ elseW ro).map V.str ++ [.str "end"]))) ∧ H l8 = none ∧ (upd H8 l8 (.lst ((w1 ++ [("if" : Str)] ++ we ++ wsOf rt ++ elseW ro).map V.str ++ [.str "end"]))) l8 = some (.lst ((w1 ++ ("if" : Str) :: (we ++ wsOf rt ++ elseW ro ++ [("end" : Str)])).map V.str)) := fun l8 H8 n8 s8 h8 => by
        have n0 := s1.free n8
        refine ⟨fun b' o' q => ?_, n0, ?_⟩
        · rw [upd_ne (ne_of_none q n0)]; exact s8 _ _ (s1 _ _ q)
        · rw [upd_same]; simp
      refine ⟨_, rfl, pa, _, _, _, rfl, rfl, SqT.of (s7 _ _ h), rfl, o, _, rfl, .inr (SqT.of bo7.1), _, _, rfl, rfl, _, rfl, ?_⟩
      rw [List.length_map]
      by_cases hro : ro = []
      · rw [decide_eq_false (show ¬ (0 : Int) < (ro.length : Int) by rw [hro]; decide)]
        have h6 : H6 l6 = some (.lst ((w1 ++ [("if" : Str)] ++ we ++ wsOf rt ++ elseW ro).map V.str)) := by rw [h6]; simp [elseW, hro]
        refine iteF ⟨_, rfl, .inl ⟨rfl, _, SqL.of h6⟩, l6, _, _, rfl, rfl, h6, ?_, ?_⟩
        · simp only [List.length_append, List.length_cons, List.length_map, List.length_nil]; omega
        · obtain ⟨f1, f2, f3⟩ := fin2 l6 H6 n6 s7 h6
          exact fin _ l6 _ f1 f2 f3
      · have hl : 0 < ro.length := List.length_pos_iff.mpr hro
        have el : elseW ro = ("else" : Str) :: wsOf ro := by unfold elseW; rw [if_neg hro]
        have ell : (elseW ro).length = (wsOf ro).length + 1 := by rw [el]; rfl
        rw [decide_eq_true (show (0 : Int) < (ro.length : Int) by omega)]
        refine iteT ⟨_, rfl, by show 1 ≤ sizeLine; decide, fun l7 h7 => ?_⟩
        have s8 := same_new h7 (.lst ([("else" : Str)].map V.str))
        refine rCat_of (xs := w1 ++ [("if" : Str)] ++ we ++ wsOf rt) (ys := [("else" : Str)]) (s8 _ _ h6) upd_same (by simp only [List.length_append, List.length_cons, List.length_nil]; omega) (fun l9 H9 s9 n9 h9 => ?_)
        have s9 := s7.trans (s8.trans s9)
        refine ⟨_, rfl, pa, _, _, _, rfl, rfl, SqT.of (s9 _ _ h), rfl, o, ro, rfl, bo.keep (Same.tk s9), by omega, fun lA HA sA nA hA => ?_⟩
        refine rCat_of (xs := w1 ++ [("if" : Str)] ++ we ++ wsOf rt ++ [("else" : Str)]) (ys := wsOf ro) (sA _ _ h9) hA (by simp only [List.length_append, List.length_cons, List.length_nil]; omega) (fun lB HB sB nB hB => ?_)
        have nB : H' lB = none := s9.free (sA.free nB)
        have sB := s9.trans (sA.trans sB)
        have hB : HB lB = some (.lst ((w1 ++ [("if" : Str)] ++ we ++ wsOf rt ++ elseW ro).map V.str)) := by rw [hB, el]; simp
        refine ⟨_, rfl, .inl ⟨rfl, _, SqL.of hB⟩, lB, _, _, rfl, rfl, hB, ?_, ?_⟩
        · simp only [List.length_append, List.length_cons, List.length_map, List.length_nil]; omega
        · obtain ⟨f1, f2, f3⟩ := fin2 lB HB nB sB hB
          exact fin _ lB _ f1 f2 f3
  · rintro σ H' ⟨wl, v, rfl, s1, hwl, hw⟩
    refine ⟨_, rfl, k wl H' s1 hwl ?_⟩
    rw [List.length_map, List.take_length] at hw
    exact hw
theorem lbw_all {f : Addr} {fd : FuncData} (F : Fun K "_law_block_words" "_law_block_words" s_law_block_words f fd) (T : Txt P K mg CB fB CC CR CX aK aS) (Gvalue_words : CalX P w K mg base CX0 6 "_law_value_words" (spEW 5)) (m : mg "_law_block_words" = some (.ref f)) (bi : Binds K fd ["_law_block_here"] []) :
    ∀ d, CalX P w K mg base CX0 (d + 7) "_law_block_words" (spBW d)
  | 0 => ⟨f, fd, _, lbw_step F T Gvalue_words ⟨fun _ _ _ _ => False, ⟨f, fd, ["_law_block_here"], absFn, m, F.kp, bi⟩, fun d' h => by cases h⟩, m, F.kp, bi⟩
  | d + 1 => ⟨f, fd, _, lbw_step F T Gvalue_words ⟨spBW d, lbw_all F T Gvalue_words m bi d, fun d' h => by cases h; rfl⟩, m, F.kp, bi⟩
theorem sc_law_words : FnScope ["_law_box_here", "_law_words_here", "_law_name", "_law_size"] ["_law_box_here"] (defScope s_law_words) := ⟨rfl, rfl, rfl, by decide +kernel, rfl, by decide +kernel, by decide +kernel⟩
theorem ok_law_words {f : Addr} {fd : FuncData} (F : Fun K "_law_words" "_law_words" s_law_words f fd) (T : Txt P K mg CB fB CC CR CX aK aS) (Gblock_words : CalX P w K mg base CX0 11 "_law_block_words" (spBW 4)) : FnOk P w K mg base CX0 12 f fd ["_law_box_here"] spLWords := by
  refine F.ok sc_law_words (fun vs H Q E h => ?_) (fun cdv A outer s H vs Q E hr h => ?_)
  · obtain ⟨x, ws, rfl, _⟩ := h
    rfl
  obtain ⟨x, ws, rfl, ⟨v, s0, t, b, a, vars, rs, rt, hx, b1, b4, a1, a4, ⟨hv, hvars⟩, bs, bt, ew⟩, hz, k⟩ := h
  refine ⟨_, (pss_cons (ps_set (i := 1) sc_law_words.nd rfl (Or.inl rfl) (pe_lst (pa_cons pe_str (pa_cons (pe_callTy call_str_int (by rfl) T.str_ (by decide +kernel) (pa_cons (pe_ix ix_tup (pv 0) pe_int (fun _ _ => rfl)) pa_nil)) (pa_cons pe_str (pa_cons (pe_callTy call_str_int (by rfl) T.str_ (by decide +kernel) (pa_cons (pe_ix ix_tup (pv 0) pe_int (fun _ _ => rfl)) pa_nil)) pa_nil))))))
 (pss_cons (ps_for PassesOwn.never rfl (pi_tup (pe_ix ix_tup (pv 0) pe_int (fun _ _ => rfl))) (pg_tup rfl (pgs_cons (pg_name (i := 2) sc_law_words.nd rfl (Or.inl rfl)) (pgs_cons (pg_name (i := 3) sc_law_words.nd rfl (Or.inl rfl)) pgs_nil)))
 (pss_one (ps_set (i := 1) sc_law_words.nd rfl (Or.inl rfl) (pe_op op_cat (pv 1) (pe_lst (pa_cons pe_str (pa_cons (pv 2) (pa_cons (pe_callTy call_str_int (by rfl) T.str_ (by decide +kernel) (pa_cons (pv 3) pa_nil)) pa_nil))))))))
 (pss_one (ps_ret (pe_op op_cat (pe_op op_cat (pe_op op_cat (pe_op op_cat (pv 1) (pe_lst (pa_cons pe_str pa_nil))) (pe_cx Gblock_words hr pass0 (pa_cons (pe_ix ix_tup (pv 0) pe_int (fun _ _ => rfl)) pa_nil))) (pe_lst (pa_cons pe_str pa_nil))) (pe_cx Gblock_words hr pass0 (pa_cons (pe_ix ix_tup (pv 0) pe_int (fun _ _ => rfl)) pa_nil))))))), ?_⟩
  have tot : ws.length ≤ sizeLine := by rw [sizeLine_eq]; omega
  have tot2 : 4 + (varW vars).length + 1 + (wsOf rs).length + 1 + (wsOf rt).length = ws.length := by
    rw [ew]; simp only [List.length_cons, List.length_append, List.length_nil]; omega
  refine ⟨_, rfl, x, _, _, _, rfl, rfl, SqT.of hx, rfl, b, rfl, lg (by omega) (by omega), _, rfl, x, _, _, _, rfl, rfl, SqT.of hx, rfl, a, rfl, lg (by omega) (by omega), by show 4 ≤ sizeLine; decide, fun w0 hw0 => ?_⟩
  have s1 := same_new hw0 (.lst ([("buttons" : Str), numS b, ("answers" : Str), numS a].map V.str))
  refine ⟨_, rfl, x, _, _, _, rfl, rfl, SqT.of (s1 _ _ hx), rfl, v, rfl, ⟨_, SqT.of (s1 _ _ hv)⟩, for_tup (xs := vars.map fun p => V.ref p.1) (fun i σ H' => ∃ wl v2 v3, σ = [some (.ref x), some (.ref wl), v2, v3] ∧ Same H H' ∧ H wl = none ∧ H' wl = some (.lst (([("buttons" : Str), numS b, ("answers" : Str), numS a] ++ varW (vars.take i)).map V.str))) ⟨w0, none, none, rfl, s1, hw0, upd_same⟩
    (fun i σ H' _ ⟨_, _, _, _, s2, _⟩ => SqT.of (s2 _ _ hv)) ?_ ?_⟩
  · rintro i y σ H' hi ⟨wl, v2, v3, rfl, s2, hwl, hw⟩
    obtain ⟨p, hp, rfl⟩ := vars_of hi
    obtain ⟨hq, q1, q12⟩ := hvars p (List.mem_of_getElem? hp)
    have el := varW_le vars (i + 1)
    rw [varW_take hp] at el
    simp only [List.length_append, List.length_cons, List.length_nil] at el
    refine ⟨p.1, _, rfl, SqT.of (s2 _ _ hq), rfl, _, _, rfl, _, _, rfl, rfl, ?_⟩
    refine ⟨_, rfl, _, rfl, _, rfl, p.2.2, rfl, lg (by omega) (by omega), by show 3 ≤ sizeLine; decide, fun l2 hl2 => ?_⟩
    have s3 := same_new hl2 (.lst ([("var" : Str), p.2.1, numS p.2.2].map V.str))
    refine rCat_of (xs := [("buttons" : Str), numS b, ("answers" : Str), numS a] ++ varW (vars.take i)) (ys := [("var" : Str), p.2.1, numS p.2.2]) (s3 _ _ hw) upd_same (by simp only [List.length_append, List.length_cons, List.length_nil]; omega) (fun l3 H3 s4 n3 h3 => ?_)
    refine ⟨l3, _, _, rfl, s2.trans (s3.trans s4), s2.free (s3.free n3), ?_⟩
    rw [h3, varW_take hp, List.append_assoc]
  · rintro σ H' ⟨wl, v2, v3, rfl, s2, hwl, hw⟩
    rw [List.length_map, List.take_length] at hw
    refine ⟨_, rfl, by show 1 ≤ sizeLine; decide, fun l1 h1 => ?_⟩
    have s3 := same_new h1 (.lst ([("start" : Str)].map V.str))
    refine rCat_of (xs := [("buttons" : Str), numS b, ("answers" : Str), numS a] ++ varW vars) (ys := [("start" : Str)]) (s3 _ _ hw) upd_same (by simp only [List.length_append, List.length_cons, List.length_nil]; omega) (fun l3 H3 s4 n3 h3 => ?_)
    have s4 := s2.trans (s3.trans s4)
    refine ⟨_, rfl, x, _, _, _, rfl, rfl, SqT.of (s4 _ _ hx), rfl, s0, rs, rfl, bs.keep (Same.tk s4), by omega, fun l4 H4 s5 n4 h4 => ?_⟩
    refine rCat_of (xs := [("buttons" : Str), numS b, ("answers" : Str), numS a] ++ varW vars ++ [("start" : Str)]) (ys := wsOf rs) (s5 _ _ h3) h4 (by simp only [List.length_append, List.length_cons, List.length_nil]; omega) (fun l5 H5 s6 n5 h5 => ?_)
    have s6 := s4.trans (s5.trans s6)
    refine ⟨by show 1 ≤ sizeLine; decide, fun l6 h6 => ?_⟩
    have s7 := same_new h6 (.lst ([("press" : Str)].map V.str))
    refine rCat_of (xs := [("buttons" : Str), numS b, ("answers" : Str), numS a] ++ varW vars ++ [("start" : Str)] ++ wsOf rs) (ys := [("press" : Str)]) (s7 _ _ h5) upd_same (by simp only [List.length_append, List.length_cons, List.length_nil]; omega) (fun l8 H8 s8 n8 h8 => ?_)
    have s8 := s6.trans (s7.trans s8)
    refine ⟨_, rfl, x, _, _, _, rfl, rfl, SqT.of (s8 _ _ hx), rfl, t, rt, rfl, bt.keep (Same.tk s8), by omega, fun l9 H9 s9 n9 h9 => ?_⟩
    refine rCat_of (xs := [("buttons" : Str), numS b, ("answers" : Str), numS a] ++ varW vars ++ [("start" : Str)] ++ wsOf rs ++ [("press" : Str)]) (ys := wsOf rt) (s9 _ _ h8) h9 (by simp only [List.length_append, List.length_cons, List.length_nil]; omega) (fun lA HA sA nA hA => ?_)
    refine k lA HA (s8.trans (s9.trans sA)) (s8.free (s9.free nA)) ?_
    rw [hA, ew]; simp
end
end Nt

set_option Elab.async false
set_option linter.all false
set_option maxRecDepth 100000
set_option maxHeartbeats 2000000
namespace Nt
open PySem L2
theorem seq_cut {t1 t2 : TS} {D : Ends} {σ : L2.St} {H : Hp} {P : L2.St → Hp → Prop} (h1 : (∀ σ2 H2, P σ2 H2 → t2 D σ2 H2) → t1 { D with nx := t2 D } σ H) (h2 : ∀ σ2 H2, P σ2 H2 → t2 D σ2 H2) : tSeq t1 t2 D σ H := h1 h2
theorem set_cut {i : Nat} {v : V} {t1 t2 : TS} {D : Ends} {σ : L2.St} {H : Hp} {P : L2.St → Hp → Prop} (h1 : (∀ σ2 H2, P σ2 H2 → t2 D σ2 H2) → t1 { D with nx := t2 D } (σ.set i (some v)) H) (h2 : ∀ σ2 H2, P σ2 H2 → t2 D σ2 H2) : gName i v σ H (tSeq t1 t2 D) := h1 h2
def tot (ws : List Str) : Nat := (ws.map (·.length)).sum + ws.length
theorem tot_app (a b : List Str) : tot (a ++ b) = tot a + tot b := by unfold tot; simp; omega
theorem tot_take (ws : List Str) {a b : Nat} (h : a ≤ b) : tot (ws.take a) + tot (ws.drop b) ≤ tot ws := by
  have e : ws = ws.take a ++ ((ws.drop a).take (b - a) ++ ws.drop b) := by
    have : ws.drop b = (ws.drop a).drop (b - a) := by rw [List.drop_drop]; congr 1; omega
    rw [this, List.take_append_drop, List.take_append_drop]
  have q := congrArg tot e
  rw [tot_app, tot_app] at q
  omega
theorem tot_len (ws : List Str) : ws.length ≤ tot ws := by unfold tot; omega
theorem tot_le : ∀ {ws : List Str} {m : Nat}, (∀ w ∈ ws, w.length ≤ m) → tot ws ≤ ws.length * (m + 1)
  | [], m, h => by simp [tot]
  | w :: r, m, h => by
    have h1 := h w (by simp)
    have h2 := tot_le (ws := r) (m := m) fun x hx => h x (by simp [hx])
    have e : tot (w :: r) = (w.length + 1) + tot r := by unfold tot; simp; omega
    rw [e, List.length_cons, Nat.succ_mul]; omega
theorem joinL_len (S : List Nat) : ∀ (l : List (List Nat)), l ≠ [] → (TL.joinL S l).length + S.length = (l.map fun x => x.length + S.length).sum
  | [], h => absurd rfl h
  | [a], _ => by
    have : TL.joinL S [a] = a := by simp [TL.joinL]
    rw [this]; simp
  | a :: b :: r, _ => by
    rw [joinL_cons _ _ _ (by simp)]
    have := joinL_len S (b :: r) (by simp)
    simp only [List.length_append, List.map_cons, List.sum_cons] at this ⊢
    omega
theorem sum_tl (ys : List Str) (k : Nat) : ((ys.map TL.tl).map fun x => x.length + k).sum = (ys.map (·.length)).sum + ys.length * k := by
  induction ys with
  | nil => simp
  | cons y r ih =>
    simp only [List.map_cons, List.sum_cons, List.length_cons, Nat.succ_mul]
    rw [ih]
    have : (TL.tl y).length = y.length := (len_list y).symm
    rw [this]; omega
theorem sp_len : ((" " : Str)).length = 1 := by decide +kernel
theorem join_len (ys : List Str) (h : ys ≠ []) : (Txt.join " " ys).length + 1 = tot ys := by
  rw [TL.join_eq]
  have q := joinL_len (TL.tl " ") (ys.map TL.tl) (by simpa using h)
  rw [← TL.tl_join, sum_tl] at q
  have e1 : (TL.tl (PySem.Str.join " " ys)).length = (PySem.Str.join " " ys).length := (len_list _).symm
  have e2 : (TL.tl (" " : Str)).length = 1 := (len_list _).symm.trans sp_len
  rw [e1, e2] at q
  unfold tot; omega
theorem join_nil : (Txt.join " " []).length = 0 := by decide +kernel
theorem join_le (ys : List Str) : (Txt.join " " ys).length ≤ tot ys := by
  by_cases h : ys = []
  · rw [h, join_nil]; exact Nat.zero_le _
  · have := join_len ys h; omega
/-- a part of a list of words -/
def cutL (ws : List Str) (lo hi : Option Int) : List Str := (ws.drop (HT.sIx ws.length 0 lo)).take (HT.sIx ws.length ws.length hi - HT.sIx ws.length 0 lo)
theorem cutL_map (ws : List Str) (lo hi : Option Int) : cutV (ws.map V.str) lo hi = (cutL ws lo hi).map V.str := by
  unfold cutV cutL; rw [List.length_map, List.map_take, List.map_drop]
theorem cutL_to (ws : List Str) (k : Nat) : cutL ws none (some (k : Int)) = ws.take k := by
  unfold cutL
  rw [HT.sIx_none, HT.sIx_nat, List.drop_zero, Nat.sub_zero]
  by_cases h : k ≤ ws.length
  · rw [Nat.min_eq_left h]
  · rw [Nat.min_eq_right (by omega), List.take_of_length_le (Nat.le_refl _), List.take_of_length_le (by omega)]
theorem cutL_from (ws : List Str) (k : Nat) : cutL ws (some (k : Int)) none = ws.drop k := by
  unfold cutL
  rw [HT.sIx_none, HT.sIx_nat]
  by_cases h : k ≤ ws.length
  · rw [Nat.min_eq_left h, List.take_of_length_le (by rw [List.length_drop]; omega)]
  · rw [Nat.min_eq_right (by omega), Nat.sub_self, List.take_zero, List.drop_eq_nil_of_le (by omega)]
theorem cutL_mem {ws : List Str} {lo hi : Option Int} {w : Str} (h : w ∈ cutL ws lo hi) : w ∈ ws := List.mem_of_mem_drop (List.mem_of_mem_take h)
theorem cutL_len (ws : List Str) (a b : Nat) : (cutL ws (some (a : Int)) (some (b : Int))).length ≤ b - a := by
  unfold cutL
  rw [HT.sIx_nat, HT.sIx_nat, List.length_take]
  omega
theorem cut_of {K : PySem.W.Frag} {H : Hp} {a : Addr} {ws : List Str} {lo hi : Option Int} {Q : VK} (h : H a = some (.lst (ws.map V.str))) (k : ∀ q H2, Same H H2 → H q = none → H2 q = some (.lst ((cutL ws lo hi).map V.str)) → Q (.ref q) H2) : rSlL K (.ref a) lo hi H Q :=
  ⟨a, _, rfl, SqL.of h, fun p hp => k p _ (same_new hp _) hp (by rw [upd_same, cutL_map])⟩
theorem cut_from {K : PySem.W.Frag} {H : Hp} {a : Addr} {ws : List Str} {lo : Option Int} {Q : VK} {σ : L2.St} (h : H a = some (.lst (ws.map V.str))) (k : ∀ q H2, Same H H2 → H q = none → H2 q = some (.lst ((cutL ws lo none).map V.str)) → Q (.ref q) H2) : tNoPart σ H fun u H3 => rSlL K (.ref a) lo u H3 Q :=
  cut_of h k
/-- a change of the words -/
def Chg (m : Nat) (ws ws' : List Str) : Prop := ∃ (a b : Nat) (mid : List Str), a ≤ b ∧ ws' = ws.take a ++ mid ++ ws.drop b ∧ mid.length ≤ 4 ∧ ∀ w ∈ mid, w.length ≤ 5 * m + 9
theorem Chg.word {m : Nat} {ws ws' : List Str} (c : Chg m ws ws') (h : ∀ w ∈ ws, w.length ≤ m) : ∀ w ∈ ws', w.length ≤ 5 * m + 9 := by
  obtain ⟨a, b, mid, _, rfl, _, h2⟩ := c
  intro w hw
  rcases List.mem_append.mp hw with hw | hw
  · rcases List.mem_append.mp hw with hw | hw
    · have := h w (List.mem_of_mem_take hw); omega
    · exact h2 w hw
  · have := h w (List.mem_of_mem_drop hw); omega
theorem Chg.tot {m : Nat} {ws ws' : List Str} (c : Chg m ws ws') : tot ws' ≤ tot ws + 4 * (5 * m + 10) := by
  obtain ⟨a, b, mid, h1, rfl, h3, h2⟩ := c
  rw [tot_app, tot_app]
  have q1 := tot_take ws h1
  have q2 := tot_le h2
  have : mid.length * (5 * m + 9 + 1) ≤ 4 * (5 * m + 10) := Nat.mul_le_mul h3 (by omega)
  omega
def Lk : Nat → Nat
  | 0 => 9
  | k + 1 => 5 * Lk k + 9
def BdK (k : Nat) (ws : List Str) : Prop := (∀ w ∈ ws, w.length ≤ Lk k) ∧ tot ws ≤ 3000000 + 40000 * k
theorem BdK.chg {k : Nat} {ws ws' : List Str} (h : BdK k ws) (hk : k < 4) (c : Chg (Lk k) ws ws') : BdK (k + 1) ws' := by
  refine ⟨c.word h.1, ?_⟩
  have := c.tot
  have h2 := h.2
  have : Lk k ≤ 1404 := by
    have : k = 0 ∨ k = 1 ∨ k = 2 ∨ k = 3 := by omega
    rcases this with rfl | rfl | rfl | rfl <;> decide
  omega
theorem Lk_le {k : Nat} (hk : k ≤ 4) : Lk k ≤ 7029 := by
  have : k = 0 ∨ k = 1 ∨ k = 2 ∨ k = 3 ∨ k = 4 := by omega
  rcases this with rfl | rfl | rfl | rfl | rfl <;> decide
def sgn : Str := "!#$&()*+,-./0123456789:;<=>?@ABXYZ[]^_{|}~abxyz"
theorem sgn_len : sgn.length = 47 := by decide +kernel
def spLSpoilt : Sp := fun vs H Q _ => ∃ (p l wl : Addr) (ws : List Str) (m : Nat), vs = [.ref p, .ref wl] ∧ PoolAt H p l ∧ H wl = some (.lst (ws.map V.str)) ∧ (∀ w ∈ ws, w.length ≤ m) ∧ m ≤ 10000 ∧ ws.length ≤ 5000000 ∧
  ∀ (wl' : Addr) (ws' : List Str) H', PK p l H H' → H' wl' = some (.lst (ws'.map V.str)) → Chg m ws ws' → Q (.ref wl') H'
def spLChanged : Sp := fun vs H Q _ => ∃ (p l wl : Addr) (ws : List Str), vs = [.ref p, .ref wl] ∧ PoolAt H p l ∧ H wl = some (.lst (ws.map V.str)) ∧ BdK 0 ws ∧
  ∀ (wl' : Addr) (ws' : List Str) H', PK p l H H' → H' wl' = some (.lst (ws'.map V.str)) → tot ws' ≤ 4000000 → Q (.ref wl') H'
def spLJoined : Sp := fun vs H Q _ => ∃ (p l wl : Addr) (ws : List Str), vs = [.ref p, .ref wl] ∧ PoolAt H p l ∧ H wl = some (.lst (ws.map V.str)) ∧ tot ws ≤ 4000000 ∧
  ∀ (t : Str) H', PK p l H H' → t.length ≤ 4000010 → Q (.str t) H'
theorem natI {r : Int} (h : 0 ≤ r) : ∃ j : Nat, r = (j : Int) := ⟨r.toNat, by omega⟩
theorem pickN {ws : List Str} {j : Nat} (h1 : j < ws.length) : ∃ w, w ∈ ws ∧ atI (ws.map V.str) (j : Int) = some (.str w) := ⟨ws[j], List.getElem_mem h1, at_str (List.getElem?_eq_getElem h1)⟩
section
variable {P : Program} {w : World} {K : PySem.W.Frag} {mg : Str → Option Value} {base : Heap} {CB fB CC CR CX aK aS : Addr}
theorem sc_law_spoilt : FnScope ["_law_pool_here", "_law_words_here", "_law_place", "_law_word", "_law_at", "_law_way", "_law_signs", "_law_sign"] ["_law_pool_here", "_law_words_here"] (defScope s_law_spoilt) := ⟨rfl, rfl, rfl, by decide +kernel, rfl, by decide +kernel, by decide +kernel⟩
theorem ok_law_spoilt {f : Addr} {fd : FuncData} (F : Fun K "_law_spoilt" "_law_spoilt" s_law_spoilt f fd) (T : Txt P K mg CB fB CC CR CX aK aS) (Gdraw : CalX P w K mg base CX0 1 "_law_draw" spLDraw) : FnOk P w K mg base CX0 2 f fd ["_law_pool_here", "_law_words_here"] spLSpoilt := by
  refine F.ok sc_law_spoilt (fun vs H Q E h => ?_) (fun cdv A outer s H vs Q E hr h => ?_)
  · obtain ⟨p, l, wl, ws, m, rfl, _⟩ := h
    rfl
  obtain ⟨p, l, wl, ws, m, rfl, hP, hw, hm, hm2, hl, kk⟩ := h
  refine ⟨_, (pss_cons (ps_if (pt_cmpR op_eq (pe_callB call_len_seq (by rfl) T.len PySem.boot_len (pa_cons (pv 1) pa_nil)) pe_int (nomark _))
 (pss_one (ps_ret (pv 1)))
 pss_nil)
 (pss_cons (ps_set (i := 2) sc_law_spoilt.nd rfl (Or.inl rfl) (pe_cx Gdraw hr pass0 (pa_cons (pv 0) (pa_cons (pe_callB call_len_seq (by rfl) T.len PySem.boot_len (pa_cons (pv 1) pa_nil)) pa_nil))))
 (pss_cons (ps_set (i := 3) sc_law_spoilt.nd rfl (Or.inl rfl) (pe_ix ix_list (pv 1) (pv 2) (fun _ _ => rfl)))
 (pss_cons (ps_set (i := 4) sc_law_spoilt.nd rfl (Or.inl rfl) (pe_cx Gdraw hr pass0 (pa_cons (pv 0) (pa_cons (pe_op op_add (pe_callB call_len_str (by rfl) T.len PySem.boot_len (pa_cons (pv 3) pa_nil)) pe_int) pa_nil))))
 (pss_cons (ps_set (i := 5) sc_law_spoilt.nd rfl (Or.inl rfl) (pe_cx Gdraw hr pass0 (pa_cons (pv 0) (pa_cons pe_int pa_nil))))
 (pss_cons (ps_if (pt_cmpR op_eq (pv 5) pe_int (nomark _))
 (pss_one (ps_set (i := 3) sc_law_spoilt.nd rfl (Or.inl rfl) (pe_upper (pv 3))))
 (pss_one (ps_if (pt_cmpR op_eq (pv 5) pe_int (nomark _))
 (pss_one (ps_set (i := 3) sc_law_spoilt.nd rfl (Or.inl rfl) (pe_op op_add_str (pe_op op_add_str (pe_slice sl_str (pv 3) po_none (po_some (pv 4))) (pe_upper (pe_slice sl_str (pv 3) (po_some (pv 4)) (po_some (pe_op op_add (pv 4) pe_int))))) (pe_slice sl_str (pv 3) (po_some (pe_op op_add (pv 4) pe_int)) po_none))))
 (pss_cons (ps_set (i := 6) sc_law_spoilt.nd rfl (Or.inl rfl) pe_str)
 (pss_cons (ps_set (i := 7) sc_law_spoilt.nd rfl (Or.inl rfl) (pe_ix ix_str (pv 6) (pe_cx Gdraw hr pass0 (pa_cons (pv 0) (pa_cons (pe_callB call_len_str (by rfl) T.len PySem.boot_len (pa_cons (pv 6) pa_nil)) pa_nil))) (fun _ _ => rfl)))
 (pss_one (ps_set (i := 3) sc_law_spoilt.nd rfl (Or.inl rfl) (pe_op op_add_str (pe_op op_add_str (pe_slice sl_str (pv 3) po_none (po_some (pv 4))) (pv 7)) (pe_slice sl_str (pv 3) (po_some (pe_op op_sub (pe_op op_add (pv 4) (pv 5)) pe_int)) po_none)))))))))
 (pss_one (ps_ret (pe_op op_cat (pe_op op_cat (pe_slice sl_list (pv 1) po_none (po_some (pv 2))) (pe_lst (pa_cons (pv 3) pa_nil))) (pe_slice sl_list (pv 1) (po_some (pe_op op_add (pv 2) pe_int)) po_none)))))))))), ?_⟩
  refine ⟨_, rfl, wl, _, rfl, .inl (SqL.of hw), rfl, _, rfl, ?_⟩
  rw [List.length_map]
  by_cases h0 : ws = []
  · rw [decide_eq_true (show V.int (ws.length : Int) = V.int 0 by rw [h0]; rfl)]
    exact iteT ⟨_, rfl, kk wl ws H (PK.refl hP) hw ⟨0, 0, [], Nat.le_refl _, by simp, by simp, by simp⟩⟩
  have hpos : 0 < ws.length := List.length_pos_iff.mpr h0
  rw [decide_eq_false (show ¬ V.int (ws.length : Int) = V.int 0 from fun z => by have := V.int.inj z; omega)]
  refine iteF ⟨_, rfl, _, rfl, wl, _, rfl, .inl (SqL.of hw), p, l, _, rfl, hP, by rw [List.length_map]; omega, by rw [List.length_map]; omega, fun r H1 r0 r1 k1 => ?_⟩
  rw [List.length_map] at r1
  obtain ⟨j, rfl⟩ := natI r0
  have hj : j < ws.length := by omega
  obtain ⟨x, hx, hat⟩ := pickN hj
  have hw1 := k1.strs hP hw
  refine ⟨_, rfl, _, rfl, wl, _, _, _, rfl, rfl, SqL.of hw1, hat, ?_⟩
  have hxm := hm x hx
  have hxs : x.length ≤ sizeLine := by rw [sizeLine_eq]; omega
  refine ⟨_, rfl, _, rfl, x, rfl, hxs, _, _, rfl, rfl, p, l, _, rfl, k1.pool, by omega, by omega, fun at_ H2 a0 a1 k2 => ?_⟩
  have k12 := k1.trans k2
  refine ⟨_, rfl, p, l, 4, rfl, k12.pool, by decide, by decide, fun way H3 b0 b1 k3 => ?_⟩
  have k13 := k12.trans k3
  have cl := fun lo hi => cutS_length x lo hi
  dsimp only [gName]
  refine' seq_cut (P := fun σ H4 => (∃ (v6 v7 : Option V) (y : Str), y.length ≤ 5 * m + 9 ∧ σ = [some (.ref p), some (.ref wl), some (.int (j : Int)), some (.str y), some (.int at_), some (.int way), v6, v7]) ∧ PK p l H H4) (fun key => ?ka1) ?kb1
  case ka1 =>
    refine ⟨_, rfl, rfl, _, rfl, ?_⟩
    refine ite2 (fun _ => ?_) (fun _ => ?_)
    · refine ⟨_, rfl, ⟨_, rfl⟩, x, rfl, rfl, by omega, ?_⟩
      have := PyProof.Rows.len_upper x
      exact key _ _ ⟨⟨_, _, Txt.upper x, by omega, rfl⟩, k13⟩
    refine ⟨_, rfl, rfl, _, rfl, ?_⟩
    refine ite2 (fun _ => ?_) (fun _ => ?_)
    · refine ⟨_, rfl, _, rfl, _, rfl, x, rfl, hxs, _, rfl, _, rfl, _, rfl, _, rfl, _, _, rfl, rfl, _, rfl, x, rfl, hxs, ⟨_, rfl⟩, _, rfl, rfl, ?_, _, _, rfl, rfl, ?_, _, rfl, _, rfl, _, _, rfl, rfl, _, rfl, x, rfl, hxs, _, _, rfl, rfl, ?_, ?_⟩
      · have := cl (some at_) (some (at_ + 1)); omega
      · have := cl none (some at_); have := PyProof.Rows.len_upper (L2.cutS x (some at_) (some (at_ + 1))); have := cl (some at_) (some (at_ + 1)); rw [sizeLine_eq]; omega
      · rw [PySem.Str.length_append]
        have := cl none (some at_); have := PyProof.Rows.len_upper (L2.cutS x (some at_) (some (at_ + 1))); have := cl (some at_) (some (at_ + 1)); have := cl (some (at_ + 1)) none; rw [sizeLine_eq]; omega
      · refine key _ _ ⟨⟨_, _, L2.cutS x none (some at_) ++ Txt.upper (L2.cutS x (some at_) (some (at_ + 1))) ++ L2.cutS x (some (at_ + 1)) none, ?_, rfl⟩, k13⟩
        rw [PySem.Str.length_append, PySem.Str.length_append]
        have := cl none (some at_); have := PyProof.Rows.len_upper (L2.cutS x (some at_) (some (at_ + 1))); have := cl (some at_) (some (at_ + 1)); have := cl (some (at_ + 1)) none; omega
    · refine ⟨_, rfl, _, rfl, _, rfl, sgn, rfl, by rw [sgn_len]; decide, p, l, _, rfl, k13.pool, by rw [sgn_len]; decide, by rw [sgn_len]; decide, fun r H4 r0 r1 k4 => ?_⟩
      obtain ⟨i, rfl⟩ := natI r0
      have hi : i < sgn.cps.toList.length := by rw [← len_list]; omega
      refine ⟨_, _, _, rfl, rfl, by show sgn.length ≤ sizeLine; rw [sgn_len]; decide, atI_nat (List.getElem?_eq_getElem hi), ?_⟩
      generalize sgn.cps.toList[i] = ch
      refine ⟨_, rfl, _, rfl, _, rfl, x, rfl, hxs, _, rfl, _, _, rfl, rfl, ?_, _, rfl, _, rfl, _, rfl, _, _, rfl, rfl, _, _, rfl, rfl, _, rfl, x, rfl, hxs, _, _, rfl, rfl, ?_, ?_⟩
      · have := cl none (some at_)
        show _ + 1 ≤ sizeLine
        rw [sizeLine_eq]; omega
      · rw [PySem.Str.length_append]
        have := cl none (some at_); have := cl (some (at_ + way - 2)) none
        show _ + 1 + _ ≤ sizeLine
        rw [sizeLine_eq]; omega
      · refine key _ _ ⟨⟨_, _, L2.cutS x none (some at_) ++ (⟨#[ch]⟩ : Str) ++ L2.cutS x (some (at_ + way - 2)) none, ?_, rfl⟩, k13.trans k4⟩
        rw [PySem.Str.length_append, PySem.Str.length_append]
        have := cl none (some at_); have := cl (some (at_ + way - 2)) none
        show _ + 1 + _ ≤ _
        omega
  rintro σ H4 ⟨⟨v6, v7, y, hy, rfl⟩, k4⟩
  have hw4 := k4.strs hP hw
  refine ⟨_, rfl, _, rfl, _, rfl, cut_of hw4 (fun q1 H5 s5 n5 h5 => ⟨_, rfl, by show 1 ≤ sizeLine; decide, fun q2 hq2 => ?_⟩)⟩
  rw [cutL_to] at h5
  have s6 := same_new hq2 (.lst ([y].map V.str))
  refine rCat_of (xs := ws.take j) (ys := [y]) (s6 _ _ h5) upd_same (by rw [List.length_take, sizeLine_eq]; simp; omega) (fun q3 H6 s7 n7 h7 => ?_)
  have s7 := s5.trans (s6.trans s7)
  refine ⟨_, rfl, _, rfl, _, _, rfl, rfl, _, rfl, cut_from (s7 _ _ hw4) (fun q4 H8 s8 n8 h8 => ?_)⟩
  rw [show (j : Int) + 1 = ((j + 1 : Nat) : Int) by omega, cutL_from] at h8
  refine rCat_of (xs := ws.take j ++ [y]) (ys := ws.drop (j + 1)) (s8 _ _ h7) h8 (by rw [List.length_append, List.length_take, List.length_drop, sizeLine_eq]; simp; omega) (fun q5 H9 s9 n9 h9 => ?_)
  exact kk q5 _ H9 (k4.sm (s7.trans (s8.trans s9))) h9 ⟨j, j + 1, [y], by omega, rfl, by simp, by simpa using hy⟩
theorem sc_law_changed : FnScope ["_law_pool_here", "_law_words_here", "_law_k", "_law_way", "_law_place", "_law_other"] ["_law_pool_here", "_law_words_here"] (defScope s_law_changed) := ⟨rfl, rfl, rfl, by decide +kernel, rfl, by decide +kernel, by decide +kernel⟩
theorem ok_law_changed {f : Addr} {fd : FuncData} (F : Fun K "_law_changed" "_law_changed" s_law_changed f fd) (T : Txt P K mg CB fB CC CR CX aK aS) (Gdraw : CalX P w K mg base CX0 1 "_law_draw" spLDraw) (Gmenu : CalX P w K mg base CX0 2 "_law_menu" spLMenu) (Gspoilt : CalX P w K mg base CX0 2 "_law_spoilt" spLSpoilt) :
    FnOk P w K mg base CX0 3 f fd ["_law_pool_here", "_law_words_here"] spLChanged := by
  refine F.ok sc_law_changed (fun vs H Q E h => ?_) (fun cdv A outer s H vs Q E hr h => ?_)
  · obtain ⟨p, l, wl, ws, rfl, _⟩ := h
    rfl
  obtain ⟨p, l, wl, ws, rfl, hP, hw, hB, kk⟩ := h
  refine ⟨_, (pss_cons (ps_for PassesOwn.never rfl (pi_range1 rfl T.range (pa_cons (pe_cx Gdraw hr pass0 (pa_cons (pv 0) (pa_cons pe_int pa_nil))) pa_nil)) (pg_name (i := 2) sc_law_changed.nd rfl (Or.inl rfl))
 (pss_cons (ps_set (i := 3) sc_law_changed.nd rfl (Or.inl rfl) (pe_cx Gdraw hr pass0 (pa_cons (pv 0) (pa_cons pe_int pa_nil))))
 (pss_cons (ps_set (i := 4) sc_law_changed.nd rfl (Or.inl rfl) (pe_cx Gdraw hr pass0 (pa_cons (pv 0) (pa_cons (pe_op op_add (pe_callB call_len_seq (by rfl) T.len PySem.boot_len (pa_cons (pv 1) pa_nil)) pe_int) pa_nil))))
 (pss_cons (ps_set (i := 5) sc_law_changed.nd rfl (Or.inl rfl) (pe_cx Gdraw hr pass0 (pa_cons (pv 0) (pa_cons (pe_op op_add (pe_callB call_len_seq (by rfl) T.len PySem.boot_len (pa_cons (pv 1) pa_nil)) pe_int) pa_nil))))
 (pss_one (ps_if (pt_cmpR op_eq (pv 3) pe_int (nomark _))
 (pss_one (ps_set (i := 1) sc_law_changed.nd rfl (Or.inl rfl) (pe_op op_cat (pe_slice sl_list (pv 1) po_none (po_some (pv 4))) (pe_slice sl_list (pv 1) (po_some (pe_op op_add (pv 4) pe_int)) po_none))))
 (pss_one (ps_if (pt_cmpR op_eq (pv 3) pe_int (nomark _))
 (pss_one (ps_set (i := 1) sc_law_changed.nd rfl (Or.inl rfl) (pe_op op_cat (pe_op op_cat (pe_slice sl_list (pv 1) po_none (po_some (pv 4))) (pe_lst (pa_cons (pe_cx Gmenu hr pass0 (pa_cons (pv 0) pa_nil)) pa_nil))) (pe_slice sl_list (pv 1) (po_some (pv 4)) po_none))))
 (pss_one (ps_if (pt_cmpR op_eq (pv 3) pe_int (nomark _))
 (pss_one (ps_set (i := 1) sc_law_changed.nd rfl (Or.inl rfl) (pe_op op_cat (pe_op op_cat (pe_slice sl_list (pv 1) po_none (po_some (pv 4))) (pe_lst (pa_cons (pe_cx Gmenu hr pass0 (pa_cons (pv 0) pa_nil)) pa_nil))) (pe_slice sl_list (pv 1) (po_some (pe_op op_add (pv 4) pe_int)) po_none))))
 (pss_one (ps_if (pt_cmpR op_eq (pv 3) pe_int (nomark _))
 (pss_one (ps_set (i := 1) sc_law_changed.nd rfl (Or.inl rfl) (pe_op op_cat (pe_op op_cat (pe_slice sl_list (pv 1) po_none (po_some (pv 4))) (pe_slice sl_list (pv 1) (po_some (pv 5)) (po_some (pe_op op_add (pv 5) pe_int)))) (pe_slice sl_list (pv 1) (po_some (pe_op op_add (pv 4) pe_int)) po_none))))
 (pss_one (ps_if (pt_cmpR op_eq (pv 3) pe_int (nomark _))
 (pss_one (ps_set (i := 1) sc_law_changed.nd rfl (Or.inl rfl) (pe_op op_cat (pe_op op_cat (pe_slice sl_list (pv 1) po_none (po_some (pv 4))) (pe_slice sl_list (pv 1) (po_some (pv 5)) (po_some (pe_op op_add (pv 5) pe_int)))) (pe_slice sl_list (pv 1) (po_some (pv 4)) po_none))))
 (pss_one (ps_if (pt_cmpR op_eq (pv 3) pe_int (nomark _))
 (pss_one (ps_set (i := 1) sc_law_changed.nd rfl (Or.inl rfl) (pe_op op_cat (pe_op op_cat (pe_op op_cat (pe_slice sl_list (pv 1) po_none (po_some (pv 4))) (pe_slice sl_list (pv 1) (po_some (pe_op op_add (pv 4) pe_int)) (po_some (pe_op op_add (pv 4) pe_int)))) (pe_slice sl_list (pv 1) (po_some (pv 4)) (po_some (pe_op op_add (pv 4) pe_int)))) (pe_slice sl_list (pv 1) (po_some (pe_op op_add (pv 4) pe_int)) po_none))))
 (pss_one (ps_set (i := 1) sc_law_changed.nd rfl (Or.inl rfl) (pe_cx Gspoilt hr pass0 (pa_cons (pv 0) (pa_cons (pv 1) pa_nil)))))))))))))))))))))
 (pss_one (ps_ret (pv 1)))), ?_⟩
  refine ⟨_, rfl, p, l, 5, rfl, hP, by decide, by decide, fun cnt H1 c0 c1 k1 => ⟨_, rfl, by omega, by omega, ?_⟩⟩
  refine for_it walk_range (fun i σ H' => ∃ (v2 v3 v4 v5 : Option V) (wl : Addr) (ws : List Str), σ = [some (.ref p), some (.ref wl), v2, v3, v4, v5] ∧ PK p l H H' ∧ H' wl = some (.lst (ws.map V.str)) ∧ BdK i ws)
    ⟨none, none, none, none, wl, ws, rfl, k1, k1.strs hP hw, hB⟩ (fun _ _ _ _ _ => trivial) ?_ ?_
  rotate_left
  · rintro σ H2 ⟨v2, v3, v4, v5, wl, ws, rfl, k2, hw2, hB2⟩
    exact ⟨_, rfl, kk wl ws H2 k2 hw2 (by have := hB2.2; omega)⟩
  clear hw hB
  rintro i x σ H2 H2' hi ⟨v2, v3, v4, v5, wl, ws, rfl, k2, hw2, hB2⟩ ⟨rfl, rfl⟩
  have hi4 : i < 4 := by omega
  have hL := Lk_le (Nat.le_of_lt hi4)
  have hlen : ws.length ≤ 4000000 := by have := tot_len ws; have := hB2.2; omega
  refine ⟨_, rfl, p, l, 7, rfl, k2.pool, by decide, by decide, fun way H3 w0 w1 k3 => ?_⟩
  have hw3 := k3.strs k2.pool hw2
  have k3 := k2.trans k3
  refine ⟨_, rfl, _, rfl, wl, _, rfl, .inl (SqL.of hw3), _, _, rfl, rfl, p, l, _, rfl, k3.pool, by omega, by rw [List.length_map]; omega, fun r4 H4 p0 p1 k4 => ?_⟩
  obtain ⟨j, rfl⟩ := natI p0
  have hw4 := k4.strs k3.pool hw3
  have k4 := k3.trans k4
  refine ⟨_, rfl, _, rfl, wl, _, rfl, .inl (SqL.of hw4), _, _, rfl, rfl, p, l, _, rfl, k4.pool, by omega, by rw [List.length_map]; omega, fun r5 H5 o0 o1 k5 => ?_⟩
  obtain ⟨o, rfl⟩ := natI o0
  have hw5 := k5.strs k4.pool hw4
  have k5 := k4.trans k5
  have e1 : ∀ n : Nat, (n : Int) + 1 = ((n + 1 : Nat) : Int) := fun n => by omega
  have e2 : ∀ n : Nat, (n : Int) + 2 = ((n + 2 : Nat) : Int) := fun n => by omega
  have e3 : ∀ n : Nat, (n : Int) + 3 = ((n + 3 : Nat) : Int) := fun n => by omega
  have hT : ∀ n, (ws.take n).length ≤ 4000000 := fun n => by rw [List.length_take]; omega
  have hD : ∀ n, (ws.drop n).length ≤ 4000000 := fun n => by rw [List.length_drop]; omega
  have hM : ∀ n k, (cutL ws (some ((n : Nat) : Int)) (some ((k : Nat) : Int))).length ≤ k - n := fun n k => cutL_len ws n k
  have mw : ∀ {lo hi : Option Int} {y : Str}, y ∈ cutL ws lo hi → y.length ≤ 5 * Lk i + 9 := fun h => by have := hB2.1 _ (cutL_mem h); omega
  have sz : sizeLine = 16777216 := sizeLine_eq
  have fin : ∀ (wl' : Addr) (ws' : List Str) (H' : Hp), PK p l H5 H' → H' wl' = some (.lst (ws'.map V.str)) → Chg (Lk i) ws ws' → ∃ (v2 v3 v4 v5 : Option V) (wl : Addr) (ws : List Str), [some (V.ref p), some (.ref wl'), some (.int (0 + (i : Int))), some (.int way), some (.int (j : Int)), some (.int (o : Int))] = [some (.ref p), some (.ref wl), v2, v3, v4, v5] ∧ PK p l H H' ∧ H' wl = some (.lst (ws.map V.str)) ∧ BdK (i + 1) ws :=
    fun wl' ws' H' pk h c => ⟨_, _, _, _, wl', ws', rfl, k5.trans pk, h, hB2.chg hi4 c⟩
  -- left out
  refine ⟨_, rfl, rfl, _, rfl, ?_⟩
  refine ite2 (fun _ => ?_) (fun _ => ?_)
  · refine ⟨_, rfl, _, rfl, _, rfl, cut_of hw5 (fun q1 H6 s6 n6 h6 => ⟨_, rfl, _, rfl, _, _, rfl, rfl, _, rfl, cut_from (s6 _ _ hw5) (fun q2 H7 s7 n7 h7 => ?_)⟩)⟩
    rw [cutL_to] at h6
    rw [e1, cutL_from] at h7
    refine rCat_of (s7 _ _ h6) h7 (by have := hT j; have := hD (j + 1); omega) (fun q3 H8 s8 n8 h8 => ?_)
    exact fin q3 _ H8 (.same k5.pool (s6.trans (s7.trans s8))) h8 ⟨j, j + 1, [], by omega, by simp, by simp, by simp⟩
  -- put in
  refine ⟨_, rfl, rfl, _, rfl, ?_⟩
  refine ite2 (fun _ => ?_) (fun _ => ?_)
  · refine ⟨_, rfl, _, rfl, _, rfl, cut_of hw5 (fun q1 H6 s6 n6 h6 => ⟨_, rfl, p, l, rfl, k5.pool.same s6, fun y H7 hy k7 => ⟨by show 1 ≤ sizeLine; decide, fun q2 h2 => ?_⟩⟩)⟩
    rw [cutL_to] at h6
    have k6 := PK.same k5.pool s6
    have s8 := same_new h2 (.lst ([y].map V.str))
    have k8 := (k6.trans k7).sm s8
    have hw8 := k8.strs k5.pool hw5
    refine rCat_of (ys := [y]) (s8 _ _ (k7.strs k6.pool h6)) upd_same (by have := hT j; simp; omega) (fun q3 H9 s9 n9 h9 => ?_)
    refine ⟨_, rfl, _, rfl, _, rfl, cut_from (s9 _ _ hw8) (fun q4 HA sA nA hA => ?_)⟩
    rw [cutL_from] at hA
    refine rCat_of (sA _ _ h9) hA (by have := hT j; have := hD j; simp only [List.length_append, List.length_cons, List.length_nil]; omega) (fun q5 HB sB nB hB => ?_)
    exact fin q5 _ HB (k8.sm (s9.trans (sA.trans sB))) hB ⟨j, j, [y], Nat.le_refl _, rfl, by simp, by simp; omega⟩
  -- replaced
  refine ⟨_, rfl, rfl, _, rfl, ?_⟩
  refine ite2 (fun _ => ?_) (fun _ => ?_)
  · refine ⟨_, rfl, _, rfl, _, rfl, cut_of hw5 (fun q1 H6 s6 n6 h6 => ⟨_, rfl, p, l, rfl, k5.pool.same s6, fun y H7 hy k7 => ⟨by show 1 ≤ sizeLine; decide, fun q2 h2 => ?_⟩⟩)⟩
    rw [cutL_to] at h6
    have k6 := PK.same k5.pool s6
    have s8 := same_new h2 (.lst ([y].map V.str))
    have k8 := (k6.trans k7).sm s8
    have hw8 := k8.strs k5.pool hw5
    refine rCat_of (ys := [y]) (s8 _ _ (k7.strs k6.pool h6)) upd_same (by have := hT j; simp; omega) (fun q3 H9 s9 n9 h9 => ?_)
    refine ⟨_, rfl, _, rfl, _, _, rfl, rfl, _, rfl, cut_from (s9 _ _ hw8) (fun q4 HA sA nA hA => ?_)⟩
    rw [e1, cutL_from] at hA
    refine rCat_of (sA _ _ h9) hA (by have := hT j; have := hD (j + 1); simp only [List.length_append, List.length_cons, List.length_nil]; omega) (fun q5 HB sB nB hB => ?_)
    exact fin q5 _ HB (k8.sm (s9.trans (sA.trans sB))) hB ⟨j, j + 1, [y], by omega, rfl, by simp, by simp; omega⟩
  -- by another
  refine ⟨_, rfl, rfl, _, rfl, ?_⟩
  refine ite2 (fun _ => ?_) (fun _ => ?_)
  · refine ⟨_, rfl, _, rfl, _, rfl, cut_of hw5 (fun q1 H6 s6 n6 h6 => ⟨_, rfl, _, rfl, _, rfl, _, rfl, _, _, rfl, rfl, _, rfl, cut_of (s6 _ _ hw5) (fun q2 H7 s7 n7 h7 => ?_)⟩)⟩
    rw [cutL_to] at h6
    rw [e1] at h7
    refine rCat_of (s7 _ _ h6) h7 (by have := hT j; have := hM o (o + 1); omega) (fun q3 H8 s8 n8 h8 => ?_)
    have s8 := s6.trans (s7.trans s8)
    refine ⟨_, rfl, _, rfl, _, _, rfl, rfl, _, rfl, cut_from (s8 _ _ hw5) (fun q4 H9 s9 n9 h9 => ?_)⟩
    rw [e1, cutL_from] at h9
    refine rCat_of (s9 _ _ h8) h9 (by have := hT j; have := hM o (o + 1); have := hD (j + 1); rw [List.length_append]; omega) (fun q5 HA sA nA hA => ?_)
    exact fin q5 _ HA (.same k5.pool (s8.trans (s9.trans sA))) hA ⟨j, j + 1, _, by omega, rfl, by have := hM o (o + 1); omega, fun y hy => mw hy⟩
  -- doubled
  refine ⟨_, rfl, rfl, _, rfl, ?_⟩
  refine ite2 (fun _ => ?_) (fun _ => ?_)
  · refine ⟨_, rfl, _, rfl, _, rfl, cut_of hw5 (fun q1 H6 s6 n6 h6 => ⟨_, rfl, _, rfl, _, rfl, _, rfl, _, _, rfl, rfl, _, rfl, cut_of (s6 _ _ hw5) (fun q2 H7 s7 n7 h7 => ?_)⟩)⟩
    rw [cutL_to] at h6
    rw [e3] at h7
    refine rCat_of (s7 _ _ h6) h7 (by have := hT j; have := hM o (o + 3); omega) (fun q3 H8 s8 n8 h8 => ?_)
    have s8 := s6.trans (s7.trans s8)
    refine ⟨_, rfl, _, rfl, _, rfl, cut_from (s8 _ _ hw5) (fun q4 H9 s9 n9 h9 => ?_)⟩
    rw [cutL_from] at h9
    refine rCat_of (s9 _ _ h8) h9 (by have := hT j; have := hM o (o + 3); have := hD j; rw [List.length_append]; omega) (fun q5 HA sA nA hA => ?_)
    exact fin q5 _ HA (.same k5.pool (s8.trans (s9.trans sA))) hA ⟨j, j, _, by omega, rfl, by have := hM o (o + 3); omega, fun y hy => mw hy⟩
  -- exchanged
  refine ⟨_, rfl, rfl, _, rfl, ?_⟩
  refine ite2 (fun _ => ?_) (fun _ => ?_)
  · refine ⟨_, rfl, _, rfl, _, rfl, cut_of hw5 (fun q1 H6 s6 n6 h6 => ⟨_, rfl, _, rfl, _, _, rfl, rfl, _, rfl, _, rfl, _, _, rfl, rfl, _, rfl, cut_of (s6 _ _ hw5) (fun q2 H7 s7 n7 h7 => ?_)⟩)⟩
    rw [cutL_to] at h6
    rw [e1, e2] at h7
    refine rCat_of (s7 _ _ h6) h7 (by have := hT j; have := hM (j + 1) (j + 2); omega) (fun q3 H8 s8 n8 h8 => ?_)
    have s8 := s6.trans (s7.trans s8)
    refine ⟨_, rfl, _, rfl, _, rfl, _, rfl, _, _, rfl, rfl, _, rfl, cut_of (s8 _ _ hw5) (fun q4 H9 s9 n9 h9 => ?_)⟩
    rw [e1] at h9
    refine rCat_of (s9 _ _ h8) h9 (by have := hT j; have := hM (j + 1) (j + 2); have := hM j (j + 1); rw [List.length_append]; omega) (fun q5 HA sA nA hA => ?_)
    have sA := s8.trans (s9.trans sA)
    refine ⟨_, rfl, _, rfl, _, _, rfl, rfl, _, rfl, cut_from (sA _ _ hw5) (fun q6 HB sB nB hB => ?_)⟩
    rw [e2, cutL_from] at hB
    refine rCat_of (sB _ _ hA) hB (by have := hT j; have := hM (j + 1) (j + 2); have := hM j (j + 1); have := hD (j + 2); rw [List.length_append, List.length_append]; omega) (fun q7 HC sC nC hC => ?_)
    exact fin q7 _ HC (.same k5.pool (sA.trans (sB.trans sC))) hC ⟨j, j + 2, cutL ws (some ((j + 1 : Nat) : Int)) (some ((j + 2 : Nat) : Int)) ++ cutL ws (some ((j : Nat) : Int)) (some ((j + 1 : Nat) : Int)), by omega, by simp, by have := hM (j + 1) (j + 2); have := hM j (j + 1); rw [List.length_append]; omega, fun y hy => (List.mem_append.mp hy).elim mw mw⟩
  -- spoilt
  refine ⟨_, rfl, _, rfl, p, l, wl, ws, Lk i, rfl, k5.pool, hw5, hB2.1, by omega, by omega, fun wl' ws' H' pk h c => fin wl' ws' H' pk h c⟩
theorem sc_law_joined : FnScope ["_law_pool_here", "_law_words_here", "_law_place"] ["_law_pool_here", "_law_words_here"] (defScope s_law_joined) := ⟨rfl, rfl, rfl, by decide +kernel, rfl, by decide +kernel, by decide +kernel⟩
theorem ok_law_joined {f : Addr} {fd : FuncData} (F : Fun K "_law_joined" "_law_joined" s_law_joined f fd) (T : Txt P K mg CB fB CC CR CX aK aS) (Gdraw : CalX P w K mg base CX0 1 "_law_draw" spLDraw) : FnOk P w K mg base CX0 2 f fd ["_law_pool_here", "_law_words_here"] spLJoined := by
  refine F.ok sc_law_joined (fun vs H Q E h => ?_) (fun cdv A outer s H vs Q E hr h => ?_)
  · obtain ⟨p, l, wl, ws, rfl, _⟩ := h
    rfl
  obtain ⟨p, l, wl, ws, rfl, hP, hw, hB, kk⟩ := h
  refine ⟨_, (pss_cons (ps_if (PW.pt (pw_and (pt_cmpR op_gt (pe_callB call_len_seq (by rfl) T.len PySem.boot_len (pa_cons (pv 1) pa_nil)) pe_int (nomark _)) (pw_and1 (pt_cmpR op_eq (pe_cx Gdraw hr pass0 (pa_cons (pv 0) (pa_cons pe_int pa_nil))) pe_int (nomark _)))))
 (pss_cons (ps_set (i := 2) sc_law_joined.nd rfl (Or.inl rfl) (pe_op op_add pe_int (pe_cx Gdraw hr pass0 (pa_cons (pv 0) (pa_cons (pe_op op_sub (pe_callB call_len_seq (by rfl) T.len PySem.boot_len (pa_cons (pv 1) pa_nil)) pe_int) pa_nil)))))
 (pss_one (ps_ret (pe_op op_add_str (pe_op op_add_str (pe_join pe_str (pe_slice sl_list (pv 1) po_none (po_some (pv 2)))) (pe_ix ix_str pe_str (pe_cx Gdraw hr pass0 (pa_cons (pv 0) (pa_cons pe_int pa_nil))) (fun _ _ => rfl))) (pe_join pe_str (pe_slice sl_list (pv 1) (po_some (pv 2)) po_none))))))
 pss_nil)
 (pss_one (ps_ret (pe_join pe_str (pv 1))))), ?_⟩
  have hlen := Nat.le_trans (tot_len ws) hB
  have sz : sizeLine = 16777216 := sizeLine_eq
  have wB : (ws.map (·.length)).sum + ws.length * ((" " : Str)).length ≤ 16777216 := by rw [sp_len]; unfold tot at hB; omega
  have wK : ∀ H1, PK p l H H1 → Q (.str (Txt.join " " ws)) H1 := fun H1 k1 => kk _ H1 k1 (by have := join_le ws; omega)
  refine ⟨_, rfl, wl, _, rfl, .inl (SqL.of hw), _, _, rfl, rfl, _, rfl, ?_⟩
  rw [List.length_map]
  by_cases h1 : (1 : Int) < (ws.length : Int)
  · rw [decide_eq_true h1]
    refine iteT ⟨_, rfl, p, l, 12, rfl, hP, by decide, by decide, fun r H1 r0 r1 k1 => ⟨rfl, _, rfl, ?_⟩⟩
    refine ite2 (fun _ => ?_) (fun _ => ⟨⟨_, rfl⟩, _, rfl, " ", wl, ws, rfl, rfl, .inl (SqL.of (k1.strs hP hw)), wB, wK H1 k1⟩)
    have hw1 := k1.strs hP hw
    refine ⟨_, rfl, _, rfl, wl, _, rfl, .inl (SqL.of hw1), _, _, rfl, rfl, p, l, _, rfl, k1.pool, by rw [List.length_map]; omega, by rw [List.length_map]; omega, fun r2 H2 p0 p1 k2 => ⟨_, _, rfl, rfl, ?_⟩⟩
    obtain ⟨j, rfl⟩ := natI p0
    have hw2 := k2.strs k1.pool hw1
    have k2 := k1.trans k2
    refine ⟨⟨_, rfl⟩, _, rfl, _, rfl, _, rfl, cut_of hw2 (fun q1 H3 s3 n3 h3 => ⟨" ", q1, _, rfl, rfl, .inl (SqL.of h3), ?_, ?_⟩)⟩
    all_goals have e1j : (1 : Int) + (j : Int) = ((j + 1 : Nat) : Int) := by omega
    all_goals have tt := tot_take ws (Nat.le_refl (j + 1))
    · rw [e1j, cutL_to, sp_len]; unfold tot at tt hB; omega
    rw [e1j, cutL_to] at h3
    rw [e1j, cutL_to]
    have k3 := k2.sm s3
    refine ⟨_, rfl, p, l, 2, rfl, k3.pool, by decide, by decide, fun r4 H4 a0 a1 k4 => ?_⟩
    obtain ⟨i, rfl⟩ := natI a0
    have hi : i < (("\n\t" : Str)).cps.toList.length := by rw [show (("\n\t" : Str)).cps.toList.length = 2 by decide +kernel]; omega
    refine ⟨_, _, _, rfl, rfl, by show 2 ≤ sizeLine; decide, atI_nat (List.getElem?_eq_getElem hi), ?_⟩
    generalize (("\n\t" : Str)).cps.toList[i] = ch
    have j1 := join_le (ws.take (j + 1))
    have j2 := join_le (ws.drop (j + 1))
    refine ⟨_, _, rfl, rfl, ?_, ⟨_, rfl⟩, _, rfl, _, rfl, _, rfl, cut_from (k4.strs k3.pool (s3 _ _ hw2)) (fun q5 H5 s5 n5 h5 => ?_)⟩
    · show _ + 1 ≤ sizeLine
      omega
    rw [e1j, cutL_from] at h5
    refine ⟨" ", q5, _, rfl, rfl, .inl (SqL.of h5), ?_, _, _, rfl, rfl, ?_, ?_⟩
    · rw [sp_len]; unfold tot at tt hB; omega
    · rw [PySem.Str.length_append]
      show _ + 1 + _ ≤ sizeLine
      omega
    · refine kk _ H5 ((k3.trans k4).sm s5) ?_
      rw [PySem.Str.length_append, PySem.Str.length_append]
      show _ + 1 + _ ≤ _
      omega
  · rw [decide_eq_false h1]
    exact iteF ⟨⟨_, rfl⟩, _, rfl, " ", wl, ws, rfl, rfl, .inl (SqL.of hw), wB, wK H (PK.refl hP)⟩
end
end Nt

set_option Elab.async false
set_option linter.all false
set_option maxRecDepth 100000
set_option maxHeartbeats 2000000
namespace Nt
open PySem L2
/-- same(a, t), texts -/
def spSame : Sp := fun vs H Q _ => ∃ a t : Str, vs = [.str a, .str t] ∧ Q (.bl (decide (a = t))) H
/-- same(i, j), numbers -/
def spSameI : Sp := fun vs H Q _ => ∃ i j : Int, vs = [.int i, .int j] ∧ Q (.bl (decide (i = j))) H
section
variable {P : Program} {w : World} {K : PySem.W.Frag} {mg : Str → Option Value} {base : Heap} {CB fB CC CR CX aK aS : Addr}
theorem sc_law_same : FnScope ["_law_actual", "_law_due", "_law_k"] ["_law_actual", "_law_due"] (defScope s_law_same) := ⟨rfl, rfl, rfl, by decide +kernel, rfl, by decide +kernel, by decide +kernel⟩
theorem ok_law_same {f : Addr} {fd : FuncData} (F : Fun K "_law_same" "_law_same" s_law_same f fd) (T : Txt P K mg CB fB CC CR CX aK aS) : FnOk P w K mg base CX0 1 f fd ["_law_actual", "_law_due"] spSame := by
  refine F.ok sc_law_same (fun vs H Q E h => ?_) (fun cdv A outer s H vs Q E hr h => ?_)
  · obtain ⟨a, t, rfl, _⟩ := h
    rfl
  obtain ⟨a, t, rfl, k⟩ := h
  refine ⟨_, (pss_cons (ps_if (PW.pt (pw_or (pt_val (pe_callB call_isi (by rfl) T.isinstance (by decide +kernel) (pa_cons (pv 1) (pa_cons (pe_bltn (v := .ty "tuple") (by rfl) T.tuple_ (by decide +kernel) rfl) pa_nil)))) (pw_or1 (pt_val (pe_callB call_isi (by rfl) T.isinstance (by decide +kernel) (pa_cons (pv 1) (pa_cons (pe_bltn (v := .ty "list") (by rfl) T.list_ (by decide +kernel) rfl) pa_nil)))))))
 pss_never
 pss_nil)
 (pss_cons (ps_if (PW.pt (pw_or (pt_cmpR op_isN (pv 1) pe_non (nomark _)) (pw_or1 (pt_val (pe_callB call_isi (by rfl) T.isinstance (by decide +kernel) (pa_cons (pv 1) (pa_cons (pe_bltn (v := .ty "bool") (by rfl) T.bool_ (by decide +kernel) rfl) pa_nil)))))))
 pss_never
 pss_nil)
 (pss_cons (ps_if (pt_val (pe_callB call_isi (by rfl) T.isinstance (by decide +kernel) (pa_cons (pv 1) (pa_cons (pe_bltn (v := .ty "int") (by rfl) T.int_ (by decide +kernel) rfl) pa_nil))))
 pss_never
 pss_nil)
 (pss_one (ps_ret (pe_and (pe_callB call_isi (by rfl) T.isinstance (by decide +kernel) (pa_cons (pv 0) (pa_cons (pe_bltn (v := .ty "str") (by rfl) T.str_ (by decide +kernel) rfl) pa_nil))) (pe_one (pe_cmpR op_eq (pv 0) (pv 1) (nomark _))))))))), ?_⟩
  refine ⟨_, rfl, .str t, .ty "tuple", .type "str", .type "tuple", false, rfl, .ty _, .base (.str _), kit_ty (by decide +kernel), _, rfl, iteF ?_⟩
  refine ⟨_, rfl, .str t, .ty "list", .type "str", .type "list", false, rfl, .ty _, .base (.str _), kit_ty (by decide +kernel), _, rfl, iteF ?_⟩
  refine ⟨_, rfl, rfl, _, rfl, ?_⟩
  rw [decide_eq_false (fun z => by cases z)]
  refine iteF ⟨_, rfl, .str t, .ty "bool", .type "str", .type "bool", false, rfl, .ty _, .base (.str _), kit_ty (by decide +kernel), _, rfl, iteF ?_⟩
  refine ⟨_, rfl, .str t, .ty "int", .type "str", .type "int", false, rfl, .ty _, .base (.str _), kit_ty (by decide +kernel), _, rfl, iteF ?_⟩
  refine ⟨_, rfl, .str a, .ty "str", .type "str", .type "str", true, rfl, .ty _, .base (.str _), kit_ty (by decide +kernel), _, rfl, iteT ?_⟩
  refine ⟨_, rfl, _, rfl, rfl, ?_⟩
  show Q (.bl (decide (V.str a = V.str t))) H
  rw [str_eq]; exact k
theorem okH {x qual : Str} {st : Stmt} {f : Addr} {fd : FuncData} {N ps : List Str} {k : Nat} {sp : Sp} (F : Fun K x qual st f fd) (S : FnScope N ps (defScope st)) (len : ∀ vs H Q E, sp vs H Q E → vs.length = ps.length)
    (hbody : ∀ (cdv : Value) (A : Around) (outer : List Env) (s : Shared) (H : Hp) (vs : List V) (Q : VK) (E : XK) (p : Addr × Obj), sp vs H Q E →
      ∃ t, PSs (L2H.cxH CX0 P w K mg base N qual (defScope st) f cdv A outer s H E p) (defBody st) t ∧ t { nx := fun _ H' => Q .non H', rt := Q } (start N vs) H) : L2H.FnH P w K mg base CX0 (k + 1) f fd ps sp := by
  obtain ⟨oc, od, kV, doc, pm, an, cdv, ct, osl, rfl, lk, hcd⟩ := F.ex
  exact L2H.fn_ofH lk hcd S len fun A outer s H vs Q E p _ hr hsp => hbody cdv A outer s H vs Q E p hsp
theorem ok_law_sameI {f : Addr} {fd : FuncData} (F : Fun K "_law_same" "_law_same" s_law_same f fd) (T : Txt P K mg CB fB CC CR CX aK aS) : L2H.FnH P w K mg base CX0 1 f fd ["_law_actual", "_law_due"] spSameI := by
  refine okH F sc_law_same (fun vs H Q E h => ?_) (fun cdv A outer s H vs Q E p h => ?_)
  · obtain ⟨a, t, rfl, _⟩ := h
    rfl
  obtain ⟨a, t, rfl, k⟩ := h
  refine ⟨_, (pss_cons (ps_if (PW.pt (pw_or (pt_val (pe_callB call_isi (by rfl) T.isinstance (by decide +kernel) (pa_cons (pv 1) (pa_cons (pe_bltn (v := .ty "tuple") (by rfl) T.tuple_ (by decide +kernel) rfl) pa_nil)))) (pw_or1 (pt_val (pe_callB call_isi (by rfl) T.isinstance (by decide +kernel) (pa_cons (pv 1) (pa_cons (pe_bltn (v := .ty "list") (by rfl) T.list_ (by decide +kernel) rfl) pa_nil)))))))
 pss_never
 pss_nil)
 (pss_cons (ps_if (PW.pt (pw_or (pt_cmpR op_isN (pv 1) pe_non (nomark _)) (pw_or1 (pt_val (pe_callB call_isi (by rfl) T.isinstance (by decide +kernel) (pa_cons (pv 1) (pa_cons (pe_bltn (v := .ty "bool") (by rfl) T.bool_ (by decide +kernel) rfl) pa_nil)))))))
 pss_never
 pss_nil)
 (pss_cons (ps_if (pt_val (pe_callB call_isi (by rfl) T.isinstance (by decide +kernel) (pa_cons (pv 1) (pa_cons (pe_bltn (v := .ty "int") (by rfl) T.int_ (by decide +kernel) rfl) pa_nil))))
 (pss_one (ps_ret (pe_and (pe_callB call_isi (by rfl) T.isinstance (by decide +kernel) (pa_cons (pv 0) (pa_cons (pe_bltn (v := .ty "int") (by rfl) T.int_ (by decide +kernel) rfl) pa_nil))) (pe_and (pe_not (pe_callB call_isi (by rfl) T.isinstance (by decide +kernel) (pa_cons (pv 0) (pa_cons (pe_bltn (v := .ty "bool") (by rfl) T.bool_ (by decide +kernel) rfl) pa_nil)))) (pe_one (pe_cmpR op_eq (pv 0) (pv 1) (nomark _)))))))
 pss_nil)
 pss_never))), ?_⟩
  refine ⟨_, rfl, .int t, .ty "tuple", .type "int", .type "tuple", false, rfl, .ty _, .base (.int _), kit_ty (by decide +kernel), _, rfl, iteF ?_⟩
  refine ⟨_, rfl, .int t, .ty "list", .type "int", .type "list", false, rfl, .ty _, .base (.int _), kit_ty (by decide +kernel), _, rfl, iteF ?_⟩
  refine ⟨_, rfl, rfl, _, rfl, ?_⟩
  rw [decide_eq_false (fun z => by cases z)]
  refine iteF ⟨_, rfl, .int t, .ty "bool", .type "int", .type "bool", false, rfl, .ty _, .base (.int _), kit_ty (by decide +kernel), _, rfl, iteF ?_⟩
  refine ⟨_, rfl, .int t, .ty "int", .type "int", .type "int", true, rfl, .ty _, .base (.int _), kit_ty (by decide +kernel), _, rfl, iteT ?_⟩
  refine ⟨_, rfl, .int a, .ty "int", .type "int", .type "int", true, rfl, .ty _, .base (.int _), kit_ty (by decide +kernel), _, rfl, iteT ?_⟩
  refine ⟨_, rfl, .int a, .ty "bool", .type "int", .type "bool", false, rfl, .ty _, .base (.int _), kit_ty (by decide +kernel), _, rfl, _, rfl, iteT ⟨_, rfl, _, rfl, rfl, ?_⟩⟩
  show Q (.bl (decide (V.int a = V.int t))) H
  have e : decide (V.int a = V.int t) = decide (a = t) := by
    by_cases h : a = t
    · subst h; rw [decide_eq_true rfl, decide_eq_true rfl]
    · rw [decide_eq_false h, decide_eq_false (fun z => h (V.int.inj z))]
  rw [e]; exact k
end
end Nt

set_option Elab.async false
set_option linter.all false
set_option maxRecDepth 100000
set_option maxHeartbeats 2000000
namespace Nt
open PySem L2
theorem takes0N {X : Cx} : L2N.Takes X (fun _ _ _ _ => False) := fun _ _ x => by
  obtain ⟨_, _, _, _, _, _, _, _, _, _, _, _, _, _, _, _, z⟩ := x
  exact z.elim
/-- a def that is called where an exception is handled -/
structure CalH (P : Program) (w : World) (K : PySem.W.Frag) (mg : Str → Option Value) (base : Heap) (CX : CXT) (k : Nat) (x : Str) (sp : Sp) : Prop where
  ex : ∃ f fd ps, L2H.FnH P w K mg base CX k f fd ps sp ∧ mg x = some (.ref f) ∧ PySem.W.keepIn K (.ref f) = true ∧ Binds K fd ps []
theorem FnH.mono {P : Program} {w : World} {K : PySem.W.Frag} {mg : Str → Option Value} {base : Heap} {CX : CXT} {j k : Nat} {f : Addr} {fd : FuncData} {ps : List Str} {sp : Sp} (F : L2H.FnH P w K mg base CX j f fd ps sp) (h : j ≤ k) : L2H.FnH P w K mg base CX k f fd ps sp :=
  ⟨F.len, fun A outer s H args us vs Q E p hr => F.run A outer s H args us vs Q E p (hr.mono h)⟩
section
variable {X : Cx} {CX : CXT} {k j : Nat} {C a : Addr} {sp : Sp} {x m : Str} {p pos apos : Pos} {e o : Expr} {es : List Expr} {ta : TE} {t : TA}
theorem pe_cxS {E : L2.St → XK} (c : CalX X.prog X.w X.K X.mg X.base CX k x sp) (hr : Room j X.A) (hx : ∀ σ, PassesAt CX X σ (E σ)) (ha : PA X (e :: es) t) (hk : k ≤ j := by omega) (hg : Gl X x := by rfl)
    (hdb : (x == ("__debug__" : Str)) = false := by decide) (he : starEach (e :: es) X.env = (false, eval e X.env) :: starEach es X.env := by rfl) (hpl : (backTo pos (starEach es X.env)).any (·.1) = false := by rfl) :
    PE X (.Call (.Name x p) (e :: es) [] pos) (tCallS sp E t) := by
  obtain ⟨f, fd, ps, F, mf, kf, b⟩ := c.ex
  exact pe_callS F (hr.mono hk) hg mf kf b hx ha hdb he hpl
theorem pe_cxH (c : CalH X.prog X.w X.K X.mg X.base CX0 k x sp) (hr : L2H.RoomH j X.A) (hc : L2H.HotC X) (ha : PA X (e :: es) t) (hk : k ≤ j := by omega) (hg : Gl X x := by rfl)
    (hdb : (x == ("__debug__" : Str)) = false := by decide) (he : starEach (e :: es) X.env = (false, eval e X.env) :: starEach es X.env := by rfl) (hpl : (backTo pos (starEach es X.env)).any (·.1) = false := by rfl) :
    PE X (.Call (.Name x p) (e :: es) [] pos) (tCallS sp (fun _ => E0) t) := by
  obtain ⟨f, fd, ps, F, mf, kf, b⟩ := c.ex
  exact L2H.pe_callH F (hr.mono hk) hc hg mf kf b (fun _ _ _ _ _ _ _ h => h.elim) ha hdb he hpl
theorem hot_of {oe : Obj} {cls : Value} {d : Option Addr} {pn : List (Addr × Obj)} (hz : L2N.Zn cls d oe) (hf : ∃ vs, oe.data = .fields vs) : L2H.HotC (X.suite a ((a, oe) :: pn)) := by
  obtain ⟨vs, hv⟩ := hf
  exact ⟨(a, oe), ⟨rfl, vs, hv, hz.2.2 vs hv⟩, List.mem_cons_self⟩
/-- isinstance(e, c), e the exception that the suite holds, with a dict of its own -/
def rIsX (K : PySem.W.Frag) (C a : Addr) (cls : Value) (d : Option Addr) : List V → Hp → VK → Prop := fun xs H Q => cls = .ref C ∧ ∃ (dd : Addr) (fs : List (Str × V)) (c : V) (u : Value) (b : Bool), d = some dd ∧ H dd = some (.xd fs) ∧ xs = [.ref a, c] ∧ ClsV c u ∧ PySem.W.kitOne K (.ref C) u = some b ∧ Q (.bl b) H
def rIsXT (K : PySem.W.Frag) (C a : Addr) (cls : Value) (d : Option Addr) : List V → Hp → VK → Prop := fun xs H Q => cls = .ref C ∧ ∃ (dd : Addr) (fs : List (Str × V)) (tp : Addr) (cs : List V) (us : List Value) (b : Bool), d = some dd ∧ H dd = some (.xd fs) ∧ xs = [.ref a, .ref tp] ∧ H tp = some (.tup cs) ∧ Paired ClsV cs us ∧
  PySem.W.kitAny K (.ref C) us = some b ∧ Q (.bl b) H
theorem isx_at {oe : Obj} {d : Option Addr} {dd : Addr} {fs : List (Str × V)} {pins : List (Addr × Obj)} {σ : L2.St} {H : Hp} {s : Shared} {pn : List (Addr × Obj)} (hz : Zc (.ref C) d oe) (hf : ∃ vs, oe.data = .fields vs) (I : Inv (X.suite a ((a, oe) :: pn)) pins σ H s) (ed : d = some dd) (ea : H dd = some (.xd fs)) :
    ∃ od, PySem.W.InstAt s.heap a oe C (some od) := by
  obtain ⟨hget, _⟩ := I.pin (a, oe) (List.mem_append_left _ List.mem_cons_self)
  obtain ⟨vs, hv⟩ := hf
  subst ed
  have hx : ObjOk X.prog X.w H s.heap dd (.xd fs) := I.hok dd _ ea
  obtain ⟨mA, hns, hr⟩ := hx
  obtain ⟨od, ho, hl⟩ := lookIn_ns hns
  exact ⟨od, hget, hz.1, by unfold PySem.W.notCls; rw [hv] <;> rfl, by rw [hz.2]; exact ho⟩
theorem exc_kit {K : PySem.W.Frag} {oe : Obj} {od : Option Obj} (c : ExcC K C) : PySem.W.KitX K (.ref a) (.ref C) (fun h => PySem.W.InstAt h a oe C od) := by
  refine PySem.W.kitx_exc ?_ c.hg c.hk c.hs c.ha c.hn c.ht c.hm
  obtain ⟨cd, hc, _⟩ := PySem.W.any_some c.hd
  rw [hc]; rfl
theorem call_isX {oe : Obj} {cls : Value} {d : Option Addr} {pn : List (Addr × Obj)} (c : ExcC X.K C) (hz : Zc cls d oe) (hf : ∃ vs, oe.data = .fields vs) : CallR (X.suite a ((a, oe) :: pn)) (.builtin "isinstance") (rIsX X.K C a cls d) := by
  intro pins s σ H xs us Q I r h
  obtain ⟨ec, dd, fs, cv, u, b, ed, ea, rfl, kc, e, q⟩ := h
  subst ec
  obtain ⟨u1, u2, rfl, r1, r2⟩ := vals2 r
  obtain rfl : u1 = Value.ref a := r1
  have e2 := kc.eq r2
  subst e2
  obtain ⟨od, J⟩ := isx_at hz hf I ed ea
  exact PySem.W.kia_one (exc_kit c) I.kIn J e (fun z => nomatch z) fun tk => ⟨.bl b, H, I.tok tk, rfl, q⟩
theorem call_isXT {oe : Obj} {cls : Value} {d : Option Addr} {pn : List (Addr × Obj)} (c : ExcC X.K C) (hz : Zc cls d oe) (hf : ∃ vs, oe.data = .fields vs) : CallR (X.suite a ((a, oe) :: pn)) (.builtin "isinstance") (rIsXT X.K C a cls d) := by
  intro pins s σ H xs us Q I r h
  obtain ⟨ec, dd, fs, tp, cs, ws, b, ed, ea, rfl, hT, kc, e, q⟩ := h
  subst ec
  obtain ⟨u1, u2, rfl, r1, r2⟩ := vals2 r
  obtain rfl : u1 = Value.ref a := r1
  cases (show u2 = Value.ref tp from r2)
  obtain ⟨od, J⟩ := isx_at hz hf I ed ea
  obtain ⟨_, its, rv, o, h1, h2, n, h3⟩ := (show ObjOk X.prog X.w H s.heap tp (.tup cs) from I.hok tp _ hT)
  have e3 := ClsV.all kc rv
  subst e3
  obtain ⟨oc, od', dt, sl⟩ := o
  simp only at h2 h3
  subst h2 h3
  exact PySem.W.kia_tup (exc_kit c) I.kIn J h1 e (fun z => nomatch z) fun tk => ⟨.bl b, H, I.tok tk, rfl, q⟩
end
/-- what the law's own except asks of the text -/
structure TxtL (K : PySem.W.Frag) (mg : Str → Option Value) (CB CT C1 C2 C3 C4 : Addr) : Prop where
  gT : mg "TestError" = some (.ref CT)
  exT : PySem.W.exmOne K (.ref CB) (.ref CT) = some true
  g1 : mg "BadMachine" = some (.ref C1)
  g2 : mg "BadPaper" = some (.ref C2)
  g3 : mg "BadRatio" = some (.ref C3)
  g4 : mg "TooLarge" = some (.ref C4)
  kT : PySem.W.kitAny K (.ref CB) [.ref C1, .ref C2, .ref C3, .ref C4] = some false
  ec : ExcC K CB
  xf : XfC K CB
theorem kit_self {K : PySem.W.Frag} {t : Value} : PySem.W.kitOne K t t = some true := by
  unfold PySem.W.kitOne
  rw [if_pos (by simp)]
theorem PoolAt.upd {H : Hp} {p l b : Addr} {o : HO} (h : PoolAt H p l) (n1 : b ≠ p) (n2 : b ≠ l) : PoolAt (L2.upd H b o) p l := by
  obtain ⟨xs, i1, i2, i3, i4, i5, h1, h2, r⟩ := h.ex
  exact ⟨xs, i1, i2, i3, i4, i5, by rw [upd_ne n1.symm]; exact h1, by rw [upd_ne n2.symm]; exact h2, r⟩
def spLaw (K : PySem.W.Frag) : Sp := fun vs H Q _ => ∃ (s : Addr) (xs : List Int), vs = [.ref s] ∧ SqL K H s (xs.map V.int) ∧ xs.length ≤ 1000 ∧ ∀ H', Q (.bl true) H'
def w4 : List Str := ["buttons", "2", "answers", "3"]
def w3 : List Str := ["var", "x", "7"]
def w2 : List Str := ["start", "press"]
def repW (n : Nat) : List Str := (List.replicate n w3).flatten
theorem repW_map (n : Nat) : (List.replicate n (w3.map V.str)).flatten = (repW n).map V.str := by unfold repW; rw [List.map_flatten, List.map_replicate]
theorem repW_len (n : Nat) : (repW n).length = n * 3 := by unfold repW; simp [w3]
theorem repW_short (n : Nat) : shortW (repW n) := by
  intro w hw
  unfold repW at hw
  obtain ⟨l, hl, hw⟩ := List.mem_flatten.mp hw
  obtain ⟨_, rfl⟩ := List.mem_replicate.mp hl
  exact (show ∀ x ∈ w3, x.length ≤ 9 by decide +kernel) w hw
theorem tot_words (t : Str) : tot (wordsOf t) ≤ t.length + 1 := by
  by_cases h : wordsOf t = []
  · rw [h]; simp [tot]
  · have := join_len (wordsOf t) h
    rw [join_words] at this
    omega
theorem at_look (i : Int) : ([(("at" : Str), V.int i)] : List (Str × V)).lookup ("at" : Str) = some (.int i) := by simp [List.lookup]
theorem scal_wr (o : Option Nat) (i : Int) : scal (wrV o) (.int i) = true := by cases o <;> rfl
section
variable {P : Program} {w : World} {K : PySem.W.Frag} {mg : Str → Option Value} {base : Heap} {CB fB CC CR CX aK aS CT C1 C2 C3 C4 : Addr}
theorem sc_law : FnScope ["_law_script", "_law_pool_here", "_law_uses", "_law_words_here", "_law_k", "_law_word", "_law_turn", "_law_text", "_law_wrong_here", "_law_actual", "e"] ["_law_script"] (defScope s_law) := ⟨rfl, rfl, rfl, by decide +kernel, rfl, by decide +kernel, by decide +kernel⟩
theorem ok_law {f : Addr} {fd : FuncData} (F : Fun K "law" "law" s_law f fd) (T : Txt P K mg CB fB CC CR CX aK aS) (TL : TxtL K mg CB CT C1 C2 C3 C4) (Gpool : CalX P w K mg base CX0 1 "_law_pool" (spLPool K)) (Gdraw : CalX P w K mg base CX0 1 "_law_draw" spLDraw)
    (Gchanged : CalX P w K mg base CX0 3 "_law_changed" spLChanged) (Gwords : CalX P w K mg base CX0 12 "_law_words" spLWords) (Gbox : CalX P w K mg base CX0 17 "_law_box" spLBox) (Gmenu : CalX P w K mg base CX0 2 "_law_menu" spLMenu) (Gwrong : CalX P w K mg base CX0 4 "_law_wrong" (spLWrong K))
    (Gjoined : CalX P w K mg base CX0 2 "_law_joined" spLJoined) (Gbox_text : CalX P w K mg base CX0 12 "box_text" (spBoxText CX)) (Gread_box : CalX P w K mg base (L2N.CX P w) 24 "read_box" (spRead CB CX 0)) (Gread_around : CalX P w K mg base (L2N.CX P w) 24 "read_around" (spRead CB CX 24))
    (Gsame : CalX P w K mg base CX0 1 "_law_same" spSame) (GsameI : CalH P w K mg base CX0 1 "_law_same" spSameI) : FnOk P w K mg base CX0 25 f fd ["_law_script"] (spLaw K) := by
  refine F.ok sc_law (fun vs H Q E h => ?_) (fun cdv A outer s H vs Q E hr h => ?_)
  · obtain ⟨s, xs, rfl, _⟩ := h
    rfl
  obtain ⟨s, xs, rfl, hs, hxl, kk⟩ := h
  refine ⟨_, (pss_cons (ps_set (i := 1) sc_law.nd rfl (Or.inl rfl) (pe_cx Gpool hr pass0 (pa_cons (pv 0) (pa_cons pe_int pa_nil))))
 (pss_cons (ps_set (i := 2) sc_law.nd rfl (Or.inl rfl) (pe_ix ix_tup (pe_tup (pa_cons pe_int (pa_cons pe_int pa_nil))) (pe_cx Gdraw hr pass0 (pa_cons (pv 1) (pa_cons pe_int pa_nil))) (fun _ _ => rfl)))
 (pss_cons (ps_set (i := 3) sc_law.nd rfl (Or.inl rfl) (pe_cx Gchanged hr pass0 (pa_cons (pv 1) (pa_cons (pe_cx Gwords hr pass0 (pa_cons (pe_cx Gbox hr pass0 (pa_cons (pv 1) (pa_cons pe_int (pa_cons pe_int (pa_cons (pe_op op_mul (pe_callTy call_int1 (by rfl) T.int_ (by decide +kernel) (pa_cons (pe_cmpR op_gt (pv 2) pe_int (nomark _)) pa_nil)) pe_int) (pa_cons pe_int pa_nil)))))) pa_nil)) pa_nil))))
 (pss_cons (ps_if (pt_cmpR op_eq (pe_cx Gdraw hr pass0 (pa_cons (pv 1) (pa_cons pe_int pa_nil))) pe_int (nomark _))
 (pss_cons (ps_set (i := 3) sc_law.nd rfl (Or.inl rfl) (pe_op op_cat (pe_op op_cat (pe_lst (pa_cons pe_str (pa_cons pe_str (pa_cons pe_str (pa_cons pe_str pa_nil))))) (pe_op op_rep (pe_lst (pa_cons pe_str (pa_cons pe_str (pa_cons pe_str pa_nil)))) (pe_cx Gdraw hr pass0 (pa_cons (pv 1) (pa_cons pe_int pa_nil))))) (pe_slice sl_list (pe_lst (pa_cons pe_str (pa_cons pe_str pa_nil))) po_none (po_some (pe_cx Gdraw hr pass0 (pa_cons (pv 1) (pa_cons pe_int pa_nil)))))))
 (pss_one (ps_for PassesOwn.never rfl (pi_range1 rfl T.range (pa_cons (pe_cx Gdraw hr pass0 (pa_cons (pv 1) (pa_cons pe_int pa_nil))) pa_nil)) (pg_name (i := 4) sc_law.nd rfl (Or.inl rfl))
 (pss_cons (ps_set (i := 5) sc_law.nd rfl (Or.inl rfl) (pe_cx Gmenu hr pass0 (pa_cons (pv 1) pa_nil)))
 (pss_cons (ps_for PassesOwn.never rfl (pi_range1 rfl T.range (pa_cons pe_int pa_nil)) (pg_name (i := 6) sc_law.nd rfl (Or.inl rfl))
 (pss_one (ps_if (pt_cmpR op_eq (pe_cx Gwrong hr pass0 (pa_cons (pe_op op_cat (pv 3) (pe_lst (pa_cons (pv 5) pa_nil))) (pa_cons (pv 2) pa_nil))) (pe_callB call_len_seq (by rfl) T.len PySem.boot_len (pa_cons (pv 3) pa_nil)) (nomark _))
 (pss_one (ps_set (i := 5) sc_law.nd rfl (Or.inl rfl) (pe_cx Gmenu hr pass0 (pa_cons (pv 1) pa_nil))))
 pss_nil)))
 (pss_one (ps_expr (pe_bm PySem.F.plainAttrs_list PySem.F.slot_list_append PySem.F.type_list_append mt_append (pv 3) (pa_cons (pv 5) pa_nil)))))))))
 pss_nil)
 (pss_cons (ps_set (i := 7) sc_law.nd rfl (Or.inl rfl) (pe_cx Gjoined hr pass0 (pa_cons (pv 1) (pa_cons (pv 3) pa_nil))))
 (pss_cons (ps_set (i := 3) sc_law.nd rfl (Or.inl rfl) (pe_split (pv 7) pe_str))
 (pss_cons (ps_if (pt_cmpR op_eq (pv 7) pe_str (nomark _))
 (pss_one (ps_set (i := 3) sc_law.nd rfl (Or.inl rfl) (pe_lst pa_nil)))
 pss_nil)
 (pss_cons (ps_set (i := 8) sc_law.nd rfl (Or.inl rfl) (pe_cx Gwrong hr pass0 (pa_cons (pv 3) (pa_cons (pv 2) pa_nil))))
 (pss_cons (L2N.ps_try_as (i := 10) (Wout := fun _ _ _ _ => False) rfl rfl sc_law.nd rfl rfl ⟨by rfl, by decide, .inl TL.gT⟩ takes0N (fun W pn xe tk _ => (pss_one (ps_if (pt_cmpR op_eq (pv 2) pe_int (nomark _))
 (pss_one (ps_set (i := 9) sc_law.nd rfl (Or.inl rfl) (pe_cx Gbox_text hr pass0 (pa_cons (pe_cxS Gread_box hr (L2N.passAt tk) (pa_cons (pv 7) pa_nil)) pa_nil))))
 (pss_one (ps_set (i := 9) sc_law.nd rfl (Or.inl rfl) (pe_cx Gbox_text hr pass0 (pa_cons (pe_cxS Gread_around hr (L2N.passAt tk) (pa_cons (pv 7) pa_nil)) pa_nil)))))))
 (fun a oe cls d pn hz hf => (pss_cons (ps_if (PW.pt (pw_or (pt_not (pt_val (pe_callB (call_isX TL.ec hz.zc hf) (by rfl) T.isinstance (by decide +kernel) (pa_cons (pv 10) (pa_cons (pe_gl (v := .ref CB) (by rfl) ⟨_, T.bt.gC, rfl⟩) pa_nil))))) (pw_or1 (pt_val (pe_callB (call_isXT TL.ec hz.zc hf) (by rfl) T.isinstance (by decide +kernel) (pa_cons (pv 10) (pa_cons (pe_tup (pa_cons (pe_gl (v := .ref C1) (by rfl) ⟨_, TL.g1, rfl⟩) (pa_cons (pe_gl (v := .ref C2) (by rfl) ⟨_, TL.g2, rfl⟩) (pa_cons (pe_gl (v := .ref C3) (by rfl) ⟨_, TL.g3, rfl⟩) (pa_cons (pe_gl (v := .ref C4) (by rfl) ⟨_, TL.g4, rfl⟩) pa_nil))))) pa_nil)))))))
 (pss_one (ps_ret pe_bl))
 pss_nil)
 (pss_one (ps_ret (pe_and (pe_cmpR op_notN (pv 8) pe_non (nomark _)) (pe_one (pe_cxH GsameI (L2H.roomH_mark hr _) (hot_of hz hf) (pa_cons (pe_xf TL.xf T.bt.noN hz.zc hf (pv 10)) (pa_cons (pv 8) pa_nil))))))))))
 (pss_one (ps_ret (pe_and (pe_cmpR op_isN (pv 8) pe_non (nomark _)) (pe_one (pe_cx Gsame hr pass0 (pa_cons (pv 9) (pa_cons (pv 7) pa_nil)))))))))))))))), ?_⟩
  refine ⟨_, rfl, s, xs, 24, rfl, hs, hxl, fun p l H1 hp0 hl0 s1 P1 => ?_⟩
  -- uses
  refine ⟨by show 2 ≤ sizeLine; decide, fun t ht => ⟨_, rfl, p, l, 2, rfl, P1.same (same_new ht _), by decide, by decide, fun r H2 r0 r1 k2 => ?_⟩⟩
  have ht2 : H2 t = some (.tup [.int 0, .int 24]) := k2.tk (P1.same (same_new ht _)) _ _ upd_same
  obtain ⟨u, hu, hat⟩ : ∃ u : Int, (u = 0 ∨ u = 24) ∧ atI [V.int 0, V.int 24] r = some (.int u) := by
    have : r = 0 ∨ r = 1 := by omega
    rcases this with rfl | rfl
    · exact ⟨0, .inl rfl, rfl⟩
    · exact ⟨24, .inr rfl, rfl⟩
  refine ⟨t, _, _, _, rfl, rfl, SqT.of ht2, hat, ?_⟩
  have P2 := k2.pool
  clear hs ht2 hat r0 r1 k2 ht P1 s1 hp0 hl0
  -- the words
  refine ⟨_, rfl, _, rfl, _, rfl, _, _, rfl, rfl, .inr ⟨_, rfl, _, _, rfl, rfl, .inr ⟨by decide, by decide⟩, p, l, _, rfl, P2, fun q ws H3 k3 lb sh ln => ⟨q, ws, rfl, lb, ln, fun wl H4 s4 n4 h4 => ⟨p, l, wl, ws, rfl, k3.pool.same s4, h4, ⟨sh, ?_⟩, fun wl' ws' H5 k5 h5 t5 => ?_⟩⟩⟩⟩
  · have := tot_le sh; omega
  have P5 := k5.pool
  clear k5 h4 s4 n4 lb sh ln k3 P2
  have sz : sizeLine = 16777216 := sizeLine_eq
  dsimp only [gName]
  refine' seq_cut (P := fun σ H' => ∃ (v4 v5 v6 : Option V) (wl : Addr) (ws : List Str), σ = [some (.ref s), some (.ref p), some (.int u), some (.ref wl), v4, v5, v6, none, none, none, none] ∧ PoolAt H' p l ∧ H' wl = some (.lst (ws.map V.str)) ∧ tot ws ≤ 4000000) (fun key => ?ka1) ?kb1
  case ka1 =>
    refine ⟨_, rfl, p, l, 3, rfl, P5, by decide, by decide, fun r H6 r0 r1 k6 => ⟨rfl, _, rfl, ?_⟩⟩
    refine ite2 (fun _ => ?_) (fun _ => key _ _ ⟨none, none, none, wl', ws', rfl, k6.pool, k6.strs P5 h5, t5⟩)
    -- words one by one
    have P6 := k6.pool
    refine ⟨by show 4 ≤ sizeLine; decide, fun l1 n1 => ⟨by show 3 ≤ sizeLine; decide, fun l2 n2 => ?_⟩⟩
    have g1 := same_new n1 (.lst (w4.map V.str))
    have e1 : (upd H6 l1 (.lst (w4.map V.str))) l1 = some (.lst (w4.map V.str)) := upd_same
    have g2 := same_new (H := upd H6 l1 (.lst (w4.map V.str))) n2 (.lst (w3.map V.str))
    have e2 : (upd (upd H6 l1 (.lst (w4.map V.str))) l2 (.lst (w3.map V.str))) l2 = some (.lst (w3.map V.str)) := upd_same
    have e1 := g2 _ _ e1
    have P7 := P6.same (g1.trans g2)
    refine ⟨_, rfl, p, l, 2, rfl, P7, by decide, by decide, fun r2 H8 r20 r21 k8 => ?_⟩
    obtain ⟨i2, rfl⟩ := natI r20
    have e1 := k8.strs P7 e1
    have e2 := k8.strs P7 e2
    refine ⟨l2, _, _, rfl, rfl, e2, by omega, by omega, by rw [List.length_map, Int.toNat_natCast, sz]; show 3 * i2 ≤ _; omega, fun l3 n3 => ?_⟩
    rw [Int.toNat_natCast, repW_map]
    have g3 := same_new n3 (.lst ((repW i2).map V.str))
    refine rCat_of (g3 _ _ e1) upd_same (by rw [repW_len, sz]; show 4 + _ ≤ _; omega) (fun l4 H9 g4 n4 e4 => ?_)
    have P9 := k8.pool.same (g3.trans g4)
    refine ⟨by show 2 ≤ sizeLine; decide, fun l5 n5 => ?_⟩
    have g5 := same_new n5 (.lst (w2.map V.str))
    have e5 : (upd H9 l5 (.lst (w2.map V.str))) l5 = some (.lst (w2.map V.str)) := upd_same
    refine ⟨_, rfl, p, l, 3, rfl, P9.same g5, by decide, by decide, fun r3 HA r30 r31 kA => ⟨_, rfl, ?_⟩⟩
    obtain ⟨i3, rfl⟩ := natI r30
    have e4 := kA.strs (P9.same g5) (g5 _ _ e4)
    have e5 := kA.strs (P9.same g5) e5
    refine cut_of e5 (fun l6 HB gB n6 e6 => ?_)
    rw [cutL_to] at e6
    refine rCat_of (gB _ _ e4) e6 (by rw [List.length_append, repW_len, List.length_take, sz]; show 4 + _ + _ ≤ _; omega) (fun wl0 HC gC nC eC => ?_)
    have PB := kA.pool.same gB
    obtain ⟨np, nl⟩ := PK.ne PB nC
    have PC := PB.same gC
    have shC : shortW (w4 ++ repW i2 ++ w2.take i3) := (shortW.app (a := w4) (show ∀ x ∈ w4, x.length ≤ 9 by decide +kernel) (repW_short i2)).app fun x hx => (show ∀ x ∈ w2, x.length ≤ 9 by decide +kernel) x (List.mem_of_mem_take hx)
    have lnC : (w4 ++ repW i2 ++ w2.take i3).length ≤ 9 := by rw [List.length_append, List.length_append, repW_len, List.length_take]; show 4 + _ + _ ≤ _; have : w2.length = 2 := rfl; omega
    generalize w4 ++ repW i2 ++ w2.take i3 = ws0 at eC shC lnC
    clear e4 e5 e6 gB n6 kA g5 n5 g3 g4 n3 n4 e1 e2 k8 P7 g1 g2 n1 n2 P9 PB gC nC
    refine ⟨_, rfl, p, l, 25, rfl, PC, by decide, by decide, fun cnt HD c0 c1 kD => ⟨_, rfl, by omega, by omega, ?_⟩⟩
    refine for_it walk_range (fun i σ H' => ∃ (v4 v5 v6 : Option V) (ws : List Str), σ = [some (.ref s), some (.ref p), some (.int u), some (.ref wl0), v4, v5, v6, none, none, none, none] ∧ PoolAt H' p l ∧ H' wl0 = some (.lst (ws.map V.str)) ∧ shortW ws ∧ ws.length ≤ 9 + i)
      ⟨none, none, none, ws0, rfl, kD.pool, kD.strs PC eC, shC, lnC⟩ (fun _ _ _ _ _ => trivial) ?_ ?_
    rotate_left
    · rintro σ H' ⟨v4, v5, v6, ws, rfl, P', h', sh', ln'⟩
      exact key _ _ ⟨v4, v5, v6, wl0, ws, rfl, P', h', by have := tot_le sh'; omega⟩
    rintro i x σ HE HE' hi ⟨v4, v5, v6, ws, rfl, PE, hE, shE, lnE⟩ ⟨rfl, rfl⟩
    refine ⟨_, rfl, p, l, rfl, PE, fun y HF hy kF => ⟨8, rfl, by decide, by decide, ?_⟩⟩
    refine for_it walk_range (fun i2 σ H' => ∃ (v6 : Option V) (y : Str), σ = [some (.ref s), some (.ref p), some (.int u), some (.ref wl0), some (.int (0 + (i : Int))), some (.str y), v6, none, none, none, none] ∧ y.length ≤ 9 ∧ PoolAt H' p l ∧ H' wl0 = some (.lst (ws.map V.str)))
      ⟨v6, y, rfl, hy, kF.pool, kF.strs PE hE⟩ (fun _ _ _ _ _ => trivial) ?_ ?_
    · rintro i2 x σ HG HG' hi2 ⟨v6, y, rfl, hy, PG, hG⟩ ⟨rfl, rfl⟩
      refine ⟨_, rfl, _, rfl, by show 1 ≤ sizeLine; decide, fun la na => ?_⟩
      have ga := same_new na (.lst ([y].map V.str))
      refine rCat_of (xs := ws) (ys := [y]) (ga _ _ hG) upd_same (by rw [sz]; simp; omega) (fun lb HH gb nb eb => ?_)
      refine ⟨_, rfl, lb, ws ++ [y], u, rfl, eb, by simp; omega, fun z hz => by have := shE.app (shortW.nil.cons hy) z hz; omega, fun HI gi => ?_⟩
      have hI := gi _ _ (gb _ _ (ga _ _ hG))
      have PI := PG.same (ga.trans (gb.trans gi))
      refine ⟨_, rfl, wl0, _, rfl, .inl (SqL.of hI), scal_wr _ _, _, rfl, ?_⟩
      refine ite2 (fun _ => ?_) (fun _ => ⟨_, y, rfl, hy, PI, hI⟩)
      exact ⟨_, rfl, p, l, rfl, PI, fun y2 HJ hy2 kJ => ⟨_, y2, rfl, hy2, kJ.pool, kJ.strs PI hI⟩⟩
    · rintro σ HG ⟨v6, y, rfl, hy, PG, hG⟩
      refine ⟨_, rfl, .inl ⟨rfl, _, SqL.of hG⟩, _, rfl, wl0, _, _, rfl, rfl, hG, by rw [List.length_map, sz]; omega, ?_⟩
      exact ⟨_, _, _, ws ++ [y], rfl, PG.upd np nl, by rw [upd_same, List.map_append]; rfl, shE.app (shortW.nil.cons hy), by rw [List.length_append]; simp; omega⟩
  rintro σ H6 ⟨v4, v5, v6, wl, ws, rfl, P6, h6, t6⟩
  clear h5 t5 P5
  -- the text
  refine ⟨_, rfl, _, rfl, p, l, wl, ws, rfl, P6, h6, t6, fun t H7 k7 tl => ?_⟩
  refine ⟨_, rfl, ⟨_, rfl⟩, t, " ", rfl, rfl, by decide +kernel, by rw [sz]; omega, fun lw nlw => ?_⟩
  dsimp only [gName]
  refine' seq_cut (P := fun σ H' => ∃ (lw : Addr), σ = [some (.ref s), some (.ref p), some (.int u), some (.ref lw), v4, v5, v6, some (.str t), none, none, none] ∧ H' lw = some (.lst ((wordsOf t).map V.str))) (fun key => ?ka2) ?kb2
  case ka2 =>
    refine ⟨_, rfl, rfl, _, rfl, ?_⟩
    rw [str_eq]
    by_cases ht : t = ""
    · rw [decide_eq_true ht]
      refine iteT ⟨Nat.zero_le _, fun le hle => ?_⟩
      exact key _ _ ⟨le, rfl, by unfold wordsOf; rw [if_pos ht]; exact upd_same⟩
    · rw [decide_eq_false ht]
      exact iteF (key _ _ ⟨lw, rfl, by unfold wordsOf; rw [if_neg ht]; exact upd_same⟩)
  rintro σ H8 ⟨lw2, rfl, h8⟩
  have tw := tot_words t
  have lw3 := tot_len (wordsOf t)
  refine ⟨_, rfl, _, rfl, lw2, wordsOf t, u, rfl, h8, by omega, fun z hz => by have := words_le t z hz; omega, fun H9 s9 => ?_⟩
  clear h8 s9 nlw k7 h6 P6
  have bt : ((wordsOf t).map (·.length)).sum + (wordsOf t).length ≤ 16777216 := by have := tw; unfold tot at this; omega
  -- the try
  refine ⟨_, rfl, rfl, _, rfl, ?_⟩
  rcases hu with rfl | rfl
  · rw [decide_eq_true rfl]
    refine iteT ⟨_, rfl, t, rfl, by omega, fun x H10 hn hb => ⟨x, wordsOf t, rfl, hb, bt, fun H11 => ?_⟩, fun i hi H10 d hd => ?_⟩
    · rw [hn, join_words]
      refine ⟨_, rfl, rfl, _, rfl, ?_⟩
      rw [decide_eq_true (show wrV none = V.non from rfl)]
      refine iteT ⟨_, rfl, _, rfl, t, t, rfl, ?_⟩
      rw [decide_eq_true rfl]
      exact kk _
    · rw [hi]
      refine ⟨true, TL.exT, fun _ a ha => ?_, fun z => by cases z⟩
      refine ⟨_, rfl, rfl, d, _, .ref CB, .ref CB, true, rfl, hd, rfl, .own _, kit_self, _, rfl, iteF ?_⟩
      refine ⟨_, rfl, by show 4 ≤ sizeLine; decide, fun tp htp => ?_⟩
      have hd2 := same_new htp (.tup [.ref C1, .ref C2, .ref C3, .ref C4]) _ _ hd
      refine ⟨rfl, d, _, tp, _, [.ref C1, .ref C2, .ref C3, .ref C4], false, rfl, hd2, rfl, upd_same, .cons (.own _) (.cons (.own _) (.cons (.own _) (.cons (.own _) .nil))), TL.kT, _, rfl, iteF ?_⟩
      refine ⟨_, rfl, rfl, _, rfl, ?_⟩
      rw [decide_eq_false (show ¬ wrV (some i) = V.non from fun z => by cases z)]
      refine iteT ⟨_, rfl, rfl, rfl, d, _, _, rfl, hd2, at_look i, _, rfl, i, i, rfl, ?_⟩
      rw [decide_eq_true rfl]
      exact kk _
  · rw [decide_eq_false (show ¬ V.int 24 = V.int 0 from fun z => absurd (V.int.inj z) (by decide))]
    refine iteF ⟨_, rfl, t, rfl, by omega, fun x H10 hn hb => ⟨x, wordsOf t, rfl, hb, bt, fun H11 => ?_⟩, fun i hi H10 d hd => ?_⟩
    · rw [hn, join_words]
      refine ⟨_, rfl, rfl, _, rfl, ?_⟩
      rw [decide_eq_true (show wrV none = V.non from rfl)]
      refine iteT ⟨_, rfl, _, rfl, t, t, rfl, ?_⟩
      rw [decide_eq_true rfl]
      exact kk _
    · rw [hi]
      refine ⟨true, TL.exT, fun _ a ha => ?_, fun z => by cases z⟩
      refine ⟨_, rfl, rfl, d, _, .ref CB, .ref CB, true, rfl, hd, rfl, .own _, kit_self, _, rfl, iteF ?_⟩
      refine ⟨_, rfl, by show 4 ≤ sizeLine; decide, fun tp htp => ?_⟩
      have hd2 := same_new htp (.tup [.ref C1, .ref C2, .ref C3, .ref C4]) _ _ hd
      refine ⟨rfl, d, _, tp, _, [.ref C1, .ref C2, .ref C3, .ref C4], false, rfl, hd2, rfl, upd_same, .cons (.own _) (.cons (.own _) (.cons (.own _) (.cons (.own _) .nil))), TL.kT, _, rfl, iteF ?_⟩
      refine ⟨_, rfl, rfl, _, rfl, ?_⟩
      rw [decide_eq_false (show ¬ wrV (some i) = V.non from fun z => by cases z)]
      refine iteT ⟨_, rfl, rfl, rfl, d, _, _, rfl, hd2, at_look i, _, rfl, i, i, rfl, ?_⟩
      rw [decide_eq_true rfl]
      exact kk _
end
end Nt

set_option Elab.async false
set_option linter.all false
set_option maxRecDepth 100000
set_option maxHeartbeats 2000000
namespace Nt
open PySem L2
theorem kit_no {K : PySem.W.Frag} {B C : Addr} (hs : PySem.W.subIn K (.ref B) (.ref B) = some true) (hd : PySem.W.hasDictIn K C = true) (ht : PySem.W.typeIn K (.ref C) = some (.type "type")) (h : PySem.W.subIn K (.ref B) (.ref C) = some false) : PySem.W.kitOne K (.ref B) (.ref C) = some false := by
  have ne : B ≠ C := fun z => by rw [← z, hs] at h; cases h
  obtain ⟨cd, hc, _⟩ := PySem.W.any_some hd
  have e1 : ((Value.ref B : Value) == Value.ref C) = false := by simpa using ne
  have e2 : ((PySem.W.clsIn K C).isSome && PySem.W.typeIn K (.ref C) == some (.type "type")) = true := by rw [hc, ht] <;> rfl
  unfold PySem.W.kitOne
  rw [e1, if_neg (by decide)]
  show (if ((PySem.W.clsIn K C).isSome && PySem.W.typeIn K (.ref C) == some (.type "type")) = true then PySem.W.subIn K (.ref B) (.ref C) else none) = some false
  rw [if_pos e2]
  exact h
theorem kit4 {K : PySem.W.Frag} {t a b c d : Value} (h1 : PySem.W.kitOne K t a = some false) (h2 : PySem.W.kitOne K t b = some false) (h3 : PySem.W.kitOne K t c = some false) (h4 : PySem.W.kitOne K t d = some false) : PySem.W.kitAny K t [a, b, c, d] = some false :=
  kitAny_cons h1 (fun _ => kitAny_cons h2 (fun _ => kitAny_cons h3 (fun _ => kitAny_cons h4 (fun _ => kitAny_nil) (fun z => by cases z)) (fun z => by cases z)) (fun z => by cases z)) (fun z => by cases z)

theorem all_mk {P : Program} {w : World} {K : PySem.W.Frag} {h : Heap} {mg : Str → Option Value} {fa CC CR CX : Addr} (X : K.In h) (G : h.Ns mainGlobals mg) (hfa : mg "law" = some (.ref fa))
    {f_Cursor_init : Addr} {od_Cursor_init an_Cursor_init : Option Addr} {sl_Cursor_init : Array (Option Value)} {oc_Cursor_init kV_Cursor_init dc_Cursor_init pm_Cursor_init cd_Cursor_init ct_Cursor_init : Value}
    {f_Cursor_next : Addr} {od_Cursor_next an_Cursor_next : Option Addr} {sl_Cursor_next : Array (Option Value)} {oc_Cursor_next kV_Cursor_next dc_Cursor_next pm_Cursor_next cd_Cursor_next ct_Cursor_next : Value}
    {f_Cursor_word : Addr} {od_Cursor_word an_Cursor_word : Option Addr} {sl_Cursor_word : Array (Option Value)} {oc_Cursor_word kV_Cursor_word dc_Cursor_word pm_Cursor_word cd_Cursor_word ct_Cursor_word : Value}
    {f_Cursor_number : Addr} {od_Cursor_number an_Cursor_number : Option Addr} {sl_Cursor_number : Array (Option Value)} {oc_Cursor_number kV_Cursor_number dc_Cursor_number pm_Cursor_number cd_Cursor_number ct_Cursor_number : Value}
    {f_Cursor_new_name : Addr} {od_Cursor_new_name an_Cursor_new_name : Option Addr} {sl_Cursor_new_name : Array (Option Value)} {oc_Cursor_new_name kV_Cursor_new_name dc_Cursor_new_name pm_Cursor_new_name cd_Cursor_new_name ct_Cursor_new_name : Value}
    {f_Cursor_expression : Addr} {od_Cursor_expression an_Cursor_expression : Option Addr} {sl_Cursor_expression : Array (Option Value)} {oc_Cursor_expression kV_Cursor_expression dc_Cursor_expression pm_Cursor_expression cd_Cursor_expression ct_Cursor_expression : Value}
    {f_Cursor_finish : Addr} {od_Cursor_finish an_Cursor_finish : Option Addr} {sl_Cursor_finish : Array (Option Value)} {oc_Cursor_finish kV_Cursor_finish dc_Cursor_finish pm_Cursor_finish cd_Cursor_finish ct_Cursor_finish : Value}
    {f_Reader_init : Addr} {od_Reader_init an_Reader_init : Option Addr} {sl_Reader_init : Array (Option Value)} {oc_Reader_init kV_Reader_init dc_Reader_init pm_Reader_init cd_Reader_init ct_Reader_init : Value}
    {f_Reader_statement : Addr} {od_Reader_statement an_Reader_statement : Option Addr} {sl_Reader_statement : Array (Option Value)} {oc_Reader_statement kV_Reader_statement dc_Reader_statement pm_Reader_statement cd_Reader_statement ct_Reader_statement : Value}
    {f_Reader_choice : Addr} {od_Reader_choice an_Reader_choice : Option Addr} {sl_Reader_choice : Array (Option Value)} {oc_Reader_choice kV_Reader_choice dc_Reader_choice pm_Reader_choice cd_Reader_choice ct_Reader_choice : Value}
    {f_Reader_block : Addr} {od_Reader_block an_Reader_block : Option Addr} {sl_Reader_block : Array (Option Value)} {oc_Reader_block kV_Reader_block dc_Reader_block pm_Reader_block cd_Reader_block ct_Reader_block : Value}
    {f_Box_init : Addr} {od_Box_init an_Box_init : Option Addr} {sl_Box_init : Array (Option Value)} {oc_Box_init kV_Box_init dc_Box_init pm_Box_init cd_Box_init ct_Box_init : Value}
    {f_is_name : Addr} {od_is_name an_is_name : Option Addr} {sl_is_name : Array (Option Value)} {oc_is_name kV_is_name dc_is_name pm_is_name cd_is_name ct_is_name : Value}
    {f_digits_of : Addr} {od_digits_of an_digits_of : Option Addr} {sl_digits_of : Array (Option Value)} {oc_digits_of kV_digits_of dc_digits_of pm_digits_of cd_digits_of ct_digits_of : Value}
    {f_number_of : Addr} {od_number_of an_number_of : Option Addr} {sl_number_of : Array (Option Value)} {oc_number_of kV_number_of dc_number_of pm_number_of cd_number_of ct_number_of : Value}
    {f_expression_words : Addr} {od_expression_words an_expression_words : Option Addr} {sl_expression_words : Array (Option Value)} {oc_expression_words kV_expression_words dc_expression_words pm_expression_words cd_expression_words ct_expression_words : Value}
    {f_read_box : Addr} {od_read_box an_read_box : Option Addr} {sl_read_box : Array (Option Value)} {oc_read_box kV_read_box dc_read_box pm_read_box cd_read_box ct_read_box : Value}
    {f_read_around : Addr} {od_read_around an_read_around : Option Addr} {sl_read_around : Array (Option Value)} {oc_read_around kV_read_around dc_read_around pm_read_around cd_read_around ct_read_around : Value}
    {f_read_any : Addr} {od_read_any an_read_any : Option Addr} {sl_read_any : Array (Option Value)} {oc_read_any kV_read_any dc_read_any pm_read_any cd_read_any ct_read_any : Value}
    {f_block_words : Addr} {od_block_words an_block_words : Option Addr} {sl_block_words : Array (Option Value)} {oc_block_words kV_block_words dc_block_words pm_block_words cd_block_words ct_block_words : Value}
    {f_box_text : Addr} {od_box_text an_box_text : Option Addr} {sl_box_text : Array (Option Value)} {oc_box_text kV_box_text dc_box_text pm_box_text cd_box_text ct_box_text : Value}
    {f_law_pool : Addr} {od_law_pool an_law_pool : Option Addr} {sl_law_pool : Array (Option Value)} {oc_law_pool kV_law_pool dc_law_pool pm_law_pool cd_law_pool ct_law_pool : Value}
    {f_law_draw : Addr} {od_law_draw an_law_draw : Option Addr} {sl_law_draw : Array (Option Value)} {oc_law_draw kV_law_draw dc_law_draw pm_law_draw cd_law_draw ct_law_draw : Value}
    {f_law_spend : Addr} {od_law_spend an_law_spend : Option Addr} {sl_law_spend : Array (Option Value)} {oc_law_spend kV_law_spend dc_law_spend pm_law_spend cd_law_spend ct_law_spend : Value}
    {f_law_same : Addr} {od_law_same an_law_same : Option Addr} {sl_law_same : Array (Option Value)} {oc_law_same kV_law_same dc_law_same pm_law_same cd_law_same ct_law_same : Value}
    {f_law_value : Addr} {od_law_value an_law_value : Option Addr} {sl_law_value : Array (Option Value)} {oc_law_value kV_law_value dc_law_value pm_law_value cd_law_value ct_law_value : Value}
    {f_law_value_words : Addr} {od_law_value_words an_law_value_words : Option Addr} {sl_law_value_words : Array (Option Value)} {oc_law_value_words kV_law_value_words dc_law_value_words pm_law_value_words cd_law_value_words ct_law_value_words : Value}
    {f_law_is_name : Addr} {od_law_is_name an_law_is_name : Option Addr} {sl_law_is_name : Array (Option Value)} {oc_law_is_name kV_law_is_name dc_law_is_name pm_law_is_name cd_law_is_name ct_law_is_name : Value}
    {f_law_is_number : Addr} {od_law_is_number an_law_is_number : Option Addr} {sl_law_is_number : Array (Option Value)} {oc_law_is_number kV_law_is_number dc_law_is_number pm_law_is_number cd_law_is_number ct_law_is_number : Value}
    {f_law_values : Addr} {od_law_values an_law_values : Option Addr} {sl_law_values : Array (Option Value)} {oc_law_values kV_law_values dc_law_values pm_law_values cd_law_values ct_law_values : Value}
    {f_law_spoilt : Addr} {od_law_spoilt an_law_spoilt : Option Addr} {sl_law_spoilt : Array (Option Value)} {oc_law_spoilt kV_law_spoilt dc_law_spoilt pm_law_spoilt cd_law_spoilt ct_law_spoilt : Value}
    {f_law_changed : Addr} {od_law_changed an_law_changed : Option Addr} {sl_law_changed : Array (Option Value)} {oc_law_changed kV_law_changed dc_law_changed pm_law_changed cd_law_changed ct_law_changed : Value}
    {f_law_joined : Addr} {od_law_joined an_law_joined : Option Addr} {sl_law_joined : Array (Option Value)} {oc_law_joined kV_law_joined dc_law_joined pm_law_joined cd_law_joined ct_law_joined : Value}
    {f_law_menu : Addr} {od_law_menu an_law_menu : Option Addr} {sl_law_menu : Array (Option Value)} {oc_law_menu kV_law_menu dc_law_menu pm_law_menu cd_law_menu ct_law_menu : Value}
    {f_law_names : Addr} {od_law_names an_law_names : Option Addr} {sl_law_names : Array (Option Value)} {oc_law_names kV_law_names dc_law_names pm_law_names cd_law_names ct_law_names : Value}
    {f_law_block : Addr} {od_law_block an_law_block : Option Addr} {sl_law_block : Array (Option Value)} {oc_law_block kV_law_block dc_law_block pm_law_block cd_law_block ct_law_block : Value}
    {f_law_statement : Addr} {od_law_statement an_law_statement : Option Addr} {sl_law_statement : Array (Option Value)} {oc_law_statement kV_law_statement dc_law_statement pm_law_statement cd_law_statement ct_law_statement : Value}
    {f_law_box : Addr} {od_law_box an_law_box : Option Addr} {sl_law_box : Array (Option Value)} {oc_law_box kV_law_box dc_law_box pm_law_box cd_law_box ct_law_box : Value}
    {f_law_block_words : Addr} {od_law_block_words an_law_block_words : Option Addr} {sl_law_block_words : Array (Option Value)} {oc_law_block_words kV_law_block_words dc_law_block_words pm_law_block_words cd_law_block_words ct_law_block_words : Value}
    {f_law_words : Addr} {od_law_words an_law_words : Option Addr} {sl_law_words : Array (Option Value)} {oc_law_words kV_law_words dc_law_words pm_law_words cd_law_words ct_law_words : Value}
    {f_law_blocks : Addr} {od_law_blocks an_law_blocks : Option Addr} {sl_law_blocks : Array (Option Value)} {oc_law_blocks kV_law_blocks dc_law_blocks pm_law_blocks cd_law_blocks ct_law_blocks : Value}
    {f_law_next : Addr} {od_law_next an_law_next : Option Addr} {sl_law_next : Array (Option Value)} {oc_law_next kV_law_next dc_law_next pm_law_next cd_law_next ct_law_next : Value}
    {f_law_wrong : Addr} {od_law_wrong an_law_wrong : Option Addr} {sl_law_wrong : Array (Option Value)} {oc_law_wrong kV_law_wrong dc_law_wrong pm_law_wrong cd_law_wrong ct_law_wrong : Value}
    {f_law : Addr} {od_law an_law : Option Addr} {sl_law : Array (Option Value)} {oc_law kV_law dc_law pm_law cd_law ct_law : Value}
    {aK : Addr} {dd_aK : Option Addr} {n_aK : Nat} {sl_aK : Array (Option Value)} {t_aK_0 t_aK_1 t_aK_2 t_aK_3 t_aK_4 t_aK_5 t_aK_6 t_aK_7 t_aK_8 t_aK_9 t_aK_10 t_aK_11 t_aK_12 : Tok}
    {aS : Addr} {dd_aS : Option Addr} {n_aS : Nat} {sl_aS : Array (Option Value)} {t_aS_0 t_aS_1 t_aS_2 t_aS_3 t_aS_4 t_aS_5 t_aS_6 : Tok}
    {t_GREATEST : Tok}
    {t_DEEPEST : Tok}
    {t_MOST_VARIABLES : Tok}
    {t_MOST_SIZE : Tok}
    {t_MOST_DRAWS : Tok}
    {t_MOST_USES : Tok}
    {t_MOST_RESULTS : Tok}
    {t_MOST_IFS : Tok}
    {CB fB cda cc : Addr} {nm q : Str} {N : Addr} {bs bm : List Value} {sn : List Str} {sub : List Value} {ab : Bool} {col : Option Bool} {dd : Option Addr} {m0 m1 m2 m3 m5 : Option Value} {ocB docB pmB ctB : Value} {odB anB : Option Addr} {oslB : Array (Option Value)} {ccl : Value} {cdd : Option Addr} {cvs : Array Value} {ccs : Array (Option Value)} {file : Str} {tf : Tok} {cl : Value} {cld : Option Addr} {csl : Array (Option Value)}
    {CT C1 C2 C3 C4 : Addr}
    (a_CC : PySem.W.nsIn K mainGlobals "Cursor" = some (some (.ref CC)))
    (pg_CC : PySem.W.plainGet K CC Str.empty = true)
    (hd_CC : PySem.W.hasDictIn K CC = true)
    (po_CC : PySem.W.plainOver K CC = true)
    (sa_CC : PySem.W.findIn K (.ref CC) "__setattr__" = some (some (.builtin "object.__setattr__")))
    (mk_CC : PySem.W.makesIn K CC = true)
    (kc_CC : PySem.W.keepIn K (.ref CC) = true)
    (a_CR : PySem.W.nsIn K mainGlobals "Reader" = some (some (.ref CR)))
    (pg_CR : PySem.W.plainGet K CR Str.empty = true)
    (hd_CR : PySem.W.hasDictIn K CR = true)
    (po_CR : PySem.W.plainOver K CR = true)
    (sa_CR : PySem.W.findIn K (.ref CR) "__setattr__" = some (some (.builtin "object.__setattr__")))
    (mk_CR : PySem.W.makesIn K CR = true)
    (kc_CR : PySem.W.keepIn K (.ref CR) = true)
    (a_CX : PySem.W.nsIn K mainGlobals "Box" = some (some (.ref CX)))
    (pg_CX : PySem.W.plainGet K CX Str.empty = true)
    (hd_CX : PySem.W.hasDictIn K CX = true)
    (po_CX : PySem.W.plainOver K CX = true)
    (sa_CX : PySem.W.findIn K (.ref CX) "__setattr__" = some (some (.builtin "object.__setattr__")))
    (mk_CX : PySem.W.makesIn K CX = true)
    (kc_CX : PySem.W.keepIn K (.ref CX) = true)
    (n_CC_words : PySem.W.findIn K (.ref CC) "words" = some none)
    (n_CC_at : PySem.W.findIn K (.ref CC) "at" = some none)
    (n_CR_cursor : PySem.W.findIn K (.ref CR) "cursor" = some none)
    (n_CR_names : PySem.W.findIn K (.ref CR) "names" = some none)
    (n_CR_left : PySem.W.findIn K (.ref CR) "left" = some none)
    (n_CR_uses : PySem.W.findIn K (.ref CR) "uses" = some none)
    (n_CR_extra : PySem.W.findIn K (.ref CR) "extra" = some none)
    (n_CX_buttons : PySem.W.findIn K (.ref CX) "buttons" = some none)
    (n_CX_answers : PySem.W.findIn K (.ref CX) "answers" = some none)
    (n_CX_variables : PySem.W.findIn K (.ref CX) "variables" = some none)
    (n_CX_start : PySem.W.findIn K (.ref CX) "start" = some none)
    (n_CX_block : PySem.W.findIn K (.ref CX) "block" = some none)
    (a_Cursor_init : PySem.W.findIn K (.ref CC) "__init__" = some (some (.ref f_Cursor_init)))
    (i_Cursor_init : PySem.W.isFn K (.ref f_Cursor_init) = true)
    (l_Cursor_init : K.lookup f_Cursor_init = some ⟨oc_Cursor_init, od_Cursor_init, .func (PySem.W.fnOf "__init__" "Cursor.__init__" (defArgs s_Cursor_init) (defBody s_Cursor_init) (defScope s_Cursor_init) .none kV_Cursor_init dc_Cursor_init pm_Cursor_init an_Cursor_init cd_Cursor_init ct_Cursor_init), sl_Cursor_init⟩)
    (c_Cursor_init : PySem.W.codeIn K cd_Cursor_init "Cursor.__init__" = true)
    (k_Cursor_init : PySem.W.keepIn K (.ref f_Cursor_init) = true)
    (a_Cursor_next : PySem.W.findIn K (.ref CC) "next" = some (some (.ref f_Cursor_next)))
    (i_Cursor_next : PySem.W.isFn K (.ref f_Cursor_next) = true)
    (l_Cursor_next : K.lookup f_Cursor_next = some ⟨oc_Cursor_next, od_Cursor_next, .func (PySem.W.fnOf "next" "Cursor.next" (defArgs s_Cursor_next) (defBody s_Cursor_next) (defScope s_Cursor_next) .none kV_Cursor_next dc_Cursor_next pm_Cursor_next an_Cursor_next cd_Cursor_next ct_Cursor_next), sl_Cursor_next⟩)
    (c_Cursor_next : PySem.W.codeIn K cd_Cursor_next "Cursor.next" = true)
    (k_Cursor_next : PySem.W.keepIn K (.ref f_Cursor_next) = true)
    (a_Cursor_word : PySem.W.findIn K (.ref CC) "word" = some (some (.ref f_Cursor_word)))
    (i_Cursor_word : PySem.W.isFn K (.ref f_Cursor_word) = true)
    (l_Cursor_word : K.lookup f_Cursor_word = some ⟨oc_Cursor_word, od_Cursor_word, .func (PySem.W.fnOf "word" "Cursor.word" (defArgs s_Cursor_word) (defBody s_Cursor_word) (defScope s_Cursor_word) .none kV_Cursor_word dc_Cursor_word pm_Cursor_word an_Cursor_word cd_Cursor_word ct_Cursor_word), sl_Cursor_word⟩)
    (c_Cursor_word : PySem.W.codeIn K cd_Cursor_word "Cursor.word" = true)
    (k_Cursor_word : PySem.W.keepIn K (.ref f_Cursor_word) = true)
    (a_Cursor_number : PySem.W.findIn K (.ref CC) "number" = some (some (.ref f_Cursor_number)))
    (i_Cursor_number : PySem.W.isFn K (.ref f_Cursor_number) = true)
    (l_Cursor_number : K.lookup f_Cursor_number = some ⟨oc_Cursor_number, od_Cursor_number, .func (PySem.W.fnOf "number" "Cursor.number" (defArgs s_Cursor_number) (defBody s_Cursor_number) (defScope s_Cursor_number) .none kV_Cursor_number dc_Cursor_number pm_Cursor_number an_Cursor_number cd_Cursor_number ct_Cursor_number), sl_Cursor_number⟩)
    (c_Cursor_number : PySem.W.codeIn K cd_Cursor_number "Cursor.number" = true)
    (k_Cursor_number : PySem.W.keepIn K (.ref f_Cursor_number) = true)
    (a_Cursor_new_name : PySem.W.findIn K (.ref CC) "new_name" = some (some (.ref f_Cursor_new_name)))
    (i_Cursor_new_name : PySem.W.isFn K (.ref f_Cursor_new_name) = true)
    (l_Cursor_new_name : K.lookup f_Cursor_new_name = some ⟨oc_Cursor_new_name, od_Cursor_new_name, .func (PySem.W.fnOf "new_name" "Cursor.new_name" (defArgs s_Cursor_new_name) (defBody s_Cursor_new_name) (defScope s_Cursor_new_name) .none kV_Cursor_new_name dc_Cursor_new_name pm_Cursor_new_name an_Cursor_new_name cd_Cursor_new_name ct_Cursor_new_name), sl_Cursor_new_name⟩)
    (c_Cursor_new_name : PySem.W.codeIn K cd_Cursor_new_name "Cursor.new_name" = true)
    (k_Cursor_new_name : PySem.W.keepIn K (.ref f_Cursor_new_name) = true)
    (a_Cursor_expression : PySem.W.findIn K (.ref CC) "expression" = some (some (.ref f_Cursor_expression)))
    (i_Cursor_expression : PySem.W.isFn K (.ref f_Cursor_expression) = true)
    (l_Cursor_expression : K.lookup f_Cursor_expression = some ⟨oc_Cursor_expression, od_Cursor_expression, .func (PySem.W.fnOf "expression" "Cursor.expression" (defArgs s_Cursor_expression) (defBody s_Cursor_expression) (defScope s_Cursor_expression) .none kV_Cursor_expression dc_Cursor_expression pm_Cursor_expression an_Cursor_expression cd_Cursor_expression ct_Cursor_expression), sl_Cursor_expression⟩)
    (c_Cursor_expression : PySem.W.codeIn K cd_Cursor_expression "Cursor.expression" = true)
    (k_Cursor_expression : PySem.W.keepIn K (.ref f_Cursor_expression) = true)
    (a_Cursor_finish : PySem.W.findIn K (.ref CC) "finish" = some (some (.ref f_Cursor_finish)))
    (i_Cursor_finish : PySem.W.isFn K (.ref f_Cursor_finish) = true)
    (l_Cursor_finish : K.lookup f_Cursor_finish = some ⟨oc_Cursor_finish, od_Cursor_finish, .func (PySem.W.fnOf "finish" "Cursor.finish" (defArgs s_Cursor_finish) (defBody s_Cursor_finish) (defScope s_Cursor_finish) .none kV_Cursor_finish dc_Cursor_finish pm_Cursor_finish an_Cursor_finish cd_Cursor_finish ct_Cursor_finish), sl_Cursor_finish⟩)
    (c_Cursor_finish : PySem.W.codeIn K cd_Cursor_finish "Cursor.finish" = true)
    (k_Cursor_finish : PySem.W.keepIn K (.ref f_Cursor_finish) = true)
    (a_Reader_init : PySem.W.findIn K (.ref CR) "__init__" = some (some (.ref f_Reader_init)))
    (i_Reader_init : PySem.W.isFn K (.ref f_Reader_init) = true)
    (l_Reader_init : K.lookup f_Reader_init = some ⟨oc_Reader_init, od_Reader_init, .func (PySem.W.fnOf "__init__" "Reader.__init__" (defArgs s_Reader_init) (defBody s_Reader_init) (defScope s_Reader_init) .none kV_Reader_init dc_Reader_init pm_Reader_init an_Reader_init cd_Reader_init ct_Reader_init), sl_Reader_init⟩)
    (c_Reader_init : PySem.W.codeIn K cd_Reader_init "Reader.__init__" = true)
    (k_Reader_init : PySem.W.keepIn K (.ref f_Reader_init) = true)
    (a_Reader_statement : PySem.W.findIn K (.ref CR) "statement" = some (some (.ref f_Reader_statement)))
    (i_Reader_statement : PySem.W.isFn K (.ref f_Reader_statement) = true)
    (l_Reader_statement : K.lookup f_Reader_statement = some ⟨oc_Reader_statement, od_Reader_statement, .func (PySem.W.fnOf "statement" "Reader.statement" (defArgs s_Reader_statement) (defBody s_Reader_statement) (defScope s_Reader_statement) .none kV_Reader_statement dc_Reader_statement pm_Reader_statement an_Reader_statement cd_Reader_statement ct_Reader_statement), sl_Reader_statement⟩)
    (c_Reader_statement : PySem.W.codeIn K cd_Reader_statement "Reader.statement" = true)
    (k_Reader_statement : PySem.W.keepIn K (.ref f_Reader_statement) = true)
    (a_Reader_choice : PySem.W.findIn K (.ref CR) "choice" = some (some (.ref f_Reader_choice)))
    (i_Reader_choice : PySem.W.isFn K (.ref f_Reader_choice) = true)
    (l_Reader_choice : K.lookup f_Reader_choice = some ⟨oc_Reader_choice, od_Reader_choice, .func (PySem.W.fnOf "choice" "Reader.choice" (defArgs s_Reader_choice) (defBody s_Reader_choice) (defScope s_Reader_choice) .none kV_Reader_choice dc_Reader_choice pm_Reader_choice an_Reader_choice cd_Reader_choice ct_Reader_choice), sl_Reader_choice⟩)
    (c_Reader_choice : PySem.W.codeIn K cd_Reader_choice "Reader.choice" = true)
    (k_Reader_choice : PySem.W.keepIn K (.ref f_Reader_choice) = true)
    (a_Reader_block : PySem.W.findIn K (.ref CR) "block" = some (some (.ref f_Reader_block)))
    (i_Reader_block : PySem.W.isFn K (.ref f_Reader_block) = true)
    (l_Reader_block : K.lookup f_Reader_block = some ⟨oc_Reader_block, od_Reader_block, .func (PySem.W.fnOf "block" "Reader.block" (defArgs s_Reader_block) (defBody s_Reader_block) (defScope s_Reader_block) .none kV_Reader_block dc_Reader_block pm_Reader_block an_Reader_block cd_Reader_block ct_Reader_block), sl_Reader_block⟩)
    (c_Reader_block : PySem.W.codeIn K cd_Reader_block "Reader.block" = true)
    (k_Reader_block : PySem.W.keepIn K (.ref f_Reader_block) = true)
    (a_Box_init : PySem.W.findIn K (.ref CX) "__init__" = some (some (.ref f_Box_init)))
    (i_Box_init : PySem.W.isFn K (.ref f_Box_init) = true)
    (l_Box_init : K.lookup f_Box_init = some ⟨oc_Box_init, od_Box_init, .func (PySem.W.fnOf "__init__" "Box.__init__" (defArgs s_Box_init) (defBody s_Box_init) (defScope s_Box_init) .none kV_Box_init dc_Box_init pm_Box_init an_Box_init cd_Box_init ct_Box_init), sl_Box_init⟩)
    (c_Box_init : PySem.W.codeIn K cd_Box_init "Box.__init__" = true)
    (k_Box_init : PySem.W.keepIn K (.ref f_Box_init) = true)
    (a_is_name : PySem.W.nsIn K mainGlobals "is_name" = some (some (.ref f_is_name)))
    (l_is_name : K.lookup f_is_name = some ⟨oc_is_name, od_is_name, .func (PySem.W.fnOf "is_name" "is_name" (defArgs s_is_name) (defBody s_is_name) (defScope s_is_name) .none kV_is_name dc_is_name pm_is_name an_is_name cd_is_name ct_is_name), sl_is_name⟩)
    (c_is_name : PySem.W.codeIn K cd_is_name "is_name" = true)
    (k_is_name : PySem.W.keepIn K (.ref f_is_name) = true)
    (a_digits_of : PySem.W.nsIn K mainGlobals "digits_of" = some (some (.ref f_digits_of)))
    (l_digits_of : K.lookup f_digits_of = some ⟨oc_digits_of, od_digits_of, .func (PySem.W.fnOf "digits_of" "digits_of" (defArgs s_digits_of) (defBody s_digits_of) (defScope s_digits_of) .none kV_digits_of dc_digits_of pm_digits_of an_digits_of cd_digits_of ct_digits_of), sl_digits_of⟩)
    (c_digits_of : PySem.W.codeIn K cd_digits_of "digits_of" = true)
    (k_digits_of : PySem.W.keepIn K (.ref f_digits_of) = true)
    (a_number_of : PySem.W.nsIn K mainGlobals "number_of" = some (some (.ref f_number_of)))
    (l_number_of : K.lookup f_number_of = some ⟨oc_number_of, od_number_of, .func (PySem.W.fnOf "number_of" "number_of" (defArgs s_number_of) (defBody s_number_of) (defScope s_number_of) .none kV_number_of dc_number_of pm_number_of an_number_of cd_number_of ct_number_of), sl_number_of⟩)
    (c_number_of : PySem.W.codeIn K cd_number_of "number_of" = true)
    (k_number_of : PySem.W.keepIn K (.ref f_number_of) = true)
    (a_expression_words : PySem.W.nsIn K mainGlobals "expression_words" = some (some (.ref f_expression_words)))
    (l_expression_words : K.lookup f_expression_words = some ⟨oc_expression_words, od_expression_words, .func (PySem.W.fnOf "expression_words" "expression_words" (defArgs s_expression_words) (defBody s_expression_words) (defScope s_expression_words) .none kV_expression_words dc_expression_words pm_expression_words an_expression_words cd_expression_words ct_expression_words), sl_expression_words⟩)
    (c_expression_words : PySem.W.codeIn K cd_expression_words "expression_words" = true)
    (k_expression_words : PySem.W.keepIn K (.ref f_expression_words) = true)
    (a_read_box : PySem.W.nsIn K mainGlobals "read_box" = some (some (.ref f_read_box)))
    (l_read_box : K.lookup f_read_box = some ⟨oc_read_box, od_read_box, .func (PySem.W.fnOf "read_box" "read_box" (defArgs s_read_box) (defBody s_read_box) (defScope s_read_box) .none kV_read_box dc_read_box pm_read_box an_read_box cd_read_box ct_read_box), sl_read_box⟩)
    (c_read_box : PySem.W.codeIn K cd_read_box "read_box" = true)
    (k_read_box : PySem.W.keepIn K (.ref f_read_box) = true)
    (a_read_around : PySem.W.nsIn K mainGlobals "read_around" = some (some (.ref f_read_around)))
    (l_read_around : K.lookup f_read_around = some ⟨oc_read_around, od_read_around, .func (PySem.W.fnOf "read_around" "read_around" (defArgs s_read_around) (defBody s_read_around) (defScope s_read_around) .none kV_read_around dc_read_around pm_read_around an_read_around cd_read_around ct_read_around), sl_read_around⟩)
    (c_read_around : PySem.W.codeIn K cd_read_around "read_around" = true)
    (k_read_around : PySem.W.keepIn K (.ref f_read_around) = true)
    (a_read_any : PySem.W.nsIn K mainGlobals "read_any" = some (some (.ref f_read_any)))
    (l_read_any : K.lookup f_read_any = some ⟨oc_read_any, od_read_any, .func (PySem.W.fnOf "read_any" "read_any" (defArgs s_read_any) (defBody s_read_any) (defScope s_read_any) .none kV_read_any dc_read_any pm_read_any an_read_any cd_read_any ct_read_any), sl_read_any⟩)
    (c_read_any : PySem.W.codeIn K cd_read_any "read_any" = true)
    (k_read_any : PySem.W.keepIn K (.ref f_read_any) = true)
    (a_block_words : PySem.W.nsIn K mainGlobals "block_words" = some (some (.ref f_block_words)))
    (l_block_words : K.lookup f_block_words = some ⟨oc_block_words, od_block_words, .func (PySem.W.fnOf "block_words" "block_words" (defArgs s_block_words) (defBody s_block_words) (defScope s_block_words) .none kV_block_words dc_block_words pm_block_words an_block_words cd_block_words ct_block_words), sl_block_words⟩)
    (c_block_words : PySem.W.codeIn K cd_block_words "block_words" = true)
    (k_block_words : PySem.W.keepIn K (.ref f_block_words) = true)
    (a_box_text : PySem.W.nsIn K mainGlobals "box_text" = some (some (.ref f_box_text)))
    (l_box_text : K.lookup f_box_text = some ⟨oc_box_text, od_box_text, .func (PySem.W.fnOf "box_text" "box_text" (defArgs s_box_text) (defBody s_box_text) (defScope s_box_text) .none kV_box_text dc_box_text pm_box_text an_box_text cd_box_text ct_box_text), sl_box_text⟩)
    (c_box_text : PySem.W.codeIn K cd_box_text "box_text" = true)
    (k_box_text : PySem.W.keepIn K (.ref f_box_text) = true)
    (a_law_pool : PySem.W.nsIn K mainGlobals "_law_pool" = some (some (.ref f_law_pool)))
    (l_law_pool : K.lookup f_law_pool = some ⟨oc_law_pool, od_law_pool, .func (PySem.W.fnOf "_law_pool" "_law_pool" (defArgs s_law_pool) (defBody s_law_pool) (defScope s_law_pool) .none kV_law_pool dc_law_pool pm_law_pool an_law_pool cd_law_pool ct_law_pool), sl_law_pool⟩)
    (c_law_pool : PySem.W.codeIn K cd_law_pool "_law_pool" = true)
    (k_law_pool : PySem.W.keepIn K (.ref f_law_pool) = true)
    (a_law_draw : PySem.W.nsIn K mainGlobals "_law_draw" = some (some (.ref f_law_draw)))
    (l_law_draw : K.lookup f_law_draw = some ⟨oc_law_draw, od_law_draw, .func (PySem.W.fnOf "_law_draw" "_law_draw" (defArgs s_law_draw) (defBody s_law_draw) (defScope s_law_draw) .none kV_law_draw dc_law_draw pm_law_draw an_law_draw cd_law_draw ct_law_draw), sl_law_draw⟩)
    (c_law_draw : PySem.W.codeIn K cd_law_draw "_law_draw" = true)
    (k_law_draw : PySem.W.keepIn K (.ref f_law_draw) = true)
    (a_law_spend : PySem.W.nsIn K mainGlobals "_law_spend" = some (some (.ref f_law_spend)))
    (l_law_spend : K.lookup f_law_spend = some ⟨oc_law_spend, od_law_spend, .func (PySem.W.fnOf "_law_spend" "_law_spend" (defArgs s_law_spend) (defBody s_law_spend) (defScope s_law_spend) .none kV_law_spend dc_law_spend pm_law_spend an_law_spend cd_law_spend ct_law_spend), sl_law_spend⟩)
    (c_law_spend : PySem.W.codeIn K cd_law_spend "_law_spend" = true)
    (k_law_spend : PySem.W.keepIn K (.ref f_law_spend) = true)
    (a_law_same : PySem.W.nsIn K mainGlobals "_law_same" = some (some (.ref f_law_same)))
    (l_law_same : K.lookup f_law_same = some ⟨oc_law_same, od_law_same, .func (PySem.W.fnOf "_law_same" "_law_same" (defArgs s_law_same) (defBody s_law_same) (defScope s_law_same) .none kV_law_same dc_law_same pm_law_same an_law_same cd_law_same ct_law_same), sl_law_same⟩)
    (c_law_same : PySem.W.codeIn K cd_law_same "_law_same" = true)
    (k_law_same : PySem.W.keepIn K (.ref f_law_same) = true)
    (a_law_value : PySem.W.nsIn K mainGlobals "_law_value" = some (some (.ref f_law_value)))
    (l_law_value : K.lookup f_law_value = some ⟨oc_law_value, od_law_value, .func (PySem.W.fnOf "_law_value" "_law_value" (defArgs s_law_value) (defBody s_law_value) (defScope s_law_value) .none kV_law_value dc_law_value pm_law_value an_law_value cd_law_value ct_law_value), sl_law_value⟩)
    (c_law_value : PySem.W.codeIn K cd_law_value "_law_value" = true)
    (k_law_value : PySem.W.keepIn K (.ref f_law_value) = true)
    (a_law_value_words : PySem.W.nsIn K mainGlobals "_law_value_words" = some (some (.ref f_law_value_words)))
    (l_law_value_words : K.lookup f_law_value_words = some ⟨oc_law_value_words, od_law_value_words, .func (PySem.W.fnOf "_law_value_words" "_law_value_words" (defArgs s_law_value_words) (defBody s_law_value_words) (defScope s_law_value_words) .none kV_law_value_words dc_law_value_words pm_law_value_words an_law_value_words cd_law_value_words ct_law_value_words), sl_law_value_words⟩)
    (c_law_value_words : PySem.W.codeIn K cd_law_value_words "_law_value_words" = true)
    (k_law_value_words : PySem.W.keepIn K (.ref f_law_value_words) = true)
    (a_law_is_name : PySem.W.nsIn K mainGlobals "_law_is_name" = some (some (.ref f_law_is_name)))
    (l_law_is_name : K.lookup f_law_is_name = some ⟨oc_law_is_name, od_law_is_name, .func (PySem.W.fnOf "_law_is_name" "_law_is_name" (defArgs s_law_is_name) (defBody s_law_is_name) (defScope s_law_is_name) .none kV_law_is_name dc_law_is_name pm_law_is_name an_law_is_name cd_law_is_name ct_law_is_name), sl_law_is_name⟩)
    (c_law_is_name : PySem.W.codeIn K cd_law_is_name "_law_is_name" = true)
    (k_law_is_name : PySem.W.keepIn K (.ref f_law_is_name) = true)
    (a_law_is_number : PySem.W.nsIn K mainGlobals "_law_is_number" = some (some (.ref f_law_is_number)))
    (l_law_is_number : K.lookup f_law_is_number = some ⟨oc_law_is_number, od_law_is_number, .func (PySem.W.fnOf "_law_is_number" "_law_is_number" (defArgs s_law_is_number) (defBody s_law_is_number) (defScope s_law_is_number) .none kV_law_is_number dc_law_is_number pm_law_is_number an_law_is_number cd_law_is_number ct_law_is_number), sl_law_is_number⟩)
    (c_law_is_number : PySem.W.codeIn K cd_law_is_number "_law_is_number" = true)
    (k_law_is_number : PySem.W.keepIn K (.ref f_law_is_number) = true)
    (a_law_values : PySem.W.nsIn K mainGlobals "_law_values" = some (some (.ref f_law_values)))
    (l_law_values : K.lookup f_law_values = some ⟨oc_law_values, od_law_values, .func (PySem.W.fnOf "_law_values" "_law_values" (defArgs s_law_values) (defBody s_law_values) (defScope s_law_values) .none kV_law_values dc_law_values pm_law_values an_law_values cd_law_values ct_law_values), sl_law_values⟩)
    (c_law_values : PySem.W.codeIn K cd_law_values "_law_values" = true)
    (k_law_values : PySem.W.keepIn K (.ref f_law_values) = true)
    (a_law_spoilt : PySem.W.nsIn K mainGlobals "_law_spoilt" = some (some (.ref f_law_spoilt)))
    (l_law_spoilt : K.lookup f_law_spoilt = some ⟨oc_law_spoilt, od_law_spoilt, .func (PySem.W.fnOf "_law_spoilt" "_law_spoilt" (defArgs s_law_spoilt) (defBody s_law_spoilt) (defScope s_law_spoilt) .none kV_law_spoilt dc_law_spoilt pm_law_spoilt an_law_spoilt cd_law_spoilt ct_law_spoilt), sl_law_spoilt⟩)
    (c_law_spoilt : PySem.W.codeIn K cd_law_spoilt "_law_spoilt" = true)
    (k_law_spoilt : PySem.W.keepIn K (.ref f_law_spoilt) = true)
    (a_law_changed : PySem.W.nsIn K mainGlobals "_law_changed" = some (some (.ref f_law_changed)))
    (l_law_changed : K.lookup f_law_changed = some ⟨oc_law_changed, od_law_changed, .func (PySem.W.fnOf "_law_changed" "_law_changed" (defArgs s_law_changed) (defBody s_law_changed) (defScope s_law_changed) .none kV_law_changed dc_law_changed pm_law_changed an_law_changed cd_law_changed ct_law_changed), sl_law_changed⟩)
    (c_law_changed : PySem.W.codeIn K cd_law_changed "_law_changed" = true)
    (k_law_changed : PySem.W.keepIn K (.ref f_law_changed) = true)
    (a_law_joined : PySem.W.nsIn K mainGlobals "_law_joined" = some (some (.ref f_law_joined)))
    (l_law_joined : K.lookup f_law_joined = some ⟨oc_law_joined, od_law_joined, .func (PySem.W.fnOf "_law_joined" "_law_joined" (defArgs s_law_joined) (defBody s_law_joined) (defScope s_law_joined) .none kV_law_joined dc_law_joined pm_law_joined an_law_joined cd_law_joined ct_law_joined), sl_law_joined⟩)
    (c_law_joined : PySem.W.codeIn K cd_law_joined "_law_joined" = true)
    (k_law_joined : PySem.W.keepIn K (.ref f_law_joined) = true)
    (a_law_menu : PySem.W.nsIn K mainGlobals "_law_menu" = some (some (.ref f_law_menu)))
    (l_law_menu : K.lookup f_law_menu = some ⟨oc_law_menu, od_law_menu, .func (PySem.W.fnOf "_law_menu" "_law_menu" (defArgs s_law_menu) (defBody s_law_menu) (defScope s_law_menu) .none kV_law_menu dc_law_menu pm_law_menu an_law_menu cd_law_menu ct_law_menu), sl_law_menu⟩)
    (c_law_menu : PySem.W.codeIn K cd_law_menu "_law_menu" = true)
    (k_law_menu : PySem.W.keepIn K (.ref f_law_menu) = true)
    (a_law_names : PySem.W.nsIn K mainGlobals "_law_names" = some (some (.ref f_law_names)))
    (l_law_names : K.lookup f_law_names = some ⟨oc_law_names, od_law_names, .func (PySem.W.fnOf "_law_names" "_law_names" (defArgs s_law_names) (defBody s_law_names) (defScope s_law_names) .none kV_law_names dc_law_names pm_law_names an_law_names cd_law_names ct_law_names), sl_law_names⟩)
    (c_law_names : PySem.W.codeIn K cd_law_names "_law_names" = true)
    (k_law_names : PySem.W.keepIn K (.ref f_law_names) = true)
    (a_law_block : PySem.W.nsIn K mainGlobals "_law_block" = some (some (.ref f_law_block)))
    (l_law_block : K.lookup f_law_block = some ⟨oc_law_block, od_law_block, .func (PySem.W.fnOf "_law_block" "_law_block" (defArgs s_law_block) (defBody s_law_block) (defScope s_law_block) .none kV_law_block dc_law_block pm_law_block an_law_block cd_law_block ct_law_block), sl_law_block⟩)
    (c_law_block : PySem.W.codeIn K cd_law_block "_law_block" = true)
    (k_law_block : PySem.W.keepIn K (.ref f_law_block) = true)
    (a_law_statement : PySem.W.nsIn K mainGlobals "_law_statement" = some (some (.ref f_law_statement)))
    (l_law_statement : K.lookup f_law_statement = some ⟨oc_law_statement, od_law_statement, .func (PySem.W.fnOf "_law_statement" "_law_statement" (defArgs s_law_statement) (defBody s_law_statement) (defScope s_law_statement) .none kV_law_statement dc_law_statement pm_law_statement an_law_statement cd_law_statement ct_law_statement), sl_law_statement⟩)
    (c_law_statement : PySem.W.codeIn K cd_law_statement "_law_statement" = true)
    (k_law_statement : PySem.W.keepIn K (.ref f_law_statement) = true)
    (a_law_box : PySem.W.nsIn K mainGlobals "_law_box" = some (some (.ref f_law_box)))
    (l_law_box : K.lookup f_law_box = some ⟨oc_law_box, od_law_box, .func (PySem.W.fnOf "_law_box" "_law_box" (defArgs s_law_box) (defBody s_law_box) (defScope s_law_box) .none kV_law_box dc_law_box pm_law_box an_law_box cd_law_box ct_law_box), sl_law_box⟩)
    (c_law_box : PySem.W.codeIn K cd_law_box "_law_box" = true)
    (k_law_box : PySem.W.keepIn K (.ref f_law_box) = true)
    (a_law_block_words : PySem.W.nsIn K mainGlobals "_law_block_words" = some (some (.ref f_law_block_words)))
    (l_law_block_words : K.lookup f_law_block_words = some ⟨oc_law_block_words, od_law_block_words, .func (PySem.W.fnOf "_law_block_words" "_law_block_words" (defArgs s_law_block_words) (defBody s_law_block_words) (defScope s_law_block_words) .none kV_law_block_words dc_law_block_words pm_law_block_words an_law_block_words cd_law_block_words ct_law_block_words), sl_law_block_words⟩)
    (c_law_block_words : PySem.W.codeIn K cd_law_block_words "_law_block_words" = true)
    (k_law_block_words : PySem.W.keepIn K (.ref f_law_block_words) = true)
    (a_law_words : PySem.W.nsIn K mainGlobals "_law_words" = some (some (.ref f_law_words)))
    (l_law_words : K.lookup f_law_words = some ⟨oc_law_words, od_law_words, .func (PySem.W.fnOf "_law_words" "_law_words" (defArgs s_law_words) (defBody s_law_words) (defScope s_law_words) .none kV_law_words dc_law_words pm_law_words an_law_words cd_law_words ct_law_words), sl_law_words⟩)
    (c_law_words : PySem.W.codeIn K cd_law_words "_law_words" = true)
    (k_law_words : PySem.W.keepIn K (.ref f_law_words) = true)
    (a_law_blocks : PySem.W.nsIn K mainGlobals "_law_blocks" = some (some (.ref f_law_blocks)))
    (l_law_blocks : K.lookup f_law_blocks = some ⟨oc_law_blocks, od_law_blocks, .func (PySem.W.fnOf "_law_blocks" "_law_blocks" (defArgs s_law_blocks) (defBody s_law_blocks) (defScope s_law_blocks) .none kV_law_blocks dc_law_blocks pm_law_blocks an_law_blocks cd_law_blocks ct_law_blocks), sl_law_blocks⟩)
    (c_law_blocks : PySem.W.codeIn K cd_law_blocks "_law_blocks" = true)
    (k_law_blocks : PySem.W.keepIn K (.ref f_law_blocks) = true)
    (a_law_next : PySem.W.nsIn K mainGlobals "_law_next" = some (some (.ref f_law_next)))
    (l_law_next : K.lookup f_law_next = some ⟨oc_law_next, od_law_next, .func (PySem.W.fnOf "_law_next" "_law_next" (defArgs s_law_next) (defBody s_law_next) (defScope s_law_next) .none kV_law_next dc_law_next pm_law_next an_law_next cd_law_next ct_law_next), sl_law_next⟩)
    (c_law_next : PySem.W.codeIn K cd_law_next "_law_next" = true)
    (k_law_next : PySem.W.keepIn K (.ref f_law_next) = true)
    (a_law_wrong : PySem.W.nsIn K mainGlobals "_law_wrong" = some (some (.ref f_law_wrong)))
    (l_law_wrong : K.lookup f_law_wrong = some ⟨oc_law_wrong, od_law_wrong, .func (PySem.W.fnOf "_law_wrong" "_law_wrong" (defArgs s_law_wrong) (defBody s_law_wrong) (defScope s_law_wrong) .none kV_law_wrong dc_law_wrong pm_law_wrong an_law_wrong cd_law_wrong ct_law_wrong), sl_law_wrong⟩)
    (c_law_wrong : PySem.W.codeIn K cd_law_wrong "_law_wrong" = true)
    (k_law_wrong : PySem.W.keepIn K (.ref f_law_wrong) = true)
    (a_law : PySem.W.nsIn K mainGlobals "law" = some (some (.ref f_law)))
    (l_law : K.lookup f_law = some ⟨oc_law, od_law, .func (PySem.W.fnOf "law" "law" (defArgs s_law) (defBody s_law) (defScope s_law) .none kV_law dc_law pm_law an_law cd_law ct_law), sl_law⟩)
    (c_law : PySem.W.codeIn K cd_law "law" = true)
    (k_law : PySem.W.keepIn K (.ref f_law) = true)
    (g_KEYS : PySem.W.nsIn K mainGlobals "KEYS" = some (some (.ref aK)))
    (l_KEYS : K.lookup aK = some ⟨.type "tuple", dd_aK, .seq #[.str "buttons" t_aK_0, .str "answers" t_aK_1, .str "var" t_aK_2, .str "start" t_aK_3, .str "press" t_aK_4, .str "set" t_aK_5, .str "draw" t_aK_6, .str "use" t_aK_7, .str "say" t_aK_8, .str "if" t_aK_9, .str "else" t_aK_10, .str "end" t_aK_11, .str "mod" t_aK_12] n_aK, sl_aK⟩)
    (g_SIGNS : PySem.W.nsIn K mainGlobals "SIGNS" = some (some (.ref aS)))
    (l_SIGNS : K.lookup aS = some ⟨.type "tuple", dd_aS, .seq #[.str "+" t_aS_0, .str "-" t_aS_1, .str "*" t_aS_2, .str "/" t_aS_3, .str "mod" t_aS_4, .str "<" t_aS_5, .str "=" t_aS_6] n_aS, sl_aS⟩)
    (g_GREATEST : PySem.W.nsIn K mainGlobals "GREATEST" = some (some (.int 65535 t_GREATEST)))
    (g_DEEPEST : PySem.W.nsIn K mainGlobals "DEEPEST" = some (some (.int 5 t_DEEPEST)))
    (g_MOST_VARIABLES : PySem.W.nsIn K mainGlobals "MOST_VARIABLES" = some (some (.int 4 t_MOST_VARIABLES)))
    (g_MOST_SIZE : PySem.W.nsIn K mainGlobals "MOST_SIZE" = some (some (.int 12 t_MOST_SIZE)))
    (g_MOST_DRAWS : PySem.W.nsIn K mainGlobals "MOST_DRAWS" = some (some (.int 3 t_MOST_DRAWS)))
    (g_MOST_USES : PySem.W.nsIn K mainGlobals "MOST_USES" = some (some (.int 24 t_MOST_USES)))
    (g_MOST_RESULTS : PySem.W.nsIn K mainGlobals "MOST_RESULTS" = some (some (.int 6 t_MOST_RESULTS)))
    (g_MOST_IFS : PySem.W.nsIn K mainGlobals "MOST_IFS" = some (some (.int 4 t_MOST_IFS)))
    (z_len : PySem.W.nsIn K mainGlobals "len" = some none)
    (z_all : PySem.W.nsIn K mainGlobals "all" = some none)
    (z_range : PySem.W.nsIn K mainGlobals "range" = some none)
    (z_isinstance : PySem.W.nsIn K mainGlobals "isinstance" = some none)
    (z_int : PySem.W.nsIn K mainGlobals "int" = some none)
    (z_str : PySem.W.nsIn K mainGlobals "str" = some none)
    (z_tuple : PySem.W.nsIn K mainGlobals "tuple" = some none)
    (z_list : PySem.W.nsIn K mainGlobals "list" = some none)
    (z_bool : PySem.W.nsIn K mainGlobals "bool" = some none)
    (z_super : PySem.W.nsIn K mainGlobals "super" = some none)
    (a_CB : PySem.W.nsIn K mainGlobals "BadText" = some (some (.ref CB)))
    (x_CB : K.lookup CB = some (PySem.excClassObj nm q CB N bs bm true sn sub ab col dd m0 m1 m2 m3 m5 "ValueError.__new__"))
    (r_CB : PySem.HandSPX.refsVE bm = true)
    (sa_CB : PySem.W.findIn K (.ref CB) "__setattr__" = some (some (.builtin "object.__setattr__")))
    (n_CB : PySem.W.findIn K (.ref CB) "at" = some none)
    (i_CB : PySem.W.findIn K (.ref CB) "__init__" = some (some (.ref fB)))
    (t_fB : PySem.W.typeIn K (.ref fB) = some (.type "function"))
    (k_CB : PySem.W.keepIn K (.ref CB) = true)
    (e_CB : PySem.W.subIn K (.ref CB) (.type "BaseException") = some true)
    (v_CB : PySem.W.subIn K (.ref CB) (.type "ValueError") = some true)
    (m_CB : PySem.W.mroIn K CB (.ref CB) = some true)
    (s_CB : PySem.W.subIn K (.ref CB) (.ref CB) = some true)
    (op_ : PySem.W.nsIn K cStatics "thirdparty.any" = some none)
    (su_CB : PySem.W.ks_superIn K CB CB "__init__" = some (some (.builtin "ValueError.__init__")))
    (ty_CB : PySem.W.typeIn K (.ref CB) = some (.type "type"))
    (l_fB : K.lookup fB = some ⟨ocB, odB, .func (PySem.W.fnX "__init__" "BadText.__init__" PySem.BtX.iA PySem.BtX.iB PySem.BtX.iS [("__class__", cc)] .none .none docB pmB anB (.ref cda) ctB), oslB⟩)
    (c_fB : PySem.W.codeIn K (.ref cda) "BadText.__init__" = true)
    (l_cda : K.lookup cda = some ⟨ccl, cdd, .fields cvs, ccs⟩)
    (v_cda : cvs[2]? = some (.str file tf))
    (f_cda : ((P.main.file : Str) == file) = true)
    (l_cc : K.lookup cc = some ⟨cl, cld, .cell (some (.ref CB)), csl⟩)
    (tp : (P.main.scope.names.lookup ("super" : Str)).isSome = false)
    (ga_CB : PySem.W.findIn K (.ref CB) "__getattribute__" = some (some (.builtin "BaseException.__getattribute__")))
    (gg_CB : PySem.W.findIn K (.ref CB) "__getattr__" = some none)
    (hd_CB : PySem.W.hasDictIn K CB = true)
    (ha_CB : PySem.W.findIn K (.ref CB) "__class__" = some (some (.builtin "object.__class__")))
    (hn_ : PySem.W.specialIn K (.builtin "object.__class__") "__get__" = some (some (.builtin "getset_descriptor.__get__")))
    (ht_ : PySem.W.takesIn K (.builtin "object.__class__") = some true)
    (hm_CB : PySem.W.mroIn K CB (.type "object") = some true)
    (a_CT : PySem.W.nsIn K mainGlobals "TestError" = some (some (.ref CT)))
    (e_CT : PySem.W.subIn K (.ref CT) (.type "BaseException") = some true)
    (h_CT : PySem.W.hasDictIn K CT = true)
    (t_CT : PySem.W.typeIn K (.ref CT) = some (.type "type"))
    (s_CT : PySem.W.subIn K (.ref CB) (.ref CT) = some true)
    (a_C1 : PySem.W.nsIn K mainGlobals "BadMachine" = some (some (.ref C1)))
    (h_C1 : PySem.W.hasDictIn K C1 = true)
    (t_C1 : PySem.W.typeIn K (.ref C1) = some (.type "type"))
    (s_C1 : PySem.W.subIn K (.ref CB) (.ref C1) = some false)
    (a_C2 : PySem.W.nsIn K mainGlobals "BadPaper" = some (some (.ref C2)))
    (h_C2 : PySem.W.hasDictIn K C2 = true)
    (t_C2 : PySem.W.typeIn K (.ref C2) = some (.type "type"))
    (s_C2 : PySem.W.subIn K (.ref CB) (.ref C2) = some false)
    (a_C3 : PySem.W.nsIn K mainGlobals "BadRatio" = some (some (.ref C3)))
    (h_C3 : PySem.W.hasDictIn K C3 = true)
    (t_C3 : PySem.W.typeIn K (.ref C3) = some (.type "type"))
    (s_C3 : PySem.W.subIn K (.ref CB) (.ref C3) = some false)
    (a_C4 : PySem.W.nsIn K mainGlobals "TooLarge" = some (some (.ref C4)))
    (h_C4 : PySem.W.hasDictIn K C4 = true)
    (t_C4 : PySem.W.typeIn K (.ref C4) = some (.type "type"))
    (s_C4 : PySem.W.subIn K (.ref CB) (.ref C4) = some false)
    : ∃ fd : FuncData, (∀ (s : Shared) (v : Value), BindsTo s fd ⟨[v], []⟩ [("_law_script", v)]) ∧ ∀ base : Heap, K.In base → base.Ns mainGlobals mg → FnOk P w K mg base CX0 25 fa fd ["_law_script"] (spLaw K) := by
  have e := hfa.symm.trans (PySem.W.mg_of X G a_law)
  cases e
  have bt : PySem.BtX.BtTxt P K mg CB fB := { gC := PySem.W.mg_of X G a_CB, gS := PySem.W.mg_none_of X G z_super, top := tp, cls := ⟨nm, q, N, bs, bm, sn, sub, ab, col, dd, m0, m1, m2, m3, m5, x_CB, r_CB⟩, sa := sa_CB, noN := n_CB, iC := i_CB, tC := t_fB, kC := k_CB, exC := e_CB, exV := v_CB, mroC := m_CB, op := op_, su := su_CB, tyC := ty_CB, fn := ⟨_, _, _, _, _, _, _, _, _, l_fB, c_fB, ⟨_, _, _, _, _, _, l_cda, v_cda, f_cda⟩, ⟨_, _, _, l_cc⟩⟩ }
  have T : Txt P K mg CB fB CC CR CX aK aS := { bt := bt, len := PySem.W.mg_none_of X G z_len, all := PySem.W.mg_none_of X G z_all, range := PySem.W.mg_none_of X G z_range, isinstance := PySem.W.mg_none_of X G z_isinstance, int_ := PySem.W.mg_none_of X G z_int, str_ := PySem.W.mg_none_of X G z_str, tuple_ := PySem.W.mg_none_of X G z_tuple, list_ := PySem.W.mg_none_of X G z_list, bool_ := PySem.W.mg_none_of X G z_bool, gKEYS := ⟨_, PySem.W.mg_of X G g_KEYS, rfl⟩, kKEYS := fun H => .inr ⟨_, _, _, l_KEYS, rfl, rfl, by show 13 ≤ sizeLine; decide, .cons ⟨t_aK_0, rfl⟩ (.cons ⟨t_aK_1, rfl⟩ (.cons ⟨t_aK_2, rfl⟩ (.cons ⟨t_aK_3, rfl⟩ (.cons ⟨t_aK_4, rfl⟩ (.cons ⟨t_aK_5, rfl⟩ (.cons ⟨t_aK_6, rfl⟩ (.cons ⟨t_aK_7, rfl⟩ (.cons ⟨t_aK_8, rfl⟩ (.cons ⟨t_aK_9, rfl⟩ (.cons ⟨t_aK_10, rfl⟩ (.cons ⟨t_aK_11, rfl⟩ (.cons ⟨t_aK_12, rfl⟩ (.nil)))))))))))))⟩, gSIGNS := ⟨_, PySem.W.mg_of X G g_SIGNS, rfl⟩, kSIGNS := fun H => .inr ⟨_, _, _, l_SIGNS, rfl, rfl, by show 7 ≤ sizeLine; decide, .cons ⟨t_aS_0, rfl⟩ (.cons ⟨t_aS_1, rfl⟩ (.cons ⟨t_aS_2, rfl⟩ (.cons ⟨t_aS_3, rfl⟩ (.cons ⟨t_aS_4, rfl⟩ (.cons ⟨t_aS_5, rfl⟩ (.cons ⟨t_aS_6, rfl⟩ (.nil)))))))⟩, gGREATEST := ⟨_, PySem.W.mg_of X G g_GREATEST, ⟨_, rfl⟩⟩, gDEEPEST := ⟨_, PySem.W.mg_of X G g_DEEPEST, ⟨_, rfl⟩⟩, gMOST_VARIABLES := ⟨_, PySem.W.mg_of X G g_MOST_VARIABLES, ⟨_, rfl⟩⟩, gMOST_SIZE := ⟨_, PySem.W.mg_of X G g_MOST_SIZE, ⟨_, rfl⟩⟩, gMOST_DRAWS := ⟨_, PySem.W.mg_of X G g_MOST_DRAWS, ⟨_, rfl⟩⟩, gMOST_USES := ⟨_, PySem.W.mg_of X G g_MOST_USES, ⟨_, rfl⟩⟩, gMOST_RESULTS := ⟨_, PySem.W.mg_of X G g_MOST_RESULTS, ⟨_, rfl⟩⟩, gMOST_IFS := ⟨_, PySem.W.mg_of X G g_MOST_IFS, ⟨_, rfl⟩⟩, clCursor := ⟨pg_CC, hd_CC, po_CC, sa_CC⟩, clReader := ⟨pg_CR, hd_CR, po_CR, sa_CR⟩, clBox := ⟨pg_CX, hd_CX, po_CX, sa_CX⟩, cWords := n_CC_words, cAt := n_CC_at, rCursor := n_CR_cursor, rNames := n_CR_names, rLeft := n_CR_left, rUses := n_CR_uses, rExtra := n_CR_extra, xButtons := n_CX_buttons, xAnswers := n_CX_answers, xVariables := n_CX_variables, xStart := n_CX_start, xBlock := n_CX_block }
  have TL : TxtL K mg CB CT C1 C2 C3 C4 := { gT := PySem.W.mg_of X G a_CT, exT := PySem.W.exm_ref e_CT h_CT t_CT s_CT, g1 := PySem.W.mg_of X G a_C1, g2 := PySem.W.mg_of X G a_C2, g3 := PySem.W.mg_of X G a_C3, g4 := PySem.W.mg_of X G a_C4, kT := kit4 (kit_no s_CB h_C1 t_C1 s_C1) (kit_no s_CB h_C2 t_C2 s_C2) (kit_no s_CB h_C3 t_C3 s_C3) (kit_no s_CB h_C4 t_C4 s_C4), ec := ⟨ga_CB, gg_CB, e_CB, hd_CB, ha_CB, hn_, ht_, hm_CB⟩, xf := ⟨ga_CB, gg_CB, e_CB, hd_CB⟩ }
  have F_Cursor_init := fun_mk (st := s_Cursor_init) l_Cursor_init c_Cursor_init k_Cursor_init
  have b_Cursor_init := F_Cursor_init.binds (ps := ["self", "text"]) fun _ _ _ _ _ _ us hl => match us, hl with | [_, _], _ => rfl
  have F_Cursor_next := fun_mk (st := s_Cursor_next) l_Cursor_next c_Cursor_next k_Cursor_next
  have b_Cursor_next := F_Cursor_next.binds (ps := ["self"]) fun _ _ _ _ _ _ us hl => match us, hl with | [_], _ => rfl
  have F_Cursor_word := fun_mk (st := s_Cursor_word) l_Cursor_word c_Cursor_word k_Cursor_word
  have b_Cursor_word := F_Cursor_word.binds (ps := ["self", "words"]) fun _ _ _ _ _ _ us hl => match us, hl with | [_, _], _ => rfl
  have F_Cursor_number := fun_mk (st := s_Cursor_number) l_Cursor_number c_Cursor_number k_Cursor_number
  have b_Cursor_number := F_Cursor_number.binds (ps := ["self", "least", "most"]) fun _ _ _ _ _ _ us hl => match us, hl with | [_, _, _], _ => rfl
  have F_Cursor_new_name := fun_mk (st := s_Cursor_new_name) l_Cursor_new_name c_Cursor_new_name k_Cursor_new_name
  have b_Cursor_new_name := F_Cursor_new_name.binds (ps := ["self", "names"]) fun _ _ _ _ _ _ us hl => match us, hl with | [_, _], _ => rfl
  have F_Cursor_expression := fun_mk (st := s_Cursor_expression) l_Cursor_expression c_Cursor_expression k_Cursor_expression
  have b_Cursor_expression := F_Cursor_expression.binds (ps := ["self", "names", "extra", "room"]) fun _ _ _ _ _ _ us hl => match us, hl with | [_, _, _, _], _ => rfl
  have F_Cursor_finish := fun_mk (st := s_Cursor_finish) l_Cursor_finish c_Cursor_finish k_Cursor_finish
  have b_Cursor_finish := F_Cursor_finish.binds (ps := ["self"]) fun _ _ _ _ _ _ us hl => match us, hl with | [_], _ => rfl
  have F_Reader_init := fun_mk (st := s_Reader_init) l_Reader_init c_Reader_init k_Reader_init
  have b_Reader_init := F_Reader_init.binds (ps := ["self", "cursor", "uses"]) fun _ _ _ _ _ _ us hl => match us, hl with | [_, _, _], _ => rfl
  have F_Reader_statement := fun_mk (st := s_Reader_statement) l_Reader_statement c_Reader_statement k_Reader_statement
  have b_Reader_statement := F_Reader_statement.binds (ps := ["self", "room"]) fun _ _ _ _ _ _ us hl => match us, hl with | [_, _], _ => rfl
  have F_Reader_choice := fun_mk (st := s_Reader_choice) l_Reader_choice c_Reader_choice k_Reader_choice
  have b_Reader_choice := F_Reader_choice.binds (ps := ["self", "room"]) fun _ _ _ _ _ _ us hl => match us, hl with | [_, _], _ => rfl
  have F_Reader_block := fun_mk (st := s_Reader_block) l_Reader_block c_Reader_block k_Reader_block
  have b_Reader_block := F_Reader_block.binds (ps := ["self", "room"]) fun _ _ _ _ _ _ us hl => match us, hl with | [_, _], _ => rfl
  have F_Box_init := fun_mk (st := s_Box_init) l_Box_init c_Box_init k_Box_init
  have b_Box_init := F_Box_init.binds (ps := ["self", "buttons", "answers", "variables", "start", "block"]) fun _ _ _ _ _ _ us hl => match us, hl with | [_, _, _, _, _, _], _ => rfl
  have F_is_name := fun_mk (st := s_is_name) l_is_name c_is_name k_is_name
  have b_is_name := F_is_name.binds (ps := ["word"]) fun _ _ _ _ _ _ us hl => match us, hl with | [_], _ => rfl
  have F_digits_of := fun_mk (st := s_digits_of) l_digits_of c_digits_of k_digits_of
  have b_digits_of := F_digits_of.binds (ps := ["word", "most"]) fun _ _ _ _ _ _ us hl => match us, hl with | [_, _], _ => rfl
  have F_number_of := fun_mk (st := s_number_of) l_number_of c_number_of k_number_of
  have b_number_of := F_number_of.binds (ps := ["word"]) fun _ _ _ _ _ _ us hl => match us, hl with | [_], _ => rfl
  have F_expression_words := fun_mk (st := s_expression_words) l_expression_words c_expression_words k_expression_words
  have b_expression_words := F_expression_words.binds (ps := ["expression"]) fun _ _ _ _ _ _ us hl => match us, hl with | [_], _ => rfl
  have F_read_box := fun_mk (st := s_read_box) l_read_box c_read_box k_read_box
  have b_read_box := F_read_box.binds (ps := ["text"]) fun _ _ _ _ _ _ us hl => match us, hl with | [_], _ => rfl
  have F_read_around := fun_mk (st := s_read_around) l_read_around c_read_around k_read_around
  have b_read_around := F_read_around.binds (ps := ["text"]) fun _ _ _ _ _ _ us hl => match us, hl with | [_], _ => rfl
  have F_read_any := fun_mk (st := s_read_any) l_read_any c_read_any k_read_any
  have b_read_any := F_read_any.binds (ps := ["text", "uses"]) fun _ _ _ _ _ _ us hl => match us, hl with | [_, _], _ => rfl
  have F_block_words := fun_mk (st := s_block_words) l_block_words c_block_words k_block_words
  have b_block_words := F_block_words.binds (ps := ["block"]) fun _ _ _ _ _ _ us hl => match us, hl with | [_], _ => rfl
  have F_box_text := fun_mk (st := s_box_text) l_box_text c_box_text k_box_text
  have b_box_text := F_box_text.binds (ps := ["box"]) fun _ _ _ _ _ _ us hl => match us, hl with | [_], _ => rfl
  have F_law_pool := fun_mk (st := s_law_pool) l_law_pool c_law_pool k_law_pool
  have b_law_pool := F_law_pool.binds (ps := ["_law_script", "_law_budget"]) fun _ _ _ _ _ _ us hl => match us, hl with | [_, _], _ => rfl
  have F_law_draw := fun_mk (st := s_law_draw) l_law_draw c_law_draw k_law_draw
  have b_law_draw := F_law_draw.binds (ps := ["_law_pool_here", "_law_size"]) fun _ _ _ _ _ _ us hl => match us, hl with | [_, _], _ => rfl
  have F_law_spend := fun_mk (st := s_law_spend) l_law_spend c_law_spend k_law_spend
  have b_law_spend := F_law_spend.binds (ps := ["_law_pool_here"]) fun _ _ _ _ _ _ us hl => match us, hl with | [_], _ => rfl
  have F_law_same := fun_mk (st := s_law_same) l_law_same c_law_same k_law_same
  have b_law_same := F_law_same.binds (ps := ["_law_actual", "_law_due"]) fun _ _ _ _ _ _ us hl => match us, hl with | [_, _], _ => rfl
  have F_law_value := fun_mk (st := s_law_value) l_law_value c_law_value k_law_value
  have b_law_value := F_law_value.binds (ps := ["_law_pool_here", "_law_names_here", "_law_deep"]) fun _ _ _ _ _ _ us hl => match us, hl with | [_, _, _], _ => rfl
  have F_law_value_words := fun_mk (st := s_law_value_words) l_law_value_words c_law_value_words k_law_value_words
  have b_law_value_words := F_law_value_words.binds (ps := ["_law_due"]) fun _ _ _ _ _ _ us hl => match us, hl with | [_], _ => rfl
  have F_law_is_name := fun_mk (st := s_law_is_name) l_law_is_name c_law_is_name k_law_is_name
  have b_law_is_name := F_law_is_name.binds (ps := ["_law_word"]) fun _ _ _ _ _ _ us hl => match us, hl with | [_], _ => rfl
  have F_law_is_number := fun_mk (st := s_law_is_number) l_law_is_number c_law_is_number k_law_is_number
  have b_law_is_number := F_law_is_number.binds (ps := ["_law_word", "_law_least", "_law_upper"]) fun _ _ _ _ _ _ us hl => match us, hl with | [_, _, _], _ => rfl
  have F_law_values := fun_mk (st := s_law_values) l_law_values c_law_values k_law_values
  have b_law_values := F_law_values.binds (ps := ["_law_stack", "_law_names_here", "_law_word", "_law_room"]) fun _ _ _ _ _ _ us hl => match us, hl with | [_, _, _, _], _ => rfl
  have F_law_spoilt := fun_mk (st := s_law_spoilt) l_law_spoilt c_law_spoilt k_law_spoilt
  have b_law_spoilt := F_law_spoilt.binds (ps := ["_law_pool_here", "_law_words_here"]) fun _ _ _ _ _ _ us hl => match us, hl with | [_, _], _ => rfl
  have F_law_changed := fun_mk (st := s_law_changed) l_law_changed c_law_changed k_law_changed
  have b_law_changed := F_law_changed.binds (ps := ["_law_pool_here", "_law_words_here"]) fun _ _ _ _ _ _ us hl => match us, hl with | [_, _], _ => rfl
  have F_law_joined := fun_mk (st := s_law_joined) l_law_joined c_law_joined k_law_joined
  have b_law_joined := F_law_joined.binds (ps := ["_law_pool_here", "_law_words_here"]) fun _ _ _ _ _ _ us hl => match us, hl with | [_, _], _ => rfl
  have F_law_menu := fun_mk (st := s_law_menu) l_law_menu c_law_menu k_law_menu
  have b_law_menu := F_law_menu.binds (ps := ["_law_pool_here"]) fun _ _ _ _ _ _ us hl => match us, hl with | [_], _ => rfl
  have F_law_names := fun_mk (st := s_law_names) l_law_names c_law_names k_law_names
  have b_law_names := F_law_names.binds (ps := ["_law_pool_here", "_law_count"]) fun _ _ _ _ _ _ us hl => match us, hl with | [_, _], _ => rfl
  have F_law_block := fun_mk (st := s_law_block) l_law_block c_law_block k_law_block
  have b_law_block := F_law_block.binds (ps := ["_law_pool_here", "_law_scope", "_law_room", "_law_upper"]) fun _ _ _ _ _ _ us hl => match us, hl with | [_, _, _, _], _ => rfl
  have F_law_statement := fun_mk (st := s_law_statement) l_law_statement c_law_statement k_law_statement
  have b_law_statement := F_law_statement.binds (ps := ["_law_pool_here", "_law_scope", "_law_room"]) fun _ _ _ _ _ _ us hl => match us, hl with | [_, _, _], _ => rfl
  have F_law_box := fun_mk (st := s_law_box) l_law_box c_law_box k_law_box
  have b_law_box := F_law_box.binds (ps := ["_law_pool_here", "_law_sizes", "_law_draws", "_law_uses", "_law_results"]) fun _ _ _ _ _ _ us hl => match us, hl with | [_, _, _, _, _], _ => rfl
  have F_law_block_words := fun_mk (st := s_law_block_words) l_law_block_words c_law_block_words k_law_block_words
  have b_law_block_words := F_law_block_words.binds (ps := ["_law_block_here"]) fun _ _ _ _ _ _ us hl => match us, hl with | [_], _ => rfl
  have F_law_words := fun_mk (st := s_law_words) l_law_words c_law_words k_law_words
  have b_law_words := F_law_words.binds (ps := ["_law_box_here"]) fun _ _ _ _ _ _ us hl => match us, hl with | [_], _ => rfl
  have F_law_blocks := fun_mk (st := s_law_blocks) l_law_blocks c_law_blocks k_law_blocks
  have b_law_blocks := F_law_blocks.binds (ps := ["_law_stack", "_law_scope", "_law_word", "_law_room", "_law_kind"]) fun _ _ _ _ _ _ us hl => match us, hl with | [_, _, _, _, _], _ => rfl
  have F_law_next := fun_mk (st := s_law_next) l_law_next c_law_next k_law_next
  have b_law_next := F_law_next.binds (ps := ["_law_stack", "_law_scope", "_law_word"]) fun _ _ _ _ _ _ us hl => match us, hl with | [_, _, _], _ => rfl
  have F_law_wrong := fun_mk (st := s_law_wrong) l_law_wrong c_law_wrong k_law_wrong
  have b_law_wrong := F_law_wrong.binds (ps := ["_law_words_here", "_law_uses"]) fun _ _ _ _ _ _ us hl => match us, hl with | [_, _], _ => rfl
  have F_law := fun_mk (st := s_law) l_law c_law k_law
  have m_is_name := PySem.W.mg_of X G a_is_name
  have m_digits_of := PySem.W.mg_of X G a_digits_of
  have m_number_of := PySem.W.mg_of X G a_number_of
  have m_expression_words := PySem.W.mg_of X G a_expression_words
  have m_read_box := PySem.W.mg_of X G a_read_box
  have m_read_around := PySem.W.mg_of X G a_read_around
  have m_read_any := PySem.W.mg_of X G a_read_any
  have m_block_words := PySem.W.mg_of X G a_block_words
  have m_box_text := PySem.W.mg_of X G a_box_text
  have m_law_pool := PySem.W.mg_of X G a_law_pool
  have m_law_draw := PySem.W.mg_of X G a_law_draw
  have m_law_spend := PySem.W.mg_of X G a_law_spend
  have m_law_same := PySem.W.mg_of X G a_law_same
  have m_law_value := PySem.W.mg_of X G a_law_value
  have m_law_value_words := PySem.W.mg_of X G a_law_value_words
  have m_law_is_name := PySem.W.mg_of X G a_law_is_name
  have m_law_is_number := PySem.W.mg_of X G a_law_is_number
  have m_law_values := PySem.W.mg_of X G a_law_values
  have m_law_spoilt := PySem.W.mg_of X G a_law_spoilt
  have m_law_changed := PySem.W.mg_of X G a_law_changed
  have m_law_joined := PySem.W.mg_of X G a_law_joined
  have m_law_menu := PySem.W.mg_of X G a_law_menu
  have m_law_names := PySem.W.mg_of X G a_law_names
  have m_law_block := PySem.W.mg_of X G a_law_block
  have m_law_statement := PySem.W.mg_of X G a_law_statement
  have m_law_box := PySem.W.mg_of X G a_law_box
  have m_law_block_words := PySem.W.mg_of X G a_law_block_words
  have m_law_words := PySem.W.mg_of X G a_law_words
  have m_law_blocks := PySem.W.mg_of X G a_law_blocks
  have m_law_next := PySem.W.mg_of X G a_law_next
  have m_law_wrong := PySem.W.mg_of X G a_law_wrong
  refine ⟨PySem.W.fnOf "law" "law" (defArgs s_law) (defBody s_law) (defScope s_law) .none kV_law dc_law pm_law an_law cd_law ct_law, fun s v => .of_eq rfl, fun base _ _ => ?_⟩
  have Gis_name : CalX P w K mg base CX0 1 "is_name" spIsName := ⟨_, _, _, ok_is_name F_is_name T, m_is_name, F_is_name.kp, b_is_name⟩
  have Gdigits_of : CalX P w K mg base CX0 1 "digits_of" spDigits := ⟨_, _, _, ok_digits_of F_digits_of T, m_digits_of, F_digits_of.kp, b_digits_of⟩
  have Gnumber_of : CalX P w K mg base CX0 2 "number_of" spNumberOf := ⟨_, _, _, ok_number_of F_number_of T Gdigits_of, m_number_of, F_number_of.kp, b_number_of⟩
  have GCursor : MakX P w K mg base CX0 1 "Cursor" CC (spCurInit CC) := ⟨_, _, _, ok_Cursor_init F_Cursor_init T, ⟨mk_CC, a_Cursor_init, i_Cursor_init, kc_CC⟩, PySem.W.mg_of X G a_CC, b_Cursor_init⟩
  have GReader : MakX P w K mg base CX0 1 "Reader" CR (spRdInit CR) := ⟨_, _, _, ok_Reader_init F_Reader_init T, ⟨mk_CR, a_Reader_init, i_Reader_init, kc_CR⟩, PySem.W.mg_of X G a_CR, b_Reader_init⟩
  have GBox : MakX P w K mg base CX0 1 "Box" CX (spBoxInit CX) := ⟨_, _, _, ok_Box_init F_Box_init T, ⟨mk_CX, a_Box_init, i_Box_init, kc_CX⟩, PySem.W.mg_of X G a_CX, b_Box_init⟩
  have GCursor_next : MetX P w K mg base CX0 1 CC "next" (spNext CC) := ⟨_, _, _, ok_Cursor_next F_Cursor_next T, ⟨a_Cursor_next, i_Cursor_next, k_Cursor_next⟩, b_Cursor_next⟩
  have GCursor_word : MetX P w K mg base (L2N.CX P w) 3 CC "word" (spWord K CB CC) := ⟨_, _, _, ok_Cursor_word F_Cursor_word T GCursor_next, ⟨a_Cursor_word, i_Cursor_word, k_Cursor_word⟩, b_Cursor_word⟩
  have GCursor_number : MetX P w K mg base (L2N.CX P w) 3 CC "number" (spNumber CB CC) := ⟨_, _, _, ok_Cursor_number F_Cursor_number T GCursor_next Gnumber_of, ⟨a_Cursor_number, i_Cursor_number, k_Cursor_number⟩, b_Cursor_number⟩
  have GCursor_new_name : MetX P w K mg base (L2N.CX P w) 3 CC "new_name" (spNewName K CB CC) := ⟨_, _, _, ok_Cursor_new_name F_Cursor_new_name T GCursor_next Gis_name, ⟨a_Cursor_new_name, i_Cursor_new_name, k_Cursor_new_name⟩, b_Cursor_new_name⟩
  have GCursor_finish : MetX P w K mg base (L2N.CX P w) 3 CC "finish" (spFinish CB CC) := ⟨_, _, _, ok_Cursor_finish F_Cursor_finish T, ⟨a_Cursor_finish, i_Cursor_finish, k_Cursor_finish⟩, b_Cursor_finish⟩
  have GCursor_expression : MetX P w K mg base (L2N.CX P w) 8 CC "expression" (spExpr CB CC 5) := expr_all F_Cursor_expression T GCursor_next Gnumber_of ⟨a_Cursor_expression, i_Cursor_expression, k_Cursor_expression⟩ b_Cursor_expression 5
  have GReader_block : MetX P w K mg base (L2N.CX P w) 22 CR "block" (spBlock CB CC CR 4) := (rd_all F_Reader_choice F_Reader_statement F_Reader_block T ⟨a_Reader_choice, i_Reader_choice, k_Reader_choice⟩ ⟨a_Reader_statement, i_Reader_statement, k_Reader_statement⟩ ⟨a_Reader_block, i_Reader_block, k_Reader_block⟩ b_Reader_choice b_Reader_statement b_Reader_block GCursor_next GCursor_word GCursor_number GCursor_expression 4).2
  have Gread_any : CalX P w K mg base (L2N.CX P w) 23 "read_any" (spReadAny CB CX) := ⟨_, _, _, ok_read_any F_read_any T GCursor GReader GBox GCursor_next GCursor_word GCursor_number GCursor_new_name GCursor_finish GReader_block, m_read_any, F_read_any.kp, b_read_any⟩
  have Gread_box : CalX P w K mg base (L2N.CX P w) 24 "read_box" (spRead CB CX 0) := ⟨_, _, _, ok_read_box F_read_box Gread_any, m_read_box, F_read_box.kp, b_read_box⟩
  have Gread_around : CalX P w K mg base (L2N.CX P w) 24 "read_around" (spRead CB CX 24) := ⟨_, _, _, ok_read_around F_read_around T Gread_any, m_read_around, F_read_around.kp, b_read_around⟩
  have Gexpression_words : CalX P w K mg base CX0 6 "expression_words" (spEW 5) := ew_all F_expression_words T m_expression_words b_expression_words 5
  have Gblock_words : CalX P w K mg base CX0 11 "block_words" (spBW 4) := bw_all F_block_words T Gexpression_words m_block_words b_block_words 4
  have Gbox_text : CalX P w K mg base CX0 12 "box_text" (spBoxText CX) := ⟨_, _, _, ok_box_text F_box_text T Gblock_words, m_box_text, F_box_text.kp, b_box_text⟩
  have Gis_number : CalX P w K mg base CX0 1 "_law_is_number" spLIsNum := ⟨_, _, _, ok_law_is_number F_law_is_number T , m_law_is_number, F_law_is_number.kp, b_law_is_number⟩
  have Gblocks : CalX P w K mg base CX0 1 "_law_blocks" spLBlocks := ⟨_, _, _, ok_law_blocks F_law_blocks T , m_law_blocks, F_law_blocks.kp, b_law_blocks⟩
  have Gvalues : CalX P w K mg base CX0 2 "_law_values" spLValues := ⟨_, _, _, ok_law_values F_law_values T Gis_number, m_law_values, F_law_values.kp, b_law_values⟩
  have GlawIsName : CalX P w K mg base CX0 1 "_law_is_name" spLIsName := ⟨_, _, _, ok_law_is_name F_law_is_name T, m_law_is_name, F_law_is_name.kp, b_law_is_name⟩
  have Gnext : CalX P w K mg base CX0 3 "_law_next" spLNext := ⟨_, _, _, ok_law_next F_law_next T Gis_number GlawIsName Gvalues Gblocks, m_law_next, F_law_next.kp, b_law_next⟩
  have Gwrong : CalX P w K mg base CX0 4 "_law_wrong" (spLWrong K) := ⟨_, _, _, ok_law_wrong F_law_wrong T Gnext, m_law_wrong, F_law_wrong.kp, b_law_wrong⟩
  have Gpool : CalX P w K mg base CX0 1 "_law_pool" (spLPool K) := ⟨_, _, _, ok_law_pool F_law_pool T , m_law_pool, F_law_pool.kp, b_law_pool⟩
  have Gdraw : CalX P w K mg base CX0 1 "_law_draw" spLDraw := ⟨_, _, _, ok_law_draw F_law_draw T , m_law_draw, F_law_draw.kp, b_law_draw⟩
  have Gspend : CalX P w K mg base CX0 1 "_law_spend" spLSpend := ⟨_, _, _, ok_law_spend F_law_spend T , m_law_spend, F_law_spend.kp, b_law_spend⟩
  have Gmenu : CalX P w K mg base CX0 2 "_law_menu" spLMenu := ⟨_, _, _, ok_law_menu F_law_menu T Gdraw, m_law_menu, F_law_menu.kp, b_law_menu⟩
  have Gnames : CalX P w K mg base CX0 2 "_law_names" spLNames := ⟨_, _, _, ok_law_names F_law_names T Gdraw, m_law_names, F_law_names.kp, b_law_names⟩
  have Gspoilt : CalX P w K mg base CX0 2 "_law_spoilt" spLSpoilt := ⟨_, _, _, ok_law_spoilt F_law_spoilt T Gdraw, m_law_spoilt, F_law_spoilt.kp, b_law_spoilt⟩
  have Gjoined : CalX P w K mg base CX0 2 "_law_joined" spLJoined := ⟨_, _, _, ok_law_joined F_law_joined T Gdraw, m_law_joined, F_law_joined.kp, b_law_joined⟩
  have Gchanged : CalX P w K mg base CX0 3 "_law_changed" spLChanged := ⟨_, _, _, ok_law_changed F_law_changed T Gdraw Gmenu Gspoilt, m_law_changed, F_law_changed.kp, b_law_changed⟩
  have Gvalue : CalX P w K mg base CX0 6 "_law_value" spLV := value_two F_law_value T Gdraw m_law_value b_law_value
  have Gblock : CalX P w K mg base CX0 16 "_law_block" (spLBlock 4) := lblock_all F_law_statement F_law_block T m_law_statement m_law_block b_law_statement b_law_block Gdraw Gspend Gvalue 4
  have Gbox : CalX P w K mg base CX0 17 "_law_box" spLBox := ⟨_, _, _, ok_law_box F_law_box T Gdraw Gnames Gblock, m_law_box, F_law_box.kp, b_law_box⟩
  have Gvalue_words : CalX P w K mg base CX0 6 "_law_value_words" (spEW 5) := vw_all F_law_value_words T m_law_value_words b_law_value_words 5
  have GlawBW : CalX P w K mg base CX0 11 "_law_block_words" (spBW 4) := lbw_all F_law_block_words T Gvalue_words m_law_block_words b_law_block_words 4
  have Gwords : CalX P w K mg base CX0 12 "_law_words" spLWords := ⟨_, _, _, ok_law_words F_law_words T GlawBW, m_law_words, F_law_words.kp, b_law_words⟩
  have Gsame : CalX P w K mg base CX0 1 "_law_same" spSame := ⟨_, _, _, ok_law_same F_law_same T , m_law_same, F_law_same.kp, b_law_same⟩
  have GsameI : CalH P w K mg base CX0 1 "_law_same" spSameI := ⟨_, _, _, ok_law_sameI F_law_same T, m_law_same, F_law_same.kp, b_law_same⟩
  exact ok_law F_law T TL Gpool Gdraw Gchanged Gwords Gbox Gmenu Gwrong Gjoined Gbox_text Gread_box Gread_around Gsame GsameI
theorem walk {l : PySem.W.OpenLaw} {q : Program} {loose : List Str} {XP : (Str → Option Value) → Heap → Prop} {YP : World → Heap → Prop} {d : DefRec} {K : Params → PySem.W.Frag} (hn : l.most = some 63) (hdf : d.params.defaults = [])
    (hY : ∀ (w : World) (h : Heap), YP w h → (K w.params).In h)
    (F : ∀ (w : World) (mg : Str → Option Value) (fa : Addr) (h : Heap), (K w.params).In h → h.Ns mainGlobals mg → mg d.name = some (.ref fa) →
      ∃ fd : FuncData, (∀ (s : Shared) (u : Value), BindsTo s fd ⟨[u], []⟩ [("_law_script", u)]) ∧ ∀ base : Heap, (K w.params).In base → base.Ns mainGlobals mg → FnOk l.prog w (K w.params) mg base CX0 25 fa fd ["_law_script"] (spLaw (K w.params))) :
    PySem.W.WalkO q loose XP YP l.row.toRowW d [] (fun f vs => PySem.call f vs) :=
  L2.walk_of (n := 63) (k := 25) (x := "_law_script") (CX := fun _ => CX0) (sp := fun w => spLaw (K w.params)) hn (by decide) hdf ⟨rfl, by decide, by decide⟩ hY F (fun _ _ a ns hl _ hS => ⟨a, ns, rfl, hS, by omega, fun _ => rfl⟩) fun _ _ _ _ _ z => z
end Nt

set_option Elab.async false
set_option linter.all false
set_option maxRecDepth 100000
open PySem PySem.W PyProof.Rows in
set_option maxRecDepth 100000 in
set_option maxHeartbeats 0 in
theorem PySem.Challenge.cw_notesttells_k50_whole_boxes_are_read_exa_holds : PySem.Challenge.rw_notesttells_k50_whole_boxes_are_read_exa.Holds := by
  w_on; o_law; k_head; (case hw => w_witness2)
  k_fill
  refine Nt.walk (l := PySem.Challenge.rw_notesttells_k50_whole_boxes_are_read_exa) rfl rfl (fun w h Y => PySem.W.kIn_of Y) ?F
  case F =>
    intro w mg fa h KX G hmg
    refine' Nt.all_mk (P := (PySem.Challenge.rw_notesttells_k50_whole_boxes_are_read_exa).prog) KX G hmg ?a_CC ?pg_CC ?hd_CC ?po_CC ?sa_CC ?mk_CC ?kc_CC ?a_CR ?pg_CR ?hd_CR ?po_CR ?sa_CR ?mk_CR ?kc_CR ?a_CX ?pg_CX ?hd_CX ?po_CX ?sa_CX ?mk_CX ?kc_CX ?n_CC_words ?n_CC_at ?n_CR_cursor ?n_CR_names ?n_CR_left ?n_CR_uses ?n_CR_extra ?n_CX_buttons ?n_CX_answers ?n_CX_variables ?n_CX_start ?n_CX_block ?a_Cursor_init ?i_Cursor_init ?l_Cursor_init ?c_Cursor_init ?k_Cursor_init ?a_Cursor_next ?i_Cursor_next ?l_Cursor_next ?c_Cursor_next ?k_Cursor_next ?a_Cursor_word ?i_Cursor_word ?l_Cursor_word ?c_Cursor_word ?k_Cursor_word ?a_Cursor_number ?i_Cursor_number ?l_Cursor_number ?c_Cursor_number ?k_Cursor_number ?a_Cursor_new_name ?i_Cursor_new_name ?l_Cursor_new_name ?c_Cursor_new_name ?k_Cursor_new_name ?a_Cursor_expression ?i_Cursor_expression ?l_Cursor_expression ?c_Cursor_expression ?k_Cursor_expression ?a_Cursor_finish ?i_Cursor_finish ?l_Cursor_finish ?c_Cursor_finish ?k_Cursor_finish ?a_Reader_init ?i_Reader_init ?l_Reader_init ?c_Reader_init ?k_Reader_init ?a_Reader_statement ?i_Reader_statement ?l_Reader_statement ?c_Reader_statement ?k_Reader_statement ?a_Reader_choice ?i_Reader_choice ?l_Reader_choice ?c_Reader_choice ?k_Reader_choice ?a_Reader_block ?i_Reader_block ?l_Reader_block ?c_Reader_block ?k_Reader_block ?a_Box_init ?i_Box_init ?l_Box_init ?c_Box_init ?k_Box_init ?a_is_name ?l_is_name ?c_is_name ?k_is_name ?a_digits_of ?l_digits_of ?c_digits_of ?k_digits_of ?a_number_of ?l_number_of ?c_number_of ?k_number_of ?a_expression_words ?l_expression_words ?c_expression_words ?k_expression_words ?a_read_box ?l_read_box ?c_read_box ?k_read_box ?a_read_around ?l_read_around ?c_read_around ?k_read_around ?a_read_any ?l_read_any ?c_read_any ?k_read_any ?a_block_words ?l_block_words ?c_block_words ?k_block_words ?a_box_text ?l_box_text ?c_box_text ?k_box_text ?a_law_pool ?l_law_pool ?c_law_pool ?k_law_pool ?a_law_draw ?l_law_draw ?c_law_draw ?k_law_draw ?a_law_spend ?l_law_spend ?c_law_spend ?k_law_spend ?a_law_same ?l_law_same ?c_law_same ?k_law_same ?a_law_value ?l_law_value ?c_law_value ?k_law_value ?a_law_value_words ?l_law_value_words ?c_law_value_words ?k_law_value_words ?a_law_is_name ?l_law_is_name ?c_law_is_name ?k_law_is_name ?a_law_is_number ?l_law_is_number ?c_law_is_number ?k_law_is_number ?a_law_values ?l_law_values ?c_law_values ?k_law_values ?a_law_spoilt ?l_law_spoilt ?c_law_spoilt ?k_law_spoilt ?a_law_changed ?l_law_changed ?c_law_changed ?k_law_changed ?a_law_joined ?l_law_joined ?c_law_joined ?k_law_joined ?a_law_menu ?l_law_menu ?c_law_menu ?k_law_menu ?a_law_names ?l_law_names ?c_law_names ?k_law_names ?a_law_block ?l_law_block ?c_law_block ?k_law_block ?a_law_statement ?l_law_statement ?c_law_statement ?k_law_statement ?a_law_box ?l_law_box ?c_law_box ?k_law_box ?a_law_block_words ?l_law_block_words ?c_law_block_words ?k_law_block_words ?a_law_words ?l_law_words ?c_law_words ?k_law_words ?a_law_blocks ?l_law_blocks ?c_law_blocks ?k_law_blocks ?a_law_next ?l_law_next ?c_law_next ?k_law_next ?a_law_wrong ?l_law_wrong ?c_law_wrong ?k_law_wrong ?a_law ?l_law ?c_law ?k_law ?g_KEYS ?l_KEYS ?g_SIGNS ?l_SIGNS ?g_GREATEST ?g_DEEPEST ?g_MOST_VARIABLES ?g_MOST_SIZE ?g_MOST_DRAWS ?g_MOST_USES ?g_MOST_RESULTS ?g_MOST_IFS ?z_len ?z_all ?z_range ?z_isinstance ?z_int ?z_str ?z_tuple ?z_list ?z_bool ?z_super ?a_CB ?x_CB ?r_CB ?sa_CB ?n_CB ?i_CB ?t_fB ?k_CB ?e_CB ?v_CB ?m_CB ?s_CB ?op_ ?su_CB ?ty_CB ?l_fB ?c_fB ?l_cda ?v_cda ?f_cda ?l_cc ?tp ?ga_CB ?gg_CB ?hd_CB ?ha_CB ?hn_ ?ht_ ?hm_CB ?a_CT ?e_CT ?h_CT ?t_CT ?s_CT ?a_C1 ?h_C1 ?t_C1 ?s_C1 ?a_C2 ?h_C2 ?t_C2 ?s_C2 ?a_C3 ?h_C3 ?t_C3 ?s_C3 ?a_C4 ?h_C4 ?t_C4 ?s_C4
    (case a_CC => k_is)
    (case pg_CC => k_is)
    (case hd_CC => k_is)
    (case po_CC => k_is)
    (case sa_CC => k_is)
    (case mk_CC => k_is)
    (case kc_CC => k_is)
    (case a_CR => k_is)
    (case pg_CR => k_is)
    (case hd_CR => k_is)
    (case po_CR => k_is)
    (case sa_CR => k_is)
    (case mk_CR => k_is)
    (case kc_CR => k_is)
    (case a_CX => k_is)
    (case pg_CX => k_is)
    (case hd_CX => k_is)
    (case po_CX => k_is)
    (case sa_CX => k_is)
    (case mk_CX => k_is)
    (case kc_CX => k_is)
    (case n_CC_words => k_is)
    (case n_CC_at => k_is)
    (case n_CR_cursor => k_is)
    (case n_CR_names => k_is)
    (case n_CR_left => k_is)
    (case n_CR_uses => k_is)
    (case n_CR_extra => k_is)
    (case n_CX_buttons => k_is)
    (case n_CX_answers => k_is)
    (case n_CX_variables => k_is)
    (case n_CX_start => k_is)
    (case n_CX_block => k_is)
    (case a_Cursor_init => k_is)
    (case i_Cursor_init => k_is)
    (case l_Cursor_init => k_is)
    (case c_Cursor_init => k_is)
    (case k_Cursor_init => k_is)
    (case a_Cursor_next => k_is)
    (case i_Cursor_next => k_is)
    (case l_Cursor_next => k_is)
    (case c_Cursor_next => k_is)
    (case k_Cursor_next => k_is)
    (case a_Cursor_word => k_is)
    (case i_Cursor_word => k_is)
    (case l_Cursor_word => k_is)
    (case c_Cursor_word => k_is)
    (case k_Cursor_word => k_is)
    (case a_Cursor_number => k_is)
    (case i_Cursor_number => k_is)
    (case l_Cursor_number => k_is)
    (case c_Cursor_number => k_is)
    (case k_Cursor_number => k_is)
    (case a_Cursor_new_name => k_is)
    (case i_Cursor_new_name => k_is)
    (case l_Cursor_new_name => k_is)
    (case c_Cursor_new_name => k_is)
    (case k_Cursor_new_name => k_is)
    (case a_Cursor_expression => k_is)
    (case i_Cursor_expression => k_is)
    (case l_Cursor_expression => k_is)
    (case c_Cursor_expression => k_is)
    (case k_Cursor_expression => k_is)
    (case a_Cursor_finish => k_is)
    (case i_Cursor_finish => k_is)
    (case l_Cursor_finish => k_is)
    (case c_Cursor_finish => k_is)
    (case k_Cursor_finish => k_is)
    (case a_Reader_init => k_is)
    (case i_Reader_init => k_is)
    (case l_Reader_init => k_is)
    (case c_Reader_init => k_is)
    (case k_Reader_init => k_is)
    (case a_Reader_statement => k_is)
    (case i_Reader_statement => k_is)
    (case l_Reader_statement => k_is)
    (case c_Reader_statement => k_is)
    (case k_Reader_statement => k_is)
    (case a_Reader_choice => k_is)
    (case i_Reader_choice => k_is)
    (case l_Reader_choice => k_is)
    (case c_Reader_choice => k_is)
    (case k_Reader_choice => k_is)
    (case a_Reader_block => k_is)
    (case i_Reader_block => k_is)
    (case l_Reader_block => k_is)
    (case c_Reader_block => k_is)
    (case k_Reader_block => k_is)
    (case a_Box_init => k_is)
    (case i_Box_init => k_is)
    (case l_Box_init => k_is)
    (case c_Box_init => k_is)
    (case k_Box_init => k_is)
    (case a_is_name => k_is)
    (case l_is_name => k_is)
    (case c_is_name => k_is)
    (case k_is_name => k_is)
    (case a_digits_of => k_is)
    (case l_digits_of => k_is)
    (case c_digits_of => k_is)
    (case k_digits_of => k_is)
    (case a_number_of => k_is)
    (case l_number_of => k_is)
    (case c_number_of => k_is)
    (case k_number_of => k_is)
    (case a_expression_words => k_is)
    (case l_expression_words => k_is)
    (case c_expression_words => k_is)
    (case k_expression_words => k_is)
    (case a_read_box => k_is)
    (case l_read_box => k_is)
    (case c_read_box => k_is)
    (case k_read_box => k_is)
    (case a_read_around => k_is)
    (case l_read_around => k_is)
    (case c_read_around => k_is)
    (case k_read_around => k_is)
    (case a_read_any => k_is)
    (case l_read_any => k_is)
    (case c_read_any => k_is)
    (case k_read_any => k_is)
    (case a_block_words => k_is)
    (case l_block_words => k_is)
    (case c_block_words => k_is)
    (case k_block_words => k_is)
    (case a_box_text => k_is)
    (case l_box_text => k_is)
    (case c_box_text => k_is)
    (case k_box_text => k_is)
    (case a_law_pool => k_is)
    (case l_law_pool => k_is)
    (case c_law_pool => k_is)
    (case k_law_pool => k_is)
    (case a_law_draw => k_is)
    (case l_law_draw => k_is)
    (case c_law_draw => k_is)
    (case k_law_draw => k_is)
    (case a_law_spend => k_is)
    (case l_law_spend => k_is)
    (case c_law_spend => k_is)
    (case k_law_spend => k_is)
    (case a_law_same => k_is)
    (case l_law_same => k_is)
    (case c_law_same => k_is)
    (case k_law_same => k_is)
    (case a_law_value => k_is)
    (case l_law_value => k_is)
    (case c_law_value => k_is)
    (case k_law_value => k_is)
    (case a_law_value_words => k_is)
    (case l_law_value_words => k_is)
    (case c_law_value_words => k_is)
    (case k_law_value_words => k_is)
    (case a_law_is_name => k_is)
    (case l_law_is_name => k_is)
    (case c_law_is_name => k_is)
    (case k_law_is_name => k_is)
    (case a_law_is_number => k_is)
    (case l_law_is_number => k_is)
    (case c_law_is_number => k_is)
    (case k_law_is_number => k_is)
    (case a_law_values => k_is)
    (case l_law_values => k_is)
    (case c_law_values => k_is)
    (case k_law_values => k_is)
    (case a_law_spoilt => k_is)
    (case l_law_spoilt => k_is)
    (case c_law_spoilt => k_is)
    (case k_law_spoilt => k_is)
    (case a_law_changed => k_is)
    (case l_law_changed => k_is)
    (case c_law_changed => k_is)
    (case k_law_changed => k_is)
    (case a_law_joined => k_is)
    (case l_law_joined => k_is)
    (case c_law_joined => k_is)
    (case k_law_joined => k_is)
    (case a_law_menu => k_is)
    (case l_law_menu => k_is)
    (case c_law_menu => k_is)
    (case k_law_menu => k_is)
    (case a_law_names => k_is)
    (case l_law_names => k_is)
    (case c_law_names => k_is)
    (case k_law_names => k_is)
    (case a_law_block => k_is)
    (case l_law_block => k_is)
    (case c_law_block => k_is)
    (case k_law_block => k_is)
    (case a_law_statement => k_is)
    (case l_law_statement => k_is)
    (case c_law_statement => k_is)
    (case k_law_statement => k_is)
    (case a_law_box => k_is)
    (case l_law_box => k_is)
    (case c_law_box => k_is)
    (case k_law_box => k_is)
    (case a_law_block_words => k_is)
    (case l_law_block_words => k_is)
    (case c_law_block_words => k_is)
    (case k_law_block_words => k_is)
    (case a_law_words => k_is)
    (case l_law_words => k_is)
    (case c_law_words => k_is)
    (case k_law_words => k_is)
    (case a_law_blocks => k_is)
    (case l_law_blocks => k_is)
    (case c_law_blocks => k_is)
    (case k_law_blocks => k_is)
    (case a_law_next => k_is)
    (case l_law_next => k_is)
    (case c_law_next => k_is)
    (case k_law_next => k_is)
    (case a_law_wrong => k_is)
    (case l_law_wrong => k_is)
    (case c_law_wrong => k_is)
    (case k_law_wrong => k_is)
    (case a_law => k_is)
    (case l_law => k_is)
    (case c_law => k_is)
    (case k_law => k_is)
    (case g_KEYS => k_is)
    (case l_KEYS => k_is)
    (case g_SIGNS => k_is)
    (case l_SIGNS => k_is)
    (case g_GREATEST => k_is)
    (case g_DEEPEST => k_is)
    (case g_MOST_VARIABLES => k_is)
    (case g_MOST_SIZE => k_is)
    (case g_MOST_DRAWS => k_is)
    (case g_MOST_USES => k_is)
    (case g_MOST_RESULTS => k_is)
    (case g_MOST_IFS => k_is)
    (case z_len => k_is)
    (case z_all => k_is)
    (case z_range => k_is)
    (case z_isinstance => k_is)
    (case z_int => k_is)
    (case z_str => k_is)
    (case z_tuple => k_is)
    (case z_list => k_is)
    (case z_bool => k_is)
    (case z_super => k_is)
    (case a_CB => k_is)
    (case x_CB => k_is)
    (case r_CB => first | rfl | decide +kernel)
    (case sa_CB => k_is)
    (case n_CB => k_is)
    (case i_CB => k_is)
    (case t_fB => k_is)
    (case k_CB => k_is)
    (case e_CB => k_is)
    (case v_CB => k_is)
    (case m_CB => k_is)
    (case s_CB => first | rfl | k_is)
    (case op_ => k_is)
    (case su_CB => ks_is)
    (case ty_CB => k_is)
    (case l_fB => k_is)
    (case c_fB => k_is)
    (case l_cda => k_is)
    (case v_cda => rfl)
    (case f_cda => first | rfl | decide +kernel)
    (case l_cc => k_is)
    (case tp => first | rfl | decide +kernel)
    (case ga_CB => k_is)
    (case gg_CB => k_is)
    (case hd_CB => k_is)
    (case ha_CB => k_is)
    (case hn_ => k_is)
    (case ht_ => k_is)
    (case hm_CB => k_is)
    (case a_CT => k_is)
    (case e_CT => k_is)
    (case h_CT => k_is)
    (case t_CT => k_is)
    (case s_CT => k_is)
    (case a_C1 => k_is)
    (case h_C1 => k_is)
    (case t_C1 => k_is)
    (case s_C1 => k_is)
    (case a_C2 => k_is)
    (case h_C2 => k_is)
    (case t_C2 => k_is)
    (case s_C2 => k_is)
    (case a_C3 => k_is)
    (case h_C3 => k_is)
    (case t_C3 => k_is)
    (case s_C3 => k_is)
    (case a_C4 => k_is)
    (case h_C4 => k_is)
    (case t_C4 => k_is)
    (case s_C4 => k_is)

